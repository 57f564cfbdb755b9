
import Derived.Test.YtkoioidpbbbaiaaGreatJb5
import Derived.KernelRfl
import Derived.Test.YtkoioidpbbbaiaaGreatJb4
import Derived.Test.YtkoioidpbbbaiaaGreatProg
set_option linter.unusedSimpArgs false
set_option linter.unusedVariables false
set_option linter.unusedSectionVars false

open Array renaming length_toList→sZ
open Bool renaming and_true→tt
open Classical renaming choose_spec→ux
open Int renaming le_refl→sR,toNat_natCast→tp
open List renaming any_eq_true→vC,append_assoc→sx,append_nil→sM,drop_eq_getElem_cons→s6,drop_length→uY,exists_cons_of_ne_nil→tL,filter_append→t_,filter_congr→uh,filter_cons_of_neg→uC,filter_cons_of_pos→uX,filter_eq_self→tH,filter_filter→uR,find?_eq_none→vD,flatMap_append→ug,getD_eq_getElem?_getD→sw,getElem?_append→sq,getElem?_append_right→ss,getElem?_eq_getElem→si,getElem?_eq_some_iff→sa,getElem?_map→sk,getElem_map→tK,getElem_of_mem→uA,length_append→sy,length_cons→sK,length_eq_zero_iff→sP,length_erase_of_mem→tT,length_map→sY,length_nil→tV,length_take→s_,map_append→sO,map_cons→sG,map_set→tG,mem_append→tf,mem_cons→sA,mem_filter→sX,mem_flatMap→tJ,mem_map→sC,mem_map_of_mem→td,mem_range→sH,mem_singleton→sT,nil_append→tN,nodup_append→ui,nodup_cons→tU,not_mem_nil→tQ,set_append_right→uV,take_length→uB,take_of_length_le→te,take_succ_eq_append_getElem→uD
open Nat renaming add_assoc→tc,le_refl→sc,lt_succ_self→sD,zero_add→sB,zero_le→sE
open Option renaming bind_some→sb,map_eq_some_iff→r_,map_some→se
namespace Go.Proofs.YtkoioidpbbbaiaaGreat.Ab
open Go
set_option maxRecDepth 20000
set_option maxHeartbeats 4000000
theorem Xn (l:List Int) (ao:l.length≤1000):Seq Tryz.prog 87 [.bS [.av (l.map h0) l.length .shared]] (l.map h0):=by
 intro L N qQ hlen fq ai Y;obtain ⟨Z,K7,Ku⟩:=agb ai Y;have HF:(l.map h0).length=l.length:=by simp
 have UH:∀ j (h:j<l.length),Sem Tryz.prog (.yield L) [h0 l[j]] (qQ j++Z j) 0 (.bool true) (qQ (j+1)++Z (j+1)):=fun j aw=>by
  have:=Ku j (by rw [HF];exact aw);rw [tK] at this;exact this
 refine ⟨Z l.length,?_⟩;rw [HF];refine rA eG adk rfl (IF ?_) fun Q bp=>?_
 ·have key:∀ j,j≤l.length→(qQ 0++Y).length≤(qQ j++Z j).length:=fun j=>by
   induction j with
   | zero=>intro _;rw [K7];exact sc _
   | succ j a8=>intro aw;exact Nat.le_trans (a8 (by omega)) (UH j (by omega)).1.1
  exact key l.length (sc _)
 unfold W9;conv=>whnf
 refine .intro (fun m T H=>∃ j:Nat,j≤l.length∧m=l.length-j∧T=qc 16 [(0,.yield L),(5,.av (l.map h0) l.length .shared),(6,h0 (l.length:Int)),(7,h0 (j:Int))]∧H=qQ j++Z j) l.length ⟨0,sE _,rfl,rfl,by rw [K7]⟩ ?_;rintro m T H ⟨j,aw,rfl,rfl,rfl⟩;conv=>whnf
 refine HE (fun J7=>?_) (fun J7=>?_)
 ·have aR:j<l.length:=by omega
  have af:0≤(j:Int)∧(j:Int)<(l.length:Int):=by omega
  conv=>whnf
  refine ⟨af,?_⟩;rw [ru h0 l (j:Int) af];conv=>whnf
  rw [rr aR];refine ⟨_,_,rq (UH j aR),?_⟩;conv=>whnf
  refine ⟨l.length-(j+1),by omega,j+1,by omega,rfl,?_,rfl⟩;rw [show ((j+1:Nat):Int)=IntKind.i64.wrap ((j:Int)+1) by rw [HO _ (by omega) (by omega)];omega];rfl
 ·obtain rfl:j=l.length:=by omega
  conv=>whnf
  exact bp _ _ _ ⟨.inl rfl,lI.refl _,rfl⟩
def I0 (l:List Int):List Int:=(Sort.insertionSort Sort.ltInt l.toArray 0 l.length).toList
theorem U0 (lt:Int→Int→Bool) (d:Array Int) (a b:Nat):(Sort.insertionSort lt d a b).size=d.size:=by
 have kE:∀ (j:Nat) (d:Array Int),(Sort.insInner lt a j d).size=d.size:=fun j=>by
  induction j with
  | zero=>intro d;rfl
  | succ j a8 =>
    intro d;rw [Sort.insInner];split
    ·rw [a8,swp_size]
    ·rfl
 show (Sort.insOuter lt a b (a+1) d).size=d.size
 have:∀ (n i:Nat) (d:Array Int),b-i=n→(Sort.insOuter lt a b i d).size=d.size:=fun n=>by
  induction n with
  | zero=>intro i d h;rw [Sort.insOuter.eq_1,if_neg (by omega)]
  | succ n a8=>intro i d h;rw [Sort.insOuter.eq_1,if_pos (by omega),a8 _ _ (by omega),kE]
 exact this _ _ d rfl
section
variable {H:List ar} {lo:Nat}
theorem acC:Sem Go.Proofs.Tryz.prog (.fn 110) [.av [] 0 .full,h0 0,h0 0] H lo (.tuple []) H:=by
 refine rA eG Vv rfl (a'.refl _ _) fun Q bp=>?_;unfold Rs;conv=>whnf
 refine .intro (fun m T H'=>T=qc 49 [(0,.av [] 0 .full),(1,h0 0),(2,h0 0),(6,h0 1)]∧H=H') 0 ⟨rfl,rfl⟩ ?_;rintro m T H' ⟨rfl,rfl⟩;conv=>whnf
 exact bp _ _ _ ⟨.inl rfl,⟨by simp,fun j o aw=>.inr aw⟩,rfl⟩
theorem aeH {Jq:Int}:Sem Go.Proofs.Tryz.prog (.fn 103) [.av [] 0 .full,h0 0,h0 0,h0 Jq] H lo (.tuple []) H:=by
 refine rA eG Vu rfl (a'.refl _ _) fun Q bp=>?_;unfold Rq;obtain ⟨Qt,Jl⟩:∃ c,NG=c:=⟨_,rfl⟩;rw [Jl];conv=>whnf
 refine .intro (fun m T H'=>T=qc 134 [(0,.av [] 0 .full),(1,h0 0),(2,h0 0),(3,h0 Jq),(8,B true),(9,B true)]∧H'=H) 0 ⟨rfl,rfl⟩ ?_;rintro m T H' ⟨rfl,rfl⟩;subst Jl;unfold NG;obtain ⟨a7,cf⟩:∃ c,NF=c:=⟨_,rfl⟩;obtain ⟨Qs,K4⟩:∃ c,Rr=c:=⟨_,rfl⟩;rw [cf,K4];conv=>whnf
 subst cf;unfold NF;conv=>whnf
 refine ⟨_,_,rq acC,?_⟩;conv=>whnf
 exact bp _ _ _ ⟨.inr rfl,⟨rfl,fun j o aw=>.inr aw⟩,rfl⟩
theorem agl:Sem Go.Proofs.Tryz.prog (.fn 86) [.av [] 0 .full] H lo (.tuple []) H:=by
 refine rA eG VA rfl (a'.refl _ _) fun Q bp=>?_;unfold R2;conv=>whnf
 refine ⟨by first | rfl | simp only [List.all_cons,List.all_nil,Mm,Mu,Mn,Mp,Mo,Mq,Mw,Mv,Kc,Mr,Ms,Mt,tt,Bool.and_self],_,Ou 0 (by decide),?_⟩
 conv=>whnf
 refine ⟨_,_,rq aeH,?_⟩;conv=>whnf
 exact bp _ _ _ ⟨.inl rfl,⟨by simp,fun j o aw=>.inr aw⟩,rfl⟩
end
def PE (l:List Int):Option (List Int):=if l.length≤12 then some (I0 l) else none
theorem SF {l v:List Int} (h:PE l=some v):qw 67 [.func 87 [] [.bS [.av (l.map h0) l.length .shared]]] (.av (v.map h0) v.length .shared):=by
 unfold PE at h;split at h
 ·rename_i ak;obtain rfl:=Option.some.inj h;by_cases aQ:l.length=0
  ·obtain rfl:=sP.1 aQ;have acy:I0 []=[]:=sP.1 (by unfold I0;rw [sZ,U0];rfl);rw [acy];have hk:[I.bS [.av (([]:List Int).map h0) ([]:List Int).length .shared]].all (cr 7)=true:=rfl;refine qL eG Vx rfl (rM (fun _=>rfl) _ _ _) fun Q bp=>?_;unfold RO WZ;(conv=>whnf);refine ⟨_,_,M_ (p6 (IX rfl hk) rfl) (T' hk (Xn [] (by simp)) (by simp)) _ _,?_⟩;(conv=>whnf);refine ⟨_,_,rq agl,?_⟩;(conv=>whnf);refine ⟨_,_,fun C=>rfl,?_⟩;(conv=>whnf);exact bp _ _ _ ⟨.inr rfl,_,rfl,_,yW rfl,rfl⟩
  replace ak:0<l.length∧l.length≤12:=⟨by omega,ak⟩;have hk:[I.bS [.av (l.map h0) l.length .shared]].all (cr 7)=true:=p6 (Ik (p6 (rM (fun _=>rfl) _ _ _) rfl)) rfl;have cH:=T' hk (Xn l (by omega)) (by omega);have cp:=agh (lo:=0) (id:=0) (sc 0) l.toArray (by simpa using ak.2) (H:=[IA l.toArray]) rfl;obtain ⟨S,QO⟩:∃ S,S=Sort.insertionSort Sort.ltInt l.toArray 0 l.toArray.size:=⟨_,rfl⟩;have ad:I0 l=S.toList:=by rw [QO];unfold I0;simp
  have bR:S.size=l.length:=by rw [QO,U0];simp
  rw [←QO] at cp;rw [ad];have bJ:l≠[]:=fun e=>by rw [e] at ak;exact absurd ak.1 (by decide)
  have ab9:Oy l=.av (l.map h0) l.length (.uniq 1):=by
   cases l with
   | nil=>exact absurd rfl bJ
   | cons a l=>rfl
  rw [ab9] at cH;refine qL eG Vx rfl (rM (fun _=>rfl) _ _ _) fun Q bp=>?_;unfold RO;conv=>whnf
  refine ⟨_,_,M_ (p6 (IX rfl hk) rfl) cH _ _,?_⟩;conv=>whnf
  refine .inl ⟨by omega,?_⟩;conv=>whnf
  have e1:ar.cells (l.map h0)=IA l.toArray:=rfl;have b':I.ref 0 0 l.length none 1=Ko 0 l.toArray.size:=by unfold Ko;simp
  erw [e1];refine ⟨_,_,rq (by show Sem Tryz.prog (.fn 86) [I.ref 0 0 l.length none 1] [IA l.toArray] 0 (.tuple []) [IA S];rw [b'];exact cp),?_⟩;conv=>whnf
  have cI:rowOf [IA S] (.ref 0 0 l.length none 1)=some (S.toList.map h0):=af6 rfl (bR.symm.trans sZ.symm) fun _=>rfl;refine ⟨.av (S.toList.map h0) l.length .shared,[.dead],fun C=>?_,?_⟩
  ·show ((rowOf [IA S] (.ref 0 0 l.length none 1)).bind fun row=>some (I.av row l.length .shared,[ar.dead]))=_;rw [cI];rfl
  conv=>whnf
  rw [show S.toList.length=l.length from sZ.trans bR] at bp;exact bp _ _ _ ⟨.inr rfl,_,rfl,_,yW (rM (fun _=>rfl) _ _ _),rfl⟩
 ·cases h

noncomputable def P6:gE :=
 .loop (some (p' false [0,2,5,2,10])) (p2 [p0 9 [.nc 8,.nc 7] (.bin .lss)] (.seq (.cond (.nc 9) .skip (.exit 0)) (.seq (.block 1 (p2 [p3 10 8,p1 5 10] (p2 [p3 11 1,p3 12 0,p3 13 5,re 14 12 13 1,qh 15 14,p0 16 [.nc 11,.nc 15] (.call 6)] (.cond (.nc 16) (p2 [p1 17 5,p1 4 17] .ret) .skip)))) (qO [qV 18 8 1,p1 8 18]))))
noncomputable def Zx:gE :=
 p2 [qf 4 0] (.seq (p2 [p3 6 0,qW 7 6,qf 8 0] (.block 0 P6)) (p2 [qf 4 (-1)] .ret))
theorem aef:qo Tryz.prog Qq 88=some (Zx,19,[.tmp 4]):=by kernel_rfl
def JT (s:p9) (f:(Int→Option Bool)) (qa:Unit→Option Int):Nat→Int→Option Int
 | 0,_=>none
 | m+1,s1 =>
   if (decide (s1<(s.length:Int)))=true then
    qk (0≤s1∧s1<(s.length:Int)) <|
    (f (ix s s1)).bind fun aS =>
    if aS=true then
     some s1
    else
     JT s f qa m (w (s1+(1:Int)))
   else
    qa ()
def Og (s:p9) (f:(Int→Option Bool)):Option Int :=
 JT s f (fun _ =>
   some (-1:Int)) qj (0:Int)
theorem ah5 {s:p9} {f:(Int→Option Bool)} {qa:Unit→Option Int} {s1:Int} {Hi:FuncId} {rG:List I} (Hu:Hz rG) (Jo:∀ (rb:Int) (r:Bool),f rb=some r→qw Hi ((h0 rb)::rG) (B r)) {v:Int} {Q:Hm}   (jJ:qI [.tmp 4] Q (fun v=>(h0 v)) v) (ri:∀ (qd:List I),qa ()=some v→rv 19 [] qd→Q (.exit 0) qd []) {T:List I} (b0:eZ (p' false [0,2,5,2,10]) T=qc 19 [(0,(qR s .shared)),(1,(.func Hi [] rG)),(7,(h0 (s.length:Int))),(8,(h0 s1))]) (h:JT s f qa qj s1=some v) :
  dQ Tryz.prog Qq 88 0 none P6 T [] Q:=by
 unfold P6;refine wp_loop b0 ?_;refine .intro (fun m T H=>∃ (s1:Int),T=qc 19 [(0,(qR s .shared)),(1,(.func Hi [] rG)),(7,(h0 (s.length:Int))),(8,(h0 s1))]∧H=[]∧JT s f qa m s1=some v) qj ⟨s1,rfl,rfl,h⟩ ?_;clear h b0;rintro m T H ⟨s1,rfl,rfl,h⟩;cases m
 ·exact r0 h
 rename_i m;rw [JT.eq_2] at h;conv=>whnf
 refine bs h (fun gM h=>?_) fun gM h=>?_
 ·rw [gM];conv=>whnf
  refine qP h id fun gN h=>?_;rw [ru h0 s s1 gN];conv=>whnf
  obtain ⟨aS,qs,h⟩:=p8 h;refine ⟨_,_,call6 (bs:=((h0 (ix s s1))::rG)) (by simp only [sG,Hu.iD,Hu.cc];rfl) (by simp only [sG,Hu.iD];exact (p6 rfl Hu.S6)) (Jo _ _ qs) rfl,?_⟩;conv=>whnf
  cases aS
  ·(conv=>whnf);replace h:=rW rfl h;exact ⟨m,sD m,(w (s1+(1:Int))),rfl,rfl,h⟩
  ·(conv=>whnf);replace h:=rV rfl h;exact p_ h jJ rfl rfl
 ·rw [gM];conv=>whnf
  exact ri  _ h ⟨rfl,rfl⟩
theorem ah6 {s:p9} {f:(Int→Option Bool)} {Hi:FuncId} {rG:List I} (Hu:Hz rG) (Jo:∀ (rb:Int) (r:Bool),f rb=some r→qw Hi ((h0 rb)::rG) (B r)) {v:Int} (h:Og s f=some v):qw 88 [(.av (s.map h0) s.length .shared),(.func Hi [] rG)] (h0 v):=by
 refine qL eG aef rfl rfl fun Q bp=>?_;have jJ:qI [.tmp 4] Q (fun v=>(h0 v)) v:=fun T H bE=>bp _ T H bE;unfold Og at h;unfold Zx;obtain ⟨HD,qE⟩:∃ c,P6=c:=⟨_,rfl⟩;rw [qE];conv=>whnf
 subst qE;refine ah5 Hu Jo ?_ ?_ (by exact rfl) h
 ·exact fun T H bE=>jJ T H bE
 ·intro  qd h qz;obtain ⟨rB,rfl⟩:=qz.ex;conv=>whnf
  exact p_ h jJ rfl rfl

noncomputable def Zr:gE :=
 p2 [p0 4 [.cv (.bool false)] .mU] (p2 [p1 5 0,p1 6 1,p0 7 [.cv (.func 88 [] []),.nc 5,.nc 6] (.call 6),qy 8 7 0 .geq,p1 4 8] .ret)
theorem ad_:qo Tryz.prog TK 73=some (Zr,9,[.tmp 4]):=by kernel_rfl
def Oe (s:p9) (f:(Int→Option Bool)):Option Bool :=
 (Og s f).bind fun aS =>
 some (decide ((0:Int)≤aS))
theorem ahW {s:p9} {f:(Int→Option Bool)} {Hi:FuncId} {rG:List I} (Hu:Hz rG) (Jo:∀ (rb:Int) (r:Bool),f rb=some r→qw Hi ((h0 rb)::rG) (B r)) {v:Bool} (h:Oe s f=some v):qw 73 [(.av (s.map h0) s.length .shared),(.func Hi [] rG)] (B v):=by
 refine qL eG ad_ rfl rfl fun Q bp=>?_;have jJ:qI [.tmp 4] Q (fun v=>(B v)) v:=fun T H bE=>bp _ T H bE;unfold Oe at h;unfold Zr;conv=>whnf
 obtain ⟨aS,gM,h⟩:=p8 h;refine ⟨_,_,Qu (cs:=[(qR s .shared),(.func Hi [] rG)]) (bs:=[(qR s .shared),(.func Hi [] rG)]) (Kx rfl (Kx (Hu.fn _ _) Nx)) (by rfl) (by exact (p6 (rM (fun _=>rfl) _ _ _) (p6 (Hu.V4 _) rfl))) (ah6 Hu Jo gM) rfl,?_⟩;conv=>whnf
 exact p_ h jJ rfl rfl

noncomputable def Zs:gE :=
 p2 [p0 4 [.cv (.bool false)] .mU] (p2 [p3 5 0,qh 6 1,qn 7 5 6 .lss,p1 8 7,cl 9 [.jq 0] 8 false .mU,cl 10 [.Bs 2] 8 false (.zE .one),cl 11 [.Bs 9,.Bs 10] 8 false (.bin .gtr),p0 12 [.Bs 8,.cv (.bool true),.Bs 11] .pick,p1 4 12] .ret)
theorem aea:qo Tryz.prog TL 74=some (Zs,13,[.tmp 4]):=by kernel_rfl
def LY (n g9 a7:Int):Option Bool :=
 if (decide (n<g9))=true then
  some true
 else
  some (decide (a7<n))
theorem ahX {n:Int} {g9:Int} {a7:Int} {v:Bool} (h:LY n g9 a7=some v):qw 74 [(h0 n),(.bS [(h0 g9)]),(.bS [(h0 a7)])] (B v):=by
 refine qL eG aea rfl rfl fun Q bp=>?_;have jJ:qI [.tmp 4] Q (fun v=>(B v)) v:=fun T H bE=>bp _ T H bE;unfold LY at h;unfold Zs;conv=>whnf
 refine bs h (fun gM h=>?_) fun gM h=>?_
 ·rw [gM];conv=>whnf
  exact p_ h jJ rfl rfl
 ·rw [gM];conv=>whnf
  exact p_ h jJ rfl rfl

noncomputable def Zf:gE :=
 p2 [p0 3 [.jq 0] .box,p0 4 [.jq 1] .box,p0 6 [.cv (.bool false)] .mU] (p2 [p1 7 2,p0 8 [.Bs 3,.Bs 4] (.zY 74 0 2),p0 9 [.cv (.func 73 [] []),.nc 7,.nc 8] (.call 6),p0 10 [.Bs 9] (.un .not),p1 6 10] .ret)
theorem adY:qo Tryz.prog TA 50=some (Zf,11,[.tmp 6]):=by kernel_rfl
def IH (lo hi:Int) (l:p9):Option Bool :=
 (Oe l (fun rb=>LY rb lo hi)).bind fun aS =>
 some (!aS)
theorem KP {lo:Int} {hi:Int} {l:p9} {v:Bool} (h:IH lo hi l=some v):qw 50 [(h0 lo),(h0 hi),(.av (l.map h0) l.length .shared)] (B v):=by
 refine qL eG adY rfl rfl fun Q bp=>?_;have jJ:qI [.tmp 6] Q (fun v=>(B v)) v:=fun T H bE=>bp _ T H bE;unfold IH at h;unfold Zf;conv=>whnf
 obtain ⟨aS,gM,h⟩:=p8 h;refine ⟨_,_,Qu (cs:=[(qR l .shared),(.func 74 [] [(.bS [(h0 lo)]),(.bS [(h0 hi)])])]) (bs:=[(qR l .shared),(.func 74 [] [(.bS [(h0 lo)]),(.bS [(h0 hi)])])]) (Kx rfl (Kx (agf Nx (Kx (Xw (cs:=[(h0 lo)]) (by first | exact qX.h | rfl | (simp [sq,I.settle];done)) rfl) (Kx (Xw (cs:=[(h0 hi)]) (by first | exact qX.h | rfl | (simp [sq,I.settle];done)) rfl) Nx))) Nx)) (by rfl) (by exact (p6 (rM (fun _=>rfl) _ _ _) (p6 (IX rfl (p6 (Ik (p6 rfl rfl)) (p6 (Ik (p6 rfl rfl)) rfl))) rfl))) (ahW ⟨(p6 (Ik (p6 rfl rfl)) (p6 (Ik (p6 rfl rfl)) rfl)),by simp⟩ (fun _ _ aY=>ahX aY) gM) rfl,?_⟩
 conv=>whnf
 exact p_ h jJ rfl rfl

noncomputable def Zg:gE :=
 p2 [p0 1 [.jq 0] .box,p0 2 [.cv (.bool false)] .mU] (p2 [p0 3 [.nc 1] (.yM 0),qh 4 3,p0 5 [.Bs 4] (.yB 1 1 [.int .i64 0] [0]),p0 6 [.cv (.func 50 [] []),.cv (.int .i64 0),.cv (.int .i64 100),.nc 5] (.call 3),p0 7 [.Bs 6] (.un .not),p1 8 7,cl 9 [.Bs 1] 8 false (.yM 1),cl 10 [.Bs 9] 8 false (.zE .one),⟨some 11,[.Bs 10],some (8,false),none,.yB 1 1 [.int .i64 0] [0]⟩,⟨some 12,[.cv (.func 50 [] []),.cv (.int .i64 (-10)),.cv (.int .i64 10),.nc 11],some (8,false),none,.call 3⟩,cl 13 [.Bs 12] 8 false (.un .not),p0 14 [.Bs 8,.cv (.bool true),.Bs 13] .pick,p1 2 14] .ret)
theorem adZ:qo Tryz.prog TB 51=some (Zg,15,[.tmp 2]):=by kernel_rfl
def KQ (s:(Int×Int)):Option Bool :=
 (IH (0:Int) (100:Int) [s.1]).bind fun aS =>
 if aS=true then
  (IH (-10:Int) (10:Int) [s.2]).bind fun bj =>
  some (!bj)
 else
  some true
theorem Yt {s:(Int×Int)} {v:Bool} (h:KQ s=some v):qw 51 [(.agg [(h0 s.1),(h0 s.2)])] (B v):=by
 refine qL eG adZ rfl rfl fun Q bp=>?_;have jJ:qI [.tmp 2] Q (fun v=>(B v)) v:=fun T H bE=>bp _ T H bE;unfold KQ at h;unfold Zg;conv=>whnf
 obtain ⟨aS,gM,h⟩:=p8 h;refine ⟨(p6 rfl (p6 rfl (p6 rfl rfl))),_,KP gM,?_⟩;conv=>whnf
 cases aS
 ·conv=>whnf
  replace h:=rW rfl h;exact p_ h jJ rfl rfl
 ·conv=>whnf
  replace h:=rV rfl h;obtain ⟨bj,gN,h⟩:=p8 h;refine ⟨(p6 rfl (p6 rfl (p6 rfl rfl))),_,KP gN,?_⟩;conv=>whnf
  exact p_ h jJ rfl rfl

noncomputable def PM:gE :=
 .loop (some (p' false [0,2,5,2,10])) (p2 [p0 9 [.nc 8,.nc 7] (.bin .lss)] (.seq (.cond (.nc 9) .skip (.exit 0)) (.seq (.block 1 (p2 [p3 10 8,p1 5 10] (p2 [p3 11 1,p3 12 0,p3 13 5,re 14 12 13 2,p0 15 [.Bs 14] (.zE (.str 2)),p0 16 [.nc 11,.nc 15] (.call 6)] (.cond (.nc 16) (p2 [p1 17 5,p1 4 17] .ret) .skip)))) (qO [qV 18 8 1,p1 8 18]))))
noncomputable def YT:gE :=
 p2 [qf 4 0] (.seq (p2 [p3 6 0,qW 7 6,qf 8 0] (.block 0 PM)) (p2 [qf 4 (-1)] .ret))
theorem adB:qo Tryz.prog Qb 101=some (YT,19,[.tmp 4]):=by kernel_rfl
def LI (s:qg) (f:((Int×Int)→Option Bool)) (qa:Unit→Option Int):Nat→Int→Option Int
 | 0,_=>none
 | m+1,s1 =>
   if (decide (s1<(s.length:Int)))=true then
    qk (0≤s1∧s1<(s.length:Int)) <|
    (f (ix s s1)).bind fun aS =>
    if aS=true then
     some s1
    else
     LI s f qa m (w (s1+(1:Int)))
   else
    qa ()
def Pu (s:qg) (f:((Int×Int)→Option Bool)):Option Int :=
 LI s f (fun _ =>
   some (-1:Int)) qj (0:Int)
theorem ag7 {s:qg} {f:((Int×Int)→Option Bool)} {qa:Unit→Option Int} {s1:Int} {Hi:FuncId} {rG:List I} (Hu:Hz rG) (Jo:∀ (rb:(Int×Int)) (r:Bool),f rb=some r→qw Hi ((.agg [(h0 rb.1),(h0 rb.2)])::rG) (B r)) {v:Int} {Q:Hm}   (jJ:qI [.tmp 4] Q (fun v=>(h0 v)) v) (ri:∀ (qd:List I),qa ()=some v→rv 19 [] qd→Q (.exit 0) qd []) {T:List I} (b0:eZ (p' false [0,2,5,2,10]) T=qc 19 [(0,(q2 s .shared)),(1,(.func Hi [] rG)),(7,(h0 (s.length:Int))),(8,(h0 s1))]) (h:LI s f qa qj s1=some v) :
  dQ Tryz.prog Qb 101 0 none PM T [] Q:=by
 unfold PM;refine wp_loop b0 ?_;refine .intro (fun m T H=>∃ (s1:Int),T=qc 19 [(0,(q2 s .shared)),(1,(.func Hi [] rG)),(7,(h0 (s.length:Int))),(8,(h0 s1))]∧H=[]∧LI s f qa m s1=some v) qj ⟨s1,rfl,rfl,h⟩ ?_;clear h b0;rintro m T H ⟨s1,rfl,rfl,h⟩;cases m
 ·exact r0 h
 rename_i m;rw [LI.eq_2] at h;conv=>whnf
 refine bs h (fun gM h=>?_) fun gM h=>?_
 ·rw [gM];conv=>whnf
  refine qP h id fun gN h=>?_;rw [HW p7 2 Jd s s1 gN];conv=>whnf
  obtain ⟨aS,qs,h⟩:=p8 h;refine ⟨_,_,call6 (bs:=((.agg [(h0 (ix s s1).1),(h0 (ix s s1).2)])::rG)) (by simp only [sG,Hu.iD,Hu.cc];rfl) (by simp only [sG,Hu.iD];exact (p6 (H0 (p6 rfl (p6 rfl rfl))) Hu.S6)) (Jo _ _ qs) rfl,?_⟩;conv=>whnf
  cases aS
  ·(conv=>whnf);replace h:=rW rfl h;exact ⟨m,sD m,(w (s1+(1:Int))),rfl,rfl,h⟩
  ·(conv=>whnf);replace h:=rV rfl h;exact p_ h jJ rfl rfl
 ·rw [gM];conv=>whnf
  exact ri  _ h ⟨rfl,rfl⟩
theorem ag8 {s:qg} {f:((Int×Int)→Option Bool)} {Hi:FuncId} {rG:List I} (Hu:Hz rG) (Jo:∀ (rb:(Int×Int)) (r:Bool),f rb=some r→qw Hi ((.agg [(h0 rb.1),(h0 rb.2)])::rG) (B r)) {v:Int} (h:Pu s f=some v):qw 101 [(.av (s.flatMap p7) s.length .shared),(.func Hi [] rG)] (h0 v):=by
 refine qL eG adB rfl rfl fun Q bp=>?_;have jJ:qI [.tmp 4] Q (fun v=>(h0 v)) v:=fun T H bE=>bp _ T H bE;unfold Pu at h;unfold YT;obtain ⟨HD,qE⟩:∃ c,PM=c:=⟨_,rfl⟩;rw [qE];conv=>whnf
 subst qE;refine ag7 Hu Jo ?_ ?_ (by exact rfl) h
 ·exact fun T H bE=>jJ T H bE
 ·intro  qd h qz;obtain ⟨rB,rfl⟩:=qz.ex;conv=>whnf
  exact p_ h jJ rfl rfl

noncomputable def Zw:gE :=
 p2 [p0 4 [.cv (.bool false)] .mU] (p2 [p1 5 0,p1 6 1,p0 7 [.cv (.func 101 [] []),.nc 5,.nc 6] (.call 6),qy 8 7 0 .geq,p1 4 8] .ret)
theorem aee:qo Tryz.prog TQ 84=some (Zw,9,[.tmp 4]):=by kernel_rfl
def Of (s:qg) (f:((Int×Int)→Option Bool)):Option Bool :=
 (Pu s f).bind fun aS =>
 some (decide ((0:Int)≤aS))
theorem ah4 {s:qg} {f:((Int×Int)→Option Bool)} {Hi:FuncId} {rG:List I} (Hu:Hz rG) (Jo:∀ (rb:(Int×Int)) (r:Bool),f rb=some r→qw Hi ((.agg [(h0 rb.1),(h0 rb.2)])::rG) (B r)) {v:Bool} (h:Of s f=some v):qw 84 [(.av (s.flatMap p7) s.length .shared),(.func Hi [] rG)] (B v):=by
 refine qL eG aee rfl rfl fun Q bp=>?_;have jJ:qI [.tmp 4] Q (fun v=>(B v)) v:=fun T H bE=>bp _ T H bE;unfold Of at h;unfold Zw;conv=>whnf
 obtain ⟨aS,gM,h⟩:=p8 h;refine ⟨_,_,Qu (cs:=[(q2 s .shared),(.func Hi [] rG)]) (bs:=[(q2 s .shared),(.func Hi [] rG)]) (Kx rfl (Kx (Hu.fn _ _) Nx)) (by rfl) (by exact (p6 (Hx (fun _=>(p6 rfl (p6 rfl rfl))) _ _ _) (p6 (Hu.V4 _) rfl))) (ag8 Hu Jo gM) rfl,?_⟩;conv=>whnf
 exact p_ h jJ rfl rfl

noncomputable def P2:gE :=
 .cond (.nc 3) (p2 [qf 2 6] .ret) (p2 [p0 18 [.nc 1] (.yM 0),qh 19 18,p0 20 [.cv (.func 84 [] []),.nc 19,.cv (.func 51 [] [])] (.call 3),p1 21 20,cl 22 [.nc 1] 21 false (.yM 1),cl 23 [.Bs 22] 21 false (.yM 0),cl 24 [.Bs 23] 21 false (.zE .one),cl 25 [.nc 1] 21 false (.yM 1),cl 26 [.Bs 25] 21 false (.yM 1),cl 27 [.Bs 26] 21 false (.zE .one),⟨some 28,[.Bs 24,.Bs 27],some (21,false),none,.yB 2 1 [.int .i64 0] [0,1]⟩,⟨some 29,[.cv (.func 50 [] []),.cv (.int .i64 0),.cv (.int .i64 50),.nc 28],some (21,false),none,.call 3⟩,cl 30 [.Bs 29] 21 false (.un .not),p0 31 [.Bs 21,.cv (.bool true),.Bs 30] .pick,p1 32 31,cl 33 [.nc 1] 32 false (.yM 1),cl 34 [.Bs 33] 32 false (.yM 0),cl 35 [.Bs 34] 32 false (.zE .one),cl 36 [.Bs 1] 32 false (.yM 1),cl 37 [.Bs 36] 32 false (.yM 1),cl 38 [.Bs 37] 32 false (.zE .one),cl 39 [.Bs 35,.Bs 38] 32 false (.bin .gtr),p0 40 [.Bs 32,.cv (.bool true),.Bs 39] .pick,p1 17 40] (.cond (.nc 17) (p2 [qf 2 3] .ret) .skip))
noncomputable def Zo:gE :=
 p2 [p0 1 [.jq 0] .box,qf 2 0] (.seq (.block 0 (p2 [p0 4 [.nc 1] (.yM 0),qh 5 4,qW 6 5,p0 7 [.Bs 6] (.yB 1 1 [.int .i64 0] [0]),p0 8 [.cv (.func 50 [] []),.cv (.int .i64 3),.cv (.int .i64 7),.nc 7] (.call 3),p0 9 [.Bs 8] (.un .not),p1 10 9,cl 11 [.nc 1] 10 false (.yM 0),cl 12 [.Bs 11] 10 false (.zE .one),cl 13 [.jq 12] 10 false .zJ,cl 14 [.Bs 13,.cv (.int .i64 2)] 10 false (.bin .rem),cl 15 [.Bs 14,.cv (.int .i64 0)] 10 false (.bin .eql),p0 16 [.Bs 10,.cv (.bool true),.Bs 15] .pick,p1 3 16] P2)) (p2 [qf 2 0] .ret))
theorem ad7:qo Tryz.prog Qn 66=some (Zo,41,[.tmp 2]):=by kernel_rfl
def MY (p:(qg×(Int×Int))) (OP:Unit→Option Int) (dD:Bool):Option Int :=
 if dD=true then
  some (6:Int)
 else
  (Of p.1 (fun rb=>KQ rb)).bind fun bj =>
  if bj=true then
   some (3:Int)
  else
   (IH (0:Int) (50:Int) [p.2.1,p.2.2]).bind fun eK =>
   if eK=true then
    if (decide (p.2.2<p.2.1))=true then
     some (3:Int)
    else
     OP ()
   else
    some (3:Int)
def Oc (p:(qg×(Int×Int))):Option Int :=
 (IH (3:Int) (7:Int) [(p.1.length:Int)]).bind fun aS =>
 if aS=true then
  qk ((2:Int)≠0) <|
  MY p (fun _ =>
    some (0:Int)) (decide (((p.1.length:Int).tmod (2:Int))=(0:Int)))
 else
  MY p (fun _ =>
    some (0:Int)) true
theorem YG {p:(qg×(Int×Int))} {OP:Unit→Option Int} {dD:Bool} {v:Int} {Q:Hm}  {qd:List I}  (jJ:qI [.tmp 2] Q (fun v=>(h0 v)) v) (acn:∀ (bx:ar) (qd:List I),OP ()=some v→rv 41 [] qd→Q .normal qd [bx]) (qz:rv 41 [(1,(.ptr 0 0)),(3,(B dD))] qd) (h:MY p OP dD=some v) :
  dQ Tryz.prog Qn 66 0 none P2 qd [ar.cells [(q2 p.1 .shared),(h0 p.2.1),(h0 p.2.2)]] Q:=by
 obtain ⟨rB,rfl⟩:=qz.ex;unfold MY at h;unfold P2;conv=>whnf
 cases dD
 ·conv=>whnf
  replace h:=rW rfl h;obtain ⟨bj,qs,h⟩:=p8 h;refine ⟨(p6 (Hx (fun _=>(p6 rfl (p6 rfl rfl))) _ _ _) (p6 (IX rfl rfl) rfl)),_,ah4 ⟨rfl,by simp⟩ (fun _ _ aY=>Yt aY) qs,?_⟩;conv=>whnf
  cases bj
  ·(conv=>whnf);replace h:=rW rfl h;obtain ⟨eK,qK,h⟩:=p8 h;refine ⟨(p6 rfl (p6 rfl (p6 rfl rfl))),_,KP qK,?_⟩;(conv=>whnf);cases eK
   ·(conv=>whnf);replace h:=rW rfl h;exact p_ h jJ rfl rfl
   ·(conv=>whnf);replace h:=rV rfl h;refine bs h (fun qY h=>?_) fun qY h=>?_
    ·rw [qY];(conv=>whnf);exact p_ h jJ rfl rfl
    ·rw [qY];(conv=>whnf);exact acn _ _ h ⟨rfl,rfl⟩
  ·(conv=>whnf);replace h:=rV rfl h;exact p_ h jJ rfl rfl
 ·conv=>whnf
  replace h:=rV rfl h;exact p_ h jJ rfl rfl
theorem Od {p:(qg×(Int×Int))} {v:Int} (h:Oc p=some v):qw 66 [(.agg [(.av (p.1.flatMap p7) p.1.length .shared),(h0 p.2.1),(h0 p.2.2)])] (h0 v):=by
 refine qL eG ad7 rfl rfl fun Q bp=>?_;have jJ:qI [.tmp 2] Q (fun v=>(h0 v)) v:=fun T H bE=>bp _ T H bE;unfold Oc at h;unfold Zo;obtain ⟨HD,qE⟩:∃ c,P2=c:=⟨_,rfl⟩;rw [qE];conv=>whnf
 obtain ⟨aS,gM,h⟩:=p8 h;refine ⟨(p6 rfl (p6 rfl (p6 rfl rfl))),_,KP gM,?_⟩;conv=>whnf
 cases aS
 ·conv=>whnf
  replace h:=rW rfl h;subst qE;refine YG ?_ ?_ (by exact ⟨rfl,rfl⟩) h
  ·exact fun T H bE=>jJ T H bE
  ·intro bx qd h qz;obtain ⟨rB,rfl⟩:=qz.ex;(conv=>whnf);exact p_ h jJ rfl rfl
 ·conv=>whnf
  replace h:=rV rfl h;refine qP h id fun gN h=>?_;conv=>whnf
  subst qE;refine YG ?_ ?_ (by exact ⟨rfl,rfl⟩) h
  ·exact fun T H bE=>jJ T H bE
  ·intro bx qd h qz;obtain ⟨rB,rfl⟩:=qz.ex;(conv=>whnf);exact p_ h jJ rfl rfl

noncomputable def Zp:gE :=
 p2 [p0 1 [.jq 0] .box,p0 2 [.cv .a0] .mU] (p2 [p0 3 [.Bs 1] (.zY 87 0 1),p1 2 3] .ret)
theorem ad8:qo Tryz.prog TI 68=some (Zp,4,[.tmp 2]):=by kernel_rfl
def PF (s:p9):Option Unit :=
 some ()
theorem SG {s:p9} {v:Unit} (h:PF s=some v):qw 68 [(.av (s.map h0) s.length .shared)] (.func 87 [] [(.bS [(.av (s.map h0) s.length .shared)])]):=by
 refine qL eG ad8 rfl (IX rfl (p6 (Ik (p6 (rM (fun _=>rfl) _ _ _) rfl)) rfl)) fun Q bp=>?_;have jJ:qI [.tmp 2] Q (fun v=>(.func 87 [] [(.bS [(qR s .shared)])])) v:=fun T H bE=>bp _ T H bE;unfold PF at h;unfold Zp;conv=>whnf
 exact jJ _ _ ⟨.inr rfl,_,rfl,_,(Un IG (rF (Up (l:=[(qR s .shared)]) (by first | exact qX.h | rfl | (simp [sq,I.settle];done)) (p6 (rM (fun _=>rfl) _ _ _) rfl)) IG)),rfl⟩

def M3 (x:((qg×(Int×Int))×Unit)):List I:=[(q2 x.1.1 .shared),(h0 x.1.2.1),(h0 x.1.2.2),Hk]
instance {d:Nat} {x:((qg×(Int×Int))×Unit)}:qi (d+2) (M3 x):=⟨(inferInstance:qi (d+2) [(q2 x.1.1 .shared),(h0 x.1.2.1),(h0 x.1.2.2),Hk]).pl⟩
noncomputable def JU:gE :=
 .loop (some (p' false [2,1,5,1,8,3,6,3,19])) (p2 [p0 29 [.nc 28,.nc 27] (.bin .lss)] (.seq (.cond (.nc 29) .skip (.exit 2)) (.seq (.block 3 (p2 [p3 30 28,p0 31 [.nc 26,.nc 28] (.kY 1),qh 32 31,p1 10 30,p1 11 32] (p2 [p1 33 11,p1 34 10,qn 35 33 34 .neq] (.cond (.nc 35) (p2 [p0 4 [.cv .eI] .mU,qf 5 16] .ret) .skip)))) (qO [qV 36 28 1,p1 28 36]))))
noncomputable def Ji:gE :=
 .loop (some (p' false [2,1,14,3,28])) (p2 [p0 20 [.nc 19,.nc 18] (.bin .lss)] (.seq (.cond (.nc 20) .skip (.exit 0)) (.seq (.block 1 (p2 [p0 21 [.nc 17,.nc 19] (.kY 1),qh 22 21,p1 8 22] (p2 [p3 23 8,p0 24 [.cv (.func 68 [] []),.nc 23] (.call 3),p0 25 [.cv (.func 67 [] []),.nc 24] (.call 3),p1 9 25] (.seq (p2 [p1 26 9,p0 27 [.nc 26] .zJ,qf 28 0] (.block 2 JU)) (p2 [p1 37 8,qW 38 37,p0 39 [.nc 2] (.yM 0),qh 40 39,qW 41 40,qn 42 38 41 .neq] (.cond (.nc 42) (p2 [p0 4 [.cv .eI] .mU,qf 5 16] .ret) .skip)))))) (qO [qV 43 19 1,p1 19 43]))))
noncomputable def M1:gE :=
 p2 [p0 2 [.jq 0] .box,p0 4 [.cv .eI] .mU,qf 5 0] (.seq (p2 [p0 12 [.nc 2] (.zE (.str 3)),p0 13 [.cv (.func 66 [] []),.nc 12] (.call 3),p1 6 13] (p2 [p3 14 6,qy 15 14 0 .neq] (.cond (.nc 15) (p2 [p1 16 6,p0 4 [.cv .eI] .mU,p1 5 16] .ret) .skip))) (.seq (p2 [p1 17 1,p0 18 [.nc 17] .zJ,qf 19 0] (.block 0 Ji)) (p2 [p0 44 [.Bs 2] (.zE (.str 3)),p0 45 [] .zZ,p0 46 [.Bs 44,.Bs 45] (.build [.av [] 0 .full,.int .i64 0,.int .i64 0,.a0] [(0,3),(3,1)]),p0 47 [.jq 46] .box,p1 4 47,qf 5 0] .ret)))
theorem Nw:qo Tryz.prog Kq 40=some (M1,48,[.tmp 4,.tmp 5]):=by kernel_rfl
def Iy (eK:p9) (q6:Unit→Option ((Option ((qg×(Int×Int))×Unit))×Int)):Nat→Int→Option ((Option ((qg×(Int×Int))×Unit))×Int)
 | 0,_=>none
 | m+1,s2 =>
   if (decide (s2<(eK.length:Int)))=true then
    qk (0≤s2∧s2<(eK.length:Int)) <|
    if (decide ((ix eK s2)≠s2))=true then
     some (none,(16:Int))
    else
     Iy eK q6 m (w (s2+(1:Int)))
   else
    q6 ()
def Hy (p:(qg×(Int×Int))) (qe:KW) (qa:Unit→Option ((Option ((qg×(Int×Int))×Unit))×Int)):Nat→Int→Option ((Option ((qg×(Int×Int))×Unit))×Int)
 | 0,_=>none
 | m+1,s1 =>
   if (decide (s1<(qe.length:Int)))=true then
    qk (0≤s1∧s1<(qe.length:Int)) <|
    (PF (ix qe s1)).bind fun bj =>
    (PE (ix qe s1)).bind fun eK =>
    Iy eK (fun _ =>
      if (decide (((ix qe s1).length:Int)≠(p.1.length:Int)))=true then
       some (none,(16:Int))
      else
       Hy p qe qa m (w (s1+(1:Int)))) qj (0:Int)
   else
    qa ()
def rN (p:(qg×(Int×Int))) (qe:KW):Option ((Option ((qg×(Int×Int))×Unit))×Int) :=
 (Oc p).bind fun aS =>
 if (decide (aS≠(0:Int)))=true then
  some (none,aS)
 else
  Hy p qe (fun _ =>
    some ((some (p,())),(0:Int))) qj (0:Int)
theorem ahx {eK:p9} {q6:Unit→Option ((Option ((qg×(Int×Int))×Unit))×Int)} {s2:Int} {p:(qg×(Int×Int))} {qe:KW} {s1:Int} {v:((Option ((qg×(Int×Int))×Unit))×Int)} {Q:Hm}   (jJ:qI [.tmp 4,.tmp 5] Q (fun v=>(.tuple [(Mj M3 v.1),(h0 v.2)])) v) (J8:∀ (qd:List I),q6 ()=some v→rv 48 [(2,(.ptr 0 0)),(8,(qR (ix qe s1) .shared)),(17,(.av (qe.map oX) qe.length .shared)),(18,(h0 (qe.length:Int))),(19,(h0 s1))] qd→Q (.exit 2) qd [ar.cells [(q2 p.1 .shared),(h0 p.2.1),(h0 p.2.2)]]) {T:List I} (b0:eZ (p' false [2,1,5,1,8,3,6,3,19]) T=qc 48 [(2,(.ptr 0 0)),(8,(qR (ix qe s1) .shared)),(17,(.av (qe.map oX) qe.length .shared)),(18,(h0 (qe.length:Int))),(19,(h0 s1)),(26,(qR eK .shared)),(27,(h0 (eK.length:Int))),(28,(h0 s2))]) (h:Iy eK q6 qj s2=some v) :
  dQ Tryz.prog Kq 40 0 none JU T [ar.cells [(q2 p.1 .shared),(h0 p.2.1),(h0 p.2.2)]] Q:=by
 unfold JU;refine wp_loop b0 ?_;refine .intro (fun m T H=>∃ (s2:Int),T=qc 48 [(2,(.ptr 0 0)),(8,(qR (ix qe s1) .shared)),(17,(.av (qe.map oX) qe.length .shared)),(18,(h0 (qe.length:Int))),(19,(h0 s1)),(26,(qR eK .shared)),(27,(h0 (eK.length:Int))),(28,(h0 s2))]∧H=[ar.cells [(q2 p.1 .shared),(h0 p.2.1),(h0 p.2.2)]]∧Iy eK q6 m s2=some v) qj ⟨s2,rfl,rfl,h⟩ ?_;clear h b0;rintro m T H ⟨s2,rfl,rfl,h⟩;cases m
 ·exact r0 h
 rename_i m;rw [Iy.eq_2] at h;conv=>whnf
 refine bs h (fun qS h=>?_) fun qS h=>?_
 ·rw [qS];conv=>whnf
  refine qP h id fun ry h=>?_;rw [ru h0 eK s2 ry];conv=>whnf
  refine bs h (fun q_ h=>?_) fun q_ h=>?_
  ·rw [q_];(conv=>whnf);exact p_ h jJ rfl rfl
  ·rw [q_];(conv=>whnf);exact ⟨m,sD m,(w (s2+(1:Int))),rfl,rfl,h⟩
 ·rw [qS];conv=>whnf
  exact J8  _ h ⟨rfl,rfl⟩
theorem ahw {p:(qg×(Int×Int))} {qe:KW} {qa:Unit→Option ((Option ((qg×(Int×Int))×Unit))×Int)} {s1:Int} {v:((Option ((qg×(Int×Int))×Unit))×Int)} {Q:Hm}   (jJ:qI [.tmp 4,.tmp 5] Q (fun v=>(.tuple [(Mj M3 v.1),(h0 v.2)])) v) (ri:∀ (qd:List I),qa ()=some v→rv 48 [(2,(.ptr 0 0))] qd→Q (.exit 0) qd [ar.cells [(q2 p.1 .shared),(h0 p.2.1),(h0 p.2.2)]]) {T:List I} (b0:eZ (p' false [2,1,14,3,28]) T=qc 48 [(2,(.ptr 0 0)),(17,(.av (qe.map oX) qe.length .shared)),(18,(h0 (qe.length:Int))),(19,(h0 s1))]) (h:Hy p qe qa qj s1=some v) :
  dQ Tryz.prog Kq 40 0 none Ji T [ar.cells [(q2 p.1 .shared),(h0 p.2.1),(h0 p.2.2)]] Q:=by
 unfold Ji;obtain ⟨HD,qE⟩:∃ c,JU=c:=⟨_,rfl⟩;rw [qE];refine wp_loop b0 ?_;refine .intro (fun m T H=>∃ (s1:Int),T=qc 48 [(2,(.ptr 0 0)),(17,(.av (qe.map oX) qe.length .shared)),(18,(h0 (qe.length:Int))),(19,(h0 s1))]∧H=[ar.cells [(q2 p.1 .shared),(h0 p.2.1),(h0 p.2.2)]]∧Hy p qe qa m s1=some v) qj ⟨s1,rfl,rfl,h⟩ ?_;clear h b0;rintro m T H ⟨s1,rfl,rfl,h⟩;cases m
 ·exact r0 h
 rename_i m;rw [Hy.eq_2] at h;conv=>whnf
 refine bs h (fun qs h=>?_) fun qs h=>?_
 ·rw [qs];conv=>whnf
  refine qP h id fun qK h=>?_;rw [ru oX qe s1 qK];conv=>whnf
  obtain ⟨bj,qY,h⟩:=p8 h;refine ⟨qi.pl,_,SG qY,?_⟩;conv=>whnf
  obtain ⟨eK,rn,h⟩:=p8 h;refine ⟨(p6 (IX rfl (p6 (Ik (p6 (rM (fun _=>rfl) _ _ _) rfl)) rfl)) rfl),_,SF  rn,?_⟩;conv=>whnf
  subst qE;refine ahx ?_ ?_ (by exact rfl) h
  ·exact fun T H bE=>jJ T H bE
  ·intro  qd h qz;obtain ⟨rB,rfl⟩:=qz.ex;(conv=>whnf);refine bs h (fun r2 h=>?_) fun r2 h=>?_
   ·rw [r2];(conv=>whnf);exact p_ h jJ rfl rfl
   ·rw [r2];(conv=>whnf);exact ⟨m,sD m,(w (s1+(1:Int))),rfl,rfl,h⟩
 ·rw [qs];conv=>whnf
  exact ri  _ h ⟨rfl,rfl⟩
theorem MW {p:(qg×(Int×Int))} {qe:KW} {v:((Option ((qg×(Int×Int))×Unit))×Int)} (h:rN p qe=some v):qw 40 [(.agg [(.av (p.1.flatMap p7) p.1.length .shared),(h0 p.2.1),(h0 p.2.2)]),(.av (qe.map oX) qe.length .shared)] (.tuple [(Mj M3 v.1),(h0 v.2)]):=by
 refine qL eG Nw rfl (Je (p6 (V8 (fun _=>(p6 (Hx (fun _=>(p6 rfl (p6 rfl rfl))) _ _ _) (p6 rfl (p6 rfl (p6 rfl rfl))))) _) (p6 rfl rfl))) fun Q bp=>?_;have jJ:qI [.tmp 4,.tmp 5] Q (fun v=>(.tuple [(Mj M3 v.1),(h0 v.2)])) v:=fun T H bE=>bp _ T H bE;unfold rN at h;unfold M1;obtain ⟨K2,rX⟩:∃ c,Ji=c:=⟨_,rfl⟩;rw [rX];conv=>whnf
 obtain ⟨aS,gM,h⟩:=p8 h;refine ⟨qi.pl,_,Od gM,?_⟩;conv=>whnf
 refine bs h (fun gN h=>?_) fun gN h=>?_
 ·rw [gN];conv=>whnf
  exact p_ h jJ rfl rfl
 ·rw [gN];conv=>whnf
  subst rX;refine ahw ?_ ?_ (by exact rfl) h
  ·exact fun T H bE=>jJ T H bE
  ·intro  qd h qz;obtain ⟨rB,rfl⟩:=qz.ex;(conv=>whnf);obtain rfl:=Option.some.inj h;exact jJ _ _ ⟨.inr rfl,_,rfl,_,(M' (rF (abE (l:=[(q2 p.1 .shared),(h0 p.2.1),(h0 p.2.2),(.map 1)]) (by first | exact qX.h | rfl | (simp [sq,I.settle];done)) (rF (yW (Hx (fun _=>(p6 rfl (p6 rfl rfl))) _ _ _)) (rF (yW rfl) (rF (yW rfl) (rF (Uo (by simp) (by simp)) IG))))) (rF (yW rfl) IG))),rfl⟩
end Go.Proofs.YtkoioidpbbbaiaaGreat.Ab


namespace Go.Proofs.YtkoioidpbbbaiaaGreat.Ab
open Go
section
variable {P:Program}
theorem call9 {k:FuncId} {xs bs:List I} {H:List ar} {lo:Nat} {v:I} (af:(xs.map I.gw).map I.cc=bs) (aB:(xs.map I.gw).all (cr 8)=true) (h:nn P k bs v):oV P 9 lo (.fn k) xs H v.cc H:=by
 subst af;refine ⟨_,EB h.1,?_⟩;simp only [eQ,aB,EA,sb,yW h.2,se]
theorem aga {k:FuncId} {args:List I} {H H':List ar} {lo:Nat} {r:I} (h:Sem P (.fn k) (args.map I.gw) H lo r H'):Sem P (.fn k) args H lo r H':=by
 obtain ⟨aQ,ab,ae⟩:=h;exact ⟨aQ,ab,fun B aa J S w vs ag aI ad=>ae B aa J S w vs ag aI ad.gw⟩
theorem aaM {k:FuncId} {args:List I} {es:List (Nat×I×I)} {clock:Nat} {D:List ar} (cu:(args.map I.gw).all (cr 8)=true) (Jn:∀ (j i:Nat) (k v:I),es[j]?=some (i,k,v)→cr 8 k=true∧cr 8 v=true)
  (h:Sem P (.fn k) (args.map I.gw) [] 0 (.map 0) (.map es clock::D)) (H:List ar) (lo:Nat):oV P 2 lo (.fn k) args H (.map H.length) (H++[.map es clock]):=by
 refine ⟨_,EB (aga (af9 cu Jn h H)),?_⟩;have e1:Co H.length (.map H.length)=some H.length:=by simp [Co,yU]
 have b':(H++[ar.map es clock])[H.length]?=some (.map es clock):=by simp
 have dA:bM (H++[ar.map es clock]) H.length H.length H.length 8 (.map H.length)=some (.map H.length):=by simp [bM]
 have gb:DM 2 H.length (H++[ar.map es clock]) (.map H.length)=some H.length:=e1;simp only [eQ,EA,sb,gb,b',dA,sc,if_true,VD fun j i k v aw=>⟨yW (Jn j i k v aw).1,yW (Jn j i k v aw).2⟩]
def I.LD:I→I
 | .av c n (.own _)=>.av c n .shared
 | v=>v
variable {J:List Nat} {S:Nat→Nat→Prop} {w:World} {aa:Nat→Option aH}
theorem afU {u:I} {v:Value} (h:Rel J S w u v):Rel J S w u.LD v:=by
 unfold I.LD;split
 ·rename_i c n z;exact h.view rfl
 ·exact h
theorem aeD {l:aH} {u:I} {v:Value} (h:aU aa J S w l u v):aU aa J S w l u.LD v:=by
 unfold I.LD;split
 ·exact aU.b4 rfl
 ·exact h
theorem agK {bA:Nat→aH} {T:List I} {bc:List Value} (h:a5 bA aa J S w T bc):a5 bA aa J S w (T.map I.LD) bc :=
 ⟨by simpa using h.len,fun i u v hu ad=>by
  rw [sk] at hu;simp only [r_] at hu;obtain ⟨x,aj,rfl⟩:=hu;exact afU (h.rel i x v aj ad),fun i u v hu ad=>by
  rw [sk] at hu;simp only [r_] at hu
  obtain ⟨x,aj,rfl⟩:=hu;exact aeD (h.own i x v aj ad)⟩
theorem af_ {k:FuncId} {args:List I} {H H':List ar} {lo:Nat} {r:I} (h:Sem P (.fn k) (args.map I.LD) H lo r H'):Sem P (.fn k) args H lo r H':=by
 obtain ⟨aQ,ab,ae⟩:=h;exact ⟨aQ,ab,fun B aa J S w vs ag aI ad=>ae B aa J S w vs ag aI (agK ad)⟩
theorem aeQ {k:FuncId} {args:List I} {v:I} (h:nn P k (args.map I.LD) v):nn P k args v:=⟨af_ h.1,h.2⟩
end
end Go.Proofs.YtkoioidpbbbaiaaGreat.Ab


namespace Go.Proofs.YtkoioidpbbbaiaaGreat.Ab
open Go
set_option maxRecDepth 20000
set_option maxHeartbeats 4000000
abbrev qb:=(List (Int×Int))×(Int×Int)
abbrev rJ (p:qb):ar:=ar.cells [(.av (p.1.flatMap p7) p.1.length .shared),(h0 p.2.1),(h0 p.2.2)]
abbrev L4 (p:qb) (qe:List (List Int)):List I:=[(.agg [(.av (p.1.flatMap p7) p.1.length .shared),(h0 p.2.1),(h0 p.2.2)]),(.av (qe.map oX) qe.length .shared)]
theorem ahy {eK:(List Int)} {q6:Unit→Option ((Option (((List (Int×Int))×(Int×Int))×Unit))×Int)} {s2:Int} {p:((List (Int×Int))×(Int×Int))} {qe:(List (List Int))} {s1:Int} {v:((Option (((List (Int×Int))×(Int×Int))×Unit))×Int)} {Q:cQ→List I→List ar→Prop}   (jJ:∀ (e:Int) (T:List I),v=(none,e)→rQ [rJ p] T [.tmp 4,.tmp 5]=some [.eI,h0 e]→Q .ret T [rJ p]) (J8:∀ (qd:List I),q6 ()=some v→rv 48 [(2,(.ptr 0 0)),(8,(.av ((ix qe s1).map h0) (ix qe s1).length .shared)),(17,(.av (qe.map oX) qe.length .shared)),(18,(h0 (qe.length:Int))),(19,(h0 s1))] qd→Q (.exit 2) qd [ar.cells [(.av (p.1.flatMap p7) p.1.length .shared),(h0 p.2.1),(h0 p.2.2)]]) {T:List I} (b0:eZ [false,false,true,false,false,false,false,false,true,false,false,false,false,false,false,false,false,true,true,true,false,false,false,false,false,false,true,true,true,false,false,false,false,false,false,false,false,false,false,false,false,false,false,false,false,false,false,false] T=qc 48 [(2,(.ptr 0 0)),(8,(.av ((ix qe s1).map h0) (ix qe s1).length .shared)),(17,(.av (qe.map oX) qe.length .shared)),(18,(h0 (qe.length:Int))),(19,(h0 s1)),(26,(.av (eK.map h0) eK.length .shared)),(27,(h0 (eK.length:Int))),(28,(h0 s2))]) (h:Iy eK q6 qj s2=some v) :
  dQ Tryz.prog Kq 40 0 none JU T [ar.cells [(.av (p.1.flatMap p7) p.1.length .shared),(h0 p.2.1),(h0 p.2.2)]] Q:=by
 unfold JU;skip;refine wp_loop b0 ?_;refine .intro (fun m T H=>∃ (s2:Int),T=qc 48 [(2,(.ptr 0 0)),(8,(.av ((ix qe s1).map h0) (ix qe s1).length .shared)),(17,(.av (qe.map oX) qe.length .shared)),(18,(h0 (qe.length:Int))),(19,(h0 s1)),(26,(.av (eK.map h0) eK.length .shared)),(27,(h0 (eK.length:Int))),(28,(h0 s2))]∧H=[ar.cells [(.av (p.1.flatMap p7) p.1.length .shared),(h0 p.2.1),(h0 p.2.2)]]∧Iy eK q6 m s2=some v) qj ⟨s2,rfl,rfl,h⟩ ?_;clear h b0;rintro m T H ⟨s2,rfl,rfl,h⟩;cases m
 ·exact r0 h
 rename_i m;rw [Iy.eq_2] at h;conv=>whnf
 refine bs h (fun qS h=>?_) fun qS h=>?_
 ·rw [qS];conv=>whnf
  refine qP h id fun ry h=>?_;rw [ru h0 eK s2 ry];conv=>whnf
  refine bs h (fun q_ h=>?_) fun q_ h=>?_
  ·rw [q_];(conv=>whnf);obtain rfl:=Option.some.inj h;exact jJ _ _ rfl rfl
  ·rw [q_];(conv=>whnf);exact ⟨m,sD m,(w (s2+(1:Int))),rfl,rfl,h⟩
 ·rw [qS];conv=>whnf
  exact J8  _ h ⟨rfl,rfl⟩
theorem Yn {p:((List (Int×Int))×(Int×Int))} {qe:(List (List Int))} {qa:Unit→Option ((Option (((List (Int×Int))×(Int×Int))×Unit))×Int)} {s1:Int} {v:((Option (((List (Int×Int))×(Int×Int))×Unit))×Int)} {Q:cQ→List I→List ar→Prop}   (jJ:∀ (e:Int) (T:List I),v=(none,e)→rQ [rJ p] T [.tmp 4,.tmp 5]=some [.eI,h0 e]→Q .ret T [rJ p]) (ri:∀ (qd:List I),qa ()=some v→rv 48 [(2,(.ptr 0 0))] qd→Q (.exit 0) qd [ar.cells [(.av (p.1.flatMap p7) p.1.length .shared),(h0 p.2.1),(h0 p.2.2)]]) {T:List I} (b0:eZ [false,false,true,false,false,false,false,false,false,false,false,false,false,false,false,false,false,true,true,true,false,false,false,false,false,false,false,false,false,false,false,false,false,false,false,false,false,false,false,false,false,false,false,false,false,false,false,false] T=qc 48 [(2,(.ptr 0 0)),(17,(.av (qe.map oX) qe.length .shared)),(18,(h0 (qe.length:Int))),(19,(h0 s1))]) (h:Hy p qe qa qj s1=some v) :
  dQ Tryz.prog Kq 40 0 none Ji T [ar.cells [(.av (p.1.flatMap p7) p.1.length .shared),(h0 p.2.1),(h0 p.2.2)]] Q:=by
 unfold Ji;obtain ⟨HD,qE⟩:∃ c,JU=c:=⟨_,rfl⟩;rw [qE];refine wp_loop b0 ?_;refine .intro (fun m T H=>∃ (s1:Int),T=qc 48 [(2,(.ptr 0 0)),(17,(.av (qe.map oX) qe.length .shared)),(18,(h0 (qe.length:Int))),(19,(h0 s1))]∧H=[ar.cells [(.av (p.1.flatMap p7) p.1.length .shared),(h0 p.2.1),(h0 p.2.2)]]∧Hy p qe qa m s1=some v) qj ⟨s1,rfl,rfl,h⟩ ?_;clear h b0;rintro m T H ⟨s1,rfl,rfl,h⟩;cases m
 ·exact r0 h
 rename_i m;rw [Hy.eq_2] at h;conv=>whnf
 refine bs h (fun qs h=>?_) fun qs h=>?_
 ·rw [qs];conv=>whnf
  refine qP h id fun qK h=>?_;rw [ru oX qe s1 qK];conv=>whnf
  obtain ⟨bj,qY,h⟩:=p8 h;refine ⟨qi.pl,_,SG qY,?_⟩;conv=>whnf
  obtain ⟨eK,rn,h⟩:=p8 h;refine ⟨(p6 (IX rfl (p6 (Ik (p6 (rM (fun _=>rfl) _ _ _) rfl)) rfl)) rfl),_,SF  rn,?_⟩;conv=>whnf
  subst qE;refine ahy ?_ ?_ (by exact rfl) h
  ·exact fun e T bE ai=>jJ e T bE ai
  ·intro  qd h qz;obtain ⟨rB,rfl⟩:=qz.ex;(conv=>whnf);refine bs h (fun r2 h=>?_) fun r2 h=>?_
   ·rw [r2];(conv=>whnf);obtain rfl:=Option.some.inj h;exact jJ _ _ rfl rfl
   ·rw [r2];(conv=>whnf);exact ⟨m,sD m,(w (s1+(1:Int))),rfl,rfl,h⟩
 ·rw [qs];conv=>whnf
  exact ri  _ h ⟨rfl,rfl⟩
theorem Vd {eK:List Int} {K:Unit→Option (Option (qb×Unit)×Int)} {t:qb×Unit} {e:Int}:∀ {m:Nat} {s:Int},Iy eK K m s=some (some t,e)→K ()=some (some t,e)
 | 0,s,h=>by cases h
 | m+1,s,h=>by
   rw [Iy.eq_2] at h;split at h
   ·obtain ⟨_,h⟩:=rR h;split at h
    ·cases h
    ·exact Vd h
   ·exact h
theorem Vc {p:qb} {qe:List (List Int)} {K:Unit→Option (Option (qb×Unit)×Int)} {t:qb×Unit} {e:Int}:∀ {m:Nat} {s:Int},Hy p qe K m s=some (some t,e)→K ()=some (some t,e)
 | 0,s,h=>by cases h
 | m+1,s,h=>by
   rw [Hy.eq_2] at h;split at h
   ·obtain ⟨_,h⟩:=rR h;obtain ⟨bj,_,h⟩:=p8 h;obtain ⟨eK,_,h⟩:=p8 h;have h:=Vd h;split at h
    ·cases h
    ·exact Vc h
   ·exact h
theorem Vb {p:qb} {qe:List (List Int)} {t:qb×Unit} {e:Int} (h:Hy p qe (fun _=>some (some (p,()),0)) qj 0=some (some t,e)):t=(p,())∧e=0:=by
 have h:=Vc h;obtain ⟨ab,ae⟩:=Prod.mk.inj (Option.some.inj h);exact ⟨(Option.some.inj ab).symm,ae.symm⟩
theorem Ym {p:qb} {qe:List (List Int)} {e:Int} (h:rN p qe=some (none,e)):Sem Tryz.prog (.fn 40) (L4 p qe) [] 0 (.tuple [.eI,h0 e]) [rJ p]:=by
 refine rA eG Nw rfl (IF (sE _)) fun Q bp=>?_;have jJ:∀ (cV:Int) (T:List I),((none,e):Option (qb×Unit)×Int)=(none,cV)→rQ [rJ p] T [.tmp 4,.tmp 5]=some [.eI,h0 cV]→Q .ret T [rJ p]:=fun cV T he ai=>by
  obtain rfl:=(Prod.mk.inj he).2;exact bp _ _ _ ⟨.inr rfl,lI.refl _,by rw [ai];rfl⟩
 unfold rN at h;unfold M1;obtain ⟨K2,rX⟩:∃ c,Ji=c:=⟨_,rfl⟩;rw [rX];conv=>whnf
 obtain ⟨aS,gM,h⟩:=p8 h;refine ⟨qi.pl,_,Od gM,?_⟩;conv=>whnf
 refine bs h (fun gN h=>?_) fun gN h=>?_
 ·rw [gN];conv=>whnf
  obtain rfl:aS=e:=(Prod.mk.inj (Option.some.inj h)).2;exact jJ _ _ rfl rfl
 ·rw [gN];conv=>whnf
  subst rX;refine Yn ?_ ?_ (by exact rfl) h
  ·exact fun e T bE ai=>jJ e T bE ai
  ·intro  qd h qz;exact absurd (Prod.mk.inj (Option.some.inj h)).1 (by simp)
theorem N3 {p:qb} {qe:List (List Int)} {t:qb×Unit} {e:Int} (h:rN p qe=some (some t,e)):t=(p,())∧e=0∧Sem Tryz.prog (.fn 40) (L4 p qe) [] 0 (.tuple [.ptr 2 0,h0 0]) [rJ p,.map [] 0,.cells [(.av (p.1.flatMap p7) p.1.length .shared),(h0 p.2.1),(h0 p.2.2),.map 1]]:=by
 have ad:t=(p,())∧e=0:=by
  have aX:=h;unfold rN at aX;obtain ⟨aS,gM,aX⟩:=p8 aX;split at aX
  ·cases aX
  ·exact Vb aX
 obtain ⟨rfl,rfl⟩:=ad;refine ⟨rfl,rfl,?_⟩;refine rA eG Nw rfl (IF (sE _)) fun Q bp=>?_;unfold rN at h;unfold M1;obtain ⟨K2,rX⟩:∃ c,Ji=c:=⟨_,rfl⟩;rw [rX];conv=>whnf
 obtain ⟨aS,gM,h⟩:=p8 h;refine ⟨qi.pl,_,Od gM,?_⟩;conv=>whnf
 refine bs h (fun gN h=>?_) fun gN h=>?_
 ·exact absurd (Prod.mk.inj (Option.some.inj h)).1 (by simp)
 ·rw [gN];conv=>whnf
  subst rX;refine Yn ?_ ?_ (by exact rfl) h
  ·exact fun e T bE ai=>absurd (Prod.mk.inj bE).1 (by simp)
  ·intro  qd h qz;obtain ⟨rB,rfl⟩:=qz.ex;(conv=>whnf);exact bp _ _ _ ⟨.inr rfl,lI.refl _,rfl⟩
section
variable {p:qb} {qe:List (List Int)}
theorem aaO {e:Int} {lo:Nat} (h:rN p qe=some (none,e)):oV Tryz.prog 2 lo (.fn 40) (L4 p qe) [] (.tuple [.eI,h0 e]) [] :=
 ⟨_,EB (Ym h),by
  show (k9 _ _ _ _ _ _ (.fn 40) (L4 p qe) [] 0).bind _=_
  rw [EA];rfl⟩
theorem aaN {t:qb×Unit} {e:Int} {lo:Nat} (h:rN p qe=some (some t,e)):oV Tryz.prog 2 lo (.fn 40) (L4 p qe) [] (.tuple [.ptr 0 0,h0 0]) [.cells [(.av (p.1.flatMap p7) p.1.length .shared),(h0 p.2.1),(h0 p.2.2),Hk]] :=
 ⟨_,EB (N3 h).2.2,by
  show (k9 _ _ _ _ _ _ (.fn 40) (L4 p qe) [] 0).bind _=_;rw [EA];have e1:ea (bM [rJ p,.map [] 0,.cells [(.av (p.1.flatMap p7) p.1.length .shared),(h0 p.2.1),(h0 p.2.2),.map 1]] 0 2 0 8) [(.av (p.1.flatMap p7) p.1.length .shared),(h0 p.2.1),(h0 p.2.2),.map 1]=some [(.av (p.1.flatMap p7) p.1.length .shared),(h0 p.2.1),(h0 p.2.2),Hk] :=
   rF (yW (Hx (fun _=>p6 rfl (p6 rfl rfl)) _ _ _)) (rF (yW rfl) (rF (yW rfl) (rF (Uo (by simp) (by simp)) IG)))
  show (if 0≤2 then (match ea (bM [rJ p,.map [] 0,.cells [(.av (p.1.flatMap p7) p.1.length .shared),(h0 p.2.1),(h0 p.2.2),.map 1]] 0 2 0 8) [(.av (p.1.flatMap p7) p.1.length .shared),(h0 p.2.1),(h0 p.2.2),.map 1],bM _ 0 2 0 8 (.tuple [.ptr 2 0,h0 0]) with | some l',some v=>some (v,[]++[ar.cells l']) | _,_=>none) else none)=_
  rw [e1];rfl⟩
end
end Go.Proofs.YtkoioidpbbbaiaaGreat.Ab


namespace Go.Proofs.YtkoioidpbbbaiaaGreat.Ab
open Go
noncomputable def RQ:gE :=
 p2 [p0 5 [.Bs 1,.Bs 2,.Bs 3,.nc 4] (.zY 71 0 4),⟨none,[.nc 4,.jq 5],none,none,.st 1⟩] (qO [qh 6 4,p0 7 [.jq 6,.cv (.av [] 0 .full)] (.call 1)])
noncomputable def RP:gE :=
 p2 [p0 2 [.jq 0] .box] (p2 [p0 3 [] (.alloc [.int .i64 0,.int .i64 0,.int .i64 0,.int .i64 0,.int .i64 0,.int .i64 0,.int .i64 0])] (p2 [p0 4 [] (.alloc [.a0])] RQ))
theorem Vy:qo Go.Proofs.Tryz.prog TJ 70=some (RP,8,[]):=by kernel_rfl
noncomputable def afw:gE :=
 p2 [qh 18 2,p1 19 0,p0 20 [.jq 18,.jq 19] (.call 1),p1 6 20] .ret
noncomputable def NL:gE :=
 p2 [p1 47 7,p0 48 [.nc 3,.Bs 47] (.zu 7 1),⟨none,[.jq 48,.cv (.int .i64 0)],none,none,.st 1⟩] (p2 [p1 49 8,p0 50 [.Bs 49] (.un .not)] (.cond (.nc 50) (p2 [p0 6 [.cv (.bool false)] .mU] .ret) .skip))
noncomputable def LA:gE :=
 p2 [p0 36 [.nc 4] (.zE .one),p3 37 0,p3 38 0,qW 39 38,p3 40 0,qW 41 40,p0 42 [.jq 37,.jq 39,.jq 41] (.Bh 1 false true true),p3 43 7,p0 44 [.Bs 43] (.yB 1 1 [.int .i64 0] [0]),p0 45 [.jq 42,.jq 44] (.app 1 8),p0 46 [.jq 36,.jq 45] (.call 1),p1 8 46] NL
noncomputable def RR:gE :=
 .seq (p2 [p3 30 7,p0 31 [.nc 3,.Bs 30] (.zu 7 1),qh 32 31,qy 33 32 0 .gtr] (.cond (.nc 33) (.exit 1) .skip)) (p2 [p3 34 7,p0 35 [.nc 3,.Bs 34] (.zu 7 1),⟨none,[.jq 35,.cv (.int .i64 1)],none,none,.st 1⟩] LA)
noncomputable def RS:gE :=
 .block 1 (p2 [p3 29 27,p1 7 29] RR)
noncomputable def Jy:gE :=
 .seq (p2 [qh 21 1,p0 22 [.Bs 21] .z4,qv 23 22 0,qv 24 23 0,qh 25 24,qW 26 25,qf 27 0] (.block 0 (.loop (some (p' false [0,1,2,2,21,2,24])) (p2 [p0 28 [.nc 27,.nc 26] (.bin .lss)] (.seq (.cond (.nc 28) .skip (.exit 0)) (.seq RS (qO [qV 51 27 1,p1 27 51]))))))) (p2 [p0 6 [.cv (.bool true)] .mU] .ret)
noncomputable def LB:gE :=
 .seq (p2 [p3 9 0,qW 10 9,p0 11 [.nc 1] (.zE .one),p0 12 [.Bs 11] .z4,qv 13 12 0,qv 14 13 0,qh 15 14,qW 16 15,qn 17 10 16 .eql] (.cond (.nc 17) afw .skip)) Jy
noncomputable def Lz:gE :=
 p2 [p0 6 [.cv (.bool false)] .mU] LB
theorem OS:qo Go.Proofs.Tryz.prog Kr 71=some (Lz,52,[.tmp 6]):=by kernel_rfl
end Go.Proofs.YtkoioidpbbbaiaaGreat.Ab


namespace Go.Proofs.YtkoioidpbbbaiaaGreat.Ab
open Go
set_option maxRecDepth 20000
set_option maxHeartbeats 4000000
def IM (b:I) (p:Nat):I:=.func 71 [] [b,.ptr p 0,.ptr (p+1) 0,.ptr (p+2) 0]
@[irreducible] def rK (X Y0:List ar) (L:Nat) (b:I) (p:Nat) (U:List Int) (Y:List ar):List ar:=X++(Y0++([.cells [.yield L],.cells (U.map h0),.cells [IM b p]]++Y))
section
variable {X Y0 Y:List ar} {L p:Nat} {b:I} {U:List Int} (aB:X.length+Y0.length=p)
include aB
theorem ago:(rK X Y0 L b p U Y)[p]?=some (.cells [.yield L]):=by
 unfold rK;rw [ss (by omega),ss (by omega),show p-X.length-Y0.length=0 by omega];rfl
theorem Sc:(rK X Y0 L b p U Y)[p+1]?=some (.cells (U.map h0)):=by
 unfold rK;rw [ss (by omega),ss (by omega),show p+1-X.length-Y0.length=1 by omega];rfl
theorem XD:(rK X Y0 L b p U Y)[p+2]?=some (.cells [IM b p]):=by
 unfold rK;rw [ss (by omega),ss (by omega),show p+2-X.length-Y0.length=2 by omega];rfl
theorem XE (M6:List Int):(rK X Y0 L b p U Y).set (p+1) (.cells (M6.map h0))=rK X Y0 L b p M6 Y:=by
 unfold rK;rw [uV _ _ (by omega),uV _ _ (by omega),show p+1-X.length-Y0.length=1 by omega];rfl
end
def Hh (l:List Int):I:=match l with | []=>.av [] 0 .full | _=>.av (l.map h0) l.length (.own 1)
theorem agn {LG LH:I} {Q:cQ→List I→List ar→Prop} {begun:List Int} {i n:Nat} {X Y0 Y:List ar} {L p:Nat} {b:I} {U:List Int} (aB:X.length+Y0.length=p) (Ht:U.length=7) (hi:i<7) (af:begun.length≤7)
  (dW:∃ L3 qH,L3.length=X.length∧Sem Tryz.prog (.fn 71) [.av ((begun++[(i:Int)]).map h0) (begun++[(i:Int)]).length (.uniq 1),b,.ptr p 0,.ptr (p+1) 0,.ptr (p+2) 0] (rK X Y0 L b p U Y) 0 (.bool true) (rK L3 Y0 L b p U qH) ∧
   Q .normal (qc 52 [(0,Hh begun),(3,.ptr (p+1) 0),(4,.ptr (p+2) 0),(26,h0 n),(27,h0 i),(28,LG),(33,LH),(50,.bool false)]) (rK L3 Y0 L b p (U.set i 0) qH)) :
  dQ Tryz.prog Kr 71 0 none LA (qc 52 [(0,Hh begun),(3,.ptr (p+1) 0),(4,.ptr (p+2) 0),(7,h0 i),(26,h0 n),(27,h0 i),(28,LG),(33,LH)]) (rK X Y0 L b p U Y) Q:=by
 obtain ⟨L3,qH,aiz,cp,bp⟩:=dW;have UT:L3.length+Y0.length=p:=by omega
 have fin:∀ dH,dH=qc 52 [(0,Hh begun),(3,.ptr (p+1) 0),(4,.ptr (p+2) 0),(7,h0 i),(8,.bool true),(26,h0 n),(27,h0 i),(28,LG),(33,LH)]→dQ Tryz.prog Kr 71 0 none NL dH (rK L3 Y0 L b p U qH) Q:=by
  rintro _ rfl;unfold NL;conv=>whnf
  refine ⟨by omega,?_⟩;conv=>whnf
  refine Ew (Sc UT) ?_;conv=>whnf
  rw [show 0+(i:Int).toNat*1=i by omega];refine Gn (by simp;omega) ?_;conv=>whnf
  rw [show (List.map h0 U).set i (I.int IntKind.i64 0)=(U.set i 0).map h0 by rw [tG],XE UT];exact bp
 unfold LA;cases begun with
 | nil =>
   (conv=>whnf);refine Ew (XD aB) ?_;(conv=>whnf);refine ⟨⟨by decide,by decide,by decide⟩,?_⟩;(conv=>whnf);refine ⟨rfl,by decide,?_⟩;(conv=>whnf);refine ⟨by decide,by decide,rfl,?_⟩;(conv=>whnf);refine ⟨_,_,rq cp,?_⟩;(conv=>whnf);exact fin _ rfl
 | cons a l =>
   (conv=>whnf);refine Ew (XD aB) ?_;(conv=>whnf);refine ⟨⟨rfl,by omega,sR _⟩,?_⟩;(conv=>whnf);rw [tp,Nat.mul_one,te (by simp)];refine ⟨rfl,by decide,?_⟩;(conv=>whnf);refine ⟨by decide,by omega,by simp,?_⟩;(conv=>whnf);(have e1:List.map h0 (a::l)++[h0 (i:Int)]=((a::l)++[(i:Int)]).map h0:=by simp);(have b':(a::l).length+1=((a::l)++[(i:Int)]).length:=by simp);refine ⟨_,_,rq (by erw [e1,b'];exact cp),?_⟩;(conv=>whnf);exact fin _ rfl
def rz (U:List Int) (n:Nat):List Int:=((List.range n).filter fun i=>decide (U.getD i 0=0)).map fun i:Nat=>(i:Int)
theorem Q9 (U:List Int) (n:Nat):rz U (n+1)=rz U n++if U.getD n 0=0 then [(n:Int)] else []:=by
 unfold rz;rw [List.range_succ,t_,sO];by_cases h:U.getD n 0=0
 ·rw [if_pos h,uX (by simpa using h)];rfl
 ·rw [if_neg h,uC (by simpa using h)];rfl
theorem acV (U:List Int) (n:Nat):(rz U n).Nodup:=by
 unfold rz;refine List.Pairwise.map _ (R:=(·≠·)) (fun a b h=>by omega) ?_;exact List.Pairwise.filter _ List.nodup_range
theorem VI {U:List Int} {n:Nat} {x:Int}:x∈rz U n↔∃ i:Nat,i<n∧U.getD i 0=0∧x=(i:Int):=by
 unfold rz;simp only [sC,sX,sH,decide_eq_true_eq];constructor
 ·rintro ⟨i,⟨ab,ae⟩,rfl⟩;exact ⟨i,ab,ae,rfl⟩
 ·rintro ⟨i,ab,ae,rfl⟩;exact ⟨i,⟨ab,ae⟩,rfl⟩
theorem Mh {U:List Int} {n i:Nat} (hi:i<U.length) (aQ:U.getD i 0=0):rz (U.set i 1) n=(rz U n).erase (i:Int):=by
 rw [(acV U n).erase_eq_filter];unfold rz;rw [List.filter_map,uR];congr 1;refine uh fun x _=>?_;by_cases e:x=i
 ·subst e;simp [hi]
 ·have:((x:Int) != (i:Int))=true:=by simp;omega
  simp only [Function.comp,this,Bool.true_and];congr 1;simp only [sw];rw [List.getElem?_set_ne (by omega)]
def Hf (k:Nat) (U:List Int) (n i:Nat):Nat:=((rz U i).flatMap fun x=>(q4 k ((rz U n).erase x)).map (x::·)).length
theorem Oz (k:Nat) (U:List Int) (n i:Nat):Hf k U n (i+1)=Hf k U n i+if U.getD i 0=0 then (q4 k ((rz U n).erase (i:Int))).length else 0:=by
 unfold Hf;rw [Q9,ug,sy];congr 1;by_cases h:U.getD i 0=0
 ·rw [if_pos h,if_pos h];simp
 ·rw [if_neg h,if_neg h];rfl
theorem acW {U:List Int} {n i:Nat} (hi:i≤n):∃ r,rz U n=rz U i++r:=by
 obtain ⟨d,rfl⟩:=Nat.exists_eq_add_of_le hi;clear hi
 induction d with
 | zero=>exact ⟨[],by simp⟩
 | succ d a8 =>
   obtain ⟨r,ai⟩:=a8;rw [←tc,Q9,ai];exact ⟨_,sx ..⟩
theorem Vp {k:Nat} {U:List Int} {n i j:Nat} {l:List Int} (hi:i<n) (aQ:U.getD i 0=0) (ao:(q4 k ((rz U n).erase (i:Int)))[j]?=some l):(q4 (k+1) (rz U n))[Hf k U n i+j]?=some ((i:Int)::l):=by
 obtain ⟨r,ai⟩:=acW (U:=U) (n:=n) (i:=i+1) hi;rw [Q9,if_pos aQ] at ai;show ((rz U n).flatMap fun x=>(q4 k ((rz U n).erase x)).map (x::·))[Hf k U n i+j]?=_;have aw:=(sa.1 ao).1;conv=>lhs;arg 1;arg 2;rw [ai]
 rw [ug,ug,sx,ss (by unfold Hf;omega)];rw [show Hf k U n i+j-((rz U i).flatMap fun x=>(q4 k ((rz U n).erase x)).map (x::·)).length=j by unfold Hf;omega];rw [List.getElem?_append_left (by simp;exact aw)];simp [ao]
theorem Ox {α:Type} (P:Nat→α→α→Prop) (h3:α) (h:∀ i a,∃ b,P i a b):∃ f:Nat→α,f 0=h3∧∀ i,P i (f i) (f (i+1)):=by
 classical
 exact ⟨fun n=>Nat.rec h3 (fun i a=>Classical.choose (h i a)) n,rfl,fun i=>ux (h i _)⟩
theorem Xt {U:List Int} {i:Nat} (h:∀ i,0≤U.getD i 0):∀ j,0≤(U.set i 1).getD j 0:=fun j=>by
 have:=h j;simp only [sw,List.getElem?_set] at this ⊢;split
 ·split <;> simp
 ·exact this
theorem Xr {U:List Int} {i:Nat} (hi:i<U.length) (h:U.getD i 0=0):U.set i 0=U:=by
 rw [sw,si hi] at h;rw [←show U[i]=0 from h,List.set_getElem_self]
def ZE (L:Nat) (qQ:Nat→List ar) (c:Nat) (begun:List Int) (E:List (List Int)):Prop :=
 ∀ (j:Nat) (l:List Int),E[j]?=some l→∀ Y:List ar,∃ Z,Sem Tryz.prog (.yield L) [Hh (begun++l)] (qQ (c+j)++Y) 0 (.bool true) (qQ (c+j+1)++(Y++Z))
theorem UF {b:((List (Int×Int))×(Int×Int))×Unit} (qS:b.1.1.length≤7) (iS:0<b.1.1.length) {L N:Nat} {qQ:Nat→List ar} (hlen:∀ i,(qQ i).length=N) {Y0:List ar} {p:Nat} (aB:N+Y0.length=p) :
  ∀ (k:Nat) (begun:List Int) (IJ:hE) (U:List Int) (c:Nat),U.length=7→(∀ i,0≤U.getD i 0)→begun.length+k=b.1.1.length→(rz U b.1.1.length).length=k→((IJ=.full∧begun=[])∨IJ=.uniq 1∧begun≠[])→ZE L qQ c begun (q4 k (rz U b.1.1.length)) →
  ∀ Y,∃ Z,Sem Tryz.prog (.fn 71) [.av (begun.map h0) begun.length IJ,.bS [lp b],.ptr p 0,.ptr (p+1) 0,.ptr (p+2) 0] (rK (qQ c) Y0 L (.bS [lp b]) p U Y) 0 (.bool true) (rK (qQ (c+(q4 k (rz U b.1.1.length)).length)) Y0 L (.bS [lp b]) p U (Y++Z))
 | 0,begun,IJ,U,c,Ht,_,al,ao,CM,ai,Y=>by
   obtain ⟨Z,cp⟩:=ai 0 [] rfl (Y0++([.cells [.yield L],.cells (U.map h0),.cells [IM (.bS [lp b]) p]]++Y));(have JQ:(qQ c).length+Y0.length=p:=by rw [hlen];exact aB);(have bJ:begun≠[]:=fun e=>by subst e;simp at al;omega);have CM:IJ=.uniq 1:=by
    rcases CM with ⟨_,h⟩ | ⟨h,_⟩
    ·exact absurd h bJ
    ·exact h
   subst CM;obtain ⟨a,l,rfl⟩:=tL bJ;refine ⟨Z,?_⟩;(have e1:qQ (c+0)++(Y0++([.cells [.yield L],.cells (U.map h0),.cells [IM (.bS [lp b]) p]]++Y))=rK (qQ c) Y0 L (.bS [lp b]) p U Y:=by unfold rK;rfl);(have b':qQ (c+0+1)++((Y0++([.cells [.yield L],.cells (U.map h0),.cells [IM (.bS [lp b]) p]]++Y))++Z)=rK (qQ (c+1)) Y0 L (.bS [lp b]) p U (Y++Z):=by unfold rK;simp);rw [e1,b',sM] at cp;show Sem _ _ _ _ _ _ (rK (qQ (c+1)) _ _ _ _ _ _);refine rA eG OS rfl cp.1 fun Q bp=>?_;unfold Lz LB;obtain ⟨f',Hp⟩:∃ c,Jy=c:=⟨_,rfl⟩;rw [Hp];(conv=>whnf);rw [decide_eq_true (show (((a::l).length:Nat):Int)=(b.1.1.length:Int) by omega)];(conv=>whnf);refine Ew (ago JQ) ?_;(conv=>whnf);refine ⟨_,_,rq cp,?_⟩;(conv=>whnf);exact bp _ _ _ ⟨.inr rfl,lI.refl _,rfl⟩
 | k+1,begun,IJ,U,c,Ht,Ng,al,ao,CM,ai,Y=>by
   obtain ⟨n,aI⟩:∃ n,n=b.1.1.length:=⟨_,rfl⟩;have M4:=UF (L:=L) qS iS hlen aB k;rw [←aI] at qS iS al ao ai M4 ⊢;have JQ:∀ j,(qQ j).length+Y0.length=p:=fun j=>by rw [hlen];exact aB
   obtain ⟨JV,K7,Ku⟩:=Ox (fun i Z P'=>(i<n→U.getD i 0=0→∃ W,P'=Z++W∧Sem Tryz.prog (.fn 71) [.av ((begun++[(i:Int)]).map h0) (begun++[(i:Int)]).length (.uniq 1),.bS [lp b],.ptr p 0,.ptr (p+1) 0,.ptr (p+2) 0] (rK (qQ (c+Hf k U n i)) Y0 L (.bS [lp b]) p (U.set i 1) (Y++Z)) 0 (.bool true) (rK (qQ (c+Hf k U n (i+1))) Y0 L (.bS [lp b]) p (U.set i 1) (Y++P')))∧(¬ (i<n∧U.getD i 0=0)→P'=Z)) ([]:List ar) (fun i Z=>by
    by_cases h:i<n∧U.getD i 0=0
    ·obtain ⟨hi,aQ⟩:=h;have hm:(i:Int)∈rz U n:=VI.2 ⟨i,hi,aQ,rfl⟩
     obtain ⟨W,mb⟩:=M4 (begun++[(i:Int)]) (.uniq 1) (U.set i 1) (c+Hf k U n i) (by simpa using Ht) (Xt Ng) (by simp;omega) (by rw [Mh (by omega) aQ,tT hm];omega) (.inr ⟨rfl,by simp⟩) (fun j l aw Y=>by
      rw [Mh (by omega) aQ] at aw;obtain ⟨Z,cp⟩:=ai _ _ (Vp hi aQ aw) Y;refine ⟨Z,?_⟩;rw [show c+Hf k U n i+j=c+(Hf k U n i+j) by omega,sx]
      exact cp) (Y++Z)
     refine ⟨Z++W,fun _ _=>⟨W,rfl,?_⟩,fun h=>absurd ⟨hi,aQ⟩ h⟩;rw [Mh (by omega) aQ] at mb;rw [Oz,if_pos aQ,←sx,←tc];exact mb
    ·exact ⟨Z,fun ab ae=>absurd ⟨ab,ae⟩ h,fun _=>rfl⟩)
   refine ⟨JV n,?_⟩;have QX:Hf k U n n=(q4 (k+1) (rz U n)).length:=rfl;rw [←QX];refine rA eG OS rfl (IF (by unfold rK;simp [hlen])) fun Q bp=>?_;have main:∀ T,T=qc 52 [(0,Hh begun),(1,.bS [lp b]),(2,.ptr p 0),(3,.ptr (p+1) 0),(4,.ptr (p+2) 0),(6,.bool false),(17,.bool false)]→dQ Tryz.prog Kr 71 0 none Jy T (rK (qQ c) Y0 L (.bS [lp b]) p U Y) Q:=by
    rintro _ rfl;unfold Jy RS RR;obtain ⟨bt,eS⟩:∃ c,LA=c:=⟨_,rfl⟩;rw [eS];(conv=>whnf);rw [←aI];refine .intro (fun m T H=>∃ i:Nat,i≤n∧m=n-i∧T=qc 52 [(0,Hh begun),(3,.ptr (p+1) 0),(4,.ptr (p+2) 0),(26,h0 n),(27,h0 i)]∧H=rK (qQ (c+Hf k U n i)) Y0 L (.bS [lp b]) p U (Y++JV i)) n ⟨0,sE _,rfl,rfl,by rw [K7,sM];rfl⟩ ?_;rintro m T H ⟨i,hi,rfl,rfl,rfl⟩;(conv=>whnf);refine HE (fun aR=>?_) (fun aR=>?_)
    ·(have hg:i<n:=by omega);(conv=>whnf);refine ⟨by omega,?_⟩;(conv=>whnf);refine Ew (Sc (JQ _)) ?_;(conv=>whnf);rw [show 0+(i:Int).toNat*1=i by omega];refine Ew (x:=h0 (U.getD i 0)) (by rw [sk,sw,si (show i<U.length by omega)];rfl) ?_;(conv=>whnf);(have rC:IntKind.i64.wrap ((i:Int)+1)=((i+1:Nat):Int):=by rw [HO _ (by omega) (by omega)];omega);refine HE (fun aQ=>?_) (fun aQ=>?_)
     ·(conv=>whnf);refine ⟨n-(i+1),by omega,i+1,by omega,rfl,by rw [rC];rfl,?_⟩;rw [Oz,if_neg (by omega),(Ku i).2 (by omega)];rfl
     ·(have Nd:U.getD i 0=0:=by have:=Ng i;omega);obtain ⟨W,mb,cp⟩:=(Ku i).1 hg Nd;(conv=>whnf);refine ⟨by omega,?_⟩;(conv=>whnf);refine Ew (Sc (JQ _)) ?_;(conv=>whnf);rw [show 0+(i:Int).toNat*1=i by omega];refine Gn (by simp;omega) ?_;(conv=>whnf);rw [show (List.map h0 U).set i (I.int IntKind.i64 1)=(U.set i 1).map h0 by rw [tG],XE (JQ _)];subst eS;refine agn (JQ _) (by simpa using Ht) (by omega) (by omega) ⟨qQ (c+Hf k U n (i+1)),Y++JV (i+1),by rw [hlen,hlen],cp,?_⟩;(conv=>whnf);refine ⟨n-(i+1),by omega,i+1,by omega,rfl,by rw [rC];rfl,?_⟩;rw [List.set_set,Xr (by omega) Nd]
    ·(obtain rfl:i=n:=by omega);(conv=>whnf);exact bp _ _ _ ⟨.inr rfl,lI.refl _,rfl⟩
   rcases CM with ⟨rfl,rfl⟩ | ⟨rfl,bJ⟩
   ·unfold Lz LB;obtain ⟨f',Hp⟩:∃ c,Jy=c:=⟨_,rfl⟩;rw [Hp];(conv=>whnf);rw [decide_eq_false (show ¬ (((([]:List Int).length:Nat):Int)=(b.1.1.length:Int)) by simp only [tV];omega)];(conv=>whnf);subst Hp;exact main _ rfl
   ·obtain ⟨a,l,rfl⟩:=tL bJ;unfold Lz LB;obtain ⟨f',Hp⟩:∃ c,Jy=c:=⟨_,rfl⟩;rw [Hp];(conv=>whnf);rw [decide_eq_false (show ¬ ((((a::l).length:Nat):Int)=(b.1.1.length:Int)) by omega)];(conv=>whnf);subst Hp;exact main _ rfl
def Oj (P:Program) (k:FuncId) (cap:List I) (E:List I):Prop :=
 ∀ (l N:Nat) (qQ:Nat→List ar),(∀ i,(qQ i).length=N)→l<N →
   (∀ (i:Nat) (h:i<E.length) (Y:List ar),∃ Z,Sem P (.yield l) [E[i]] (qQ i++Y) 0 (.bool true) (qQ (i+1)++(Y++Z))) →
   ∀ Y,∃ Z,Sem P (.fn k) (.yield l::cap) (qQ 0++Y) 0 (.tuple []) (qQ E.length++(Y++Z))
theorem Xh {α:Type} {P:Program} {A:dw} {fn:FuncId} {rl:Option Nat} {k:FuncId} {cap:List I} {t:Nat} {bq:List Nat} {gH ct:Code} {T:List I} {H Hn:List ar} {Q:cQ→List I→List ar→Prop} {f:α→I} {L:List α} (Iu:Oj P k cap (L.map f))
  (Obj:Nat→List ar) (ax:df T t=.func k [] cap) (aQ:Obj 0=H) (hlen:∀ i,(Obj i).length=H.length)
  (Lr:∀ (i:Nat) (h:i<L.length) (Y:List ar),∃ Z,Sem P (.yield H.length) [f L[i]] ((Obj i++[.loop .ready none fn (T.map I.view) bq gH ct A])++Y) 0 (.bool true) ((Obj (i+1)++[.loop .ready none fn (T.map I.view) bq gH ct A])++(Y++Z)))
  (hg:inLoop H rl=true) (aI:Obj L.length=Hn) (bp:∀ qH,Q .normal (T.map I.settle) ((Hn++[.dead])++qH)):dQ P A fn 0 rl (.AM (.nc t) bq gH ct) T H Q:=by
 show hI T t _;rw [iQ,ax]
 obtain ⟨qH,cp⟩:=Iu H.length (H.length+1) (fun i=>Obj i++[.loop .ready none fn (T.map I.view) bq gH ct A]) (fun i=>by simp [hlen]) (by omega) (fun i h Y=>by
  have aX:i<L.length:=by simpa using h
  obtain ⟨qH,ai⟩:=Lr i aX Y
  exact ⟨qH,by rw [tK];exact ai⟩) []
 subst aI;simp only [sM,tN,sY,aQ] at cp;have ao:(Obj L.length).length=H.length:=hlen _;refine ⟨hg,.tuple [],_,.ready,none,fn,T.map I.view,bq,gH,ct,A,cp,by rw [←ao];exact IC _ _ _,by decide,?_⟩;show Q .normal (T.map I.settle) (((Obj L.length++[ar.loop .ready none fn (T.map I.view) bq gH ct A])++qH).set H.length .dead);rw [←ao,JA];exact bp qH
def ql (n:Nat):List Int:=(List.range n).map fun i:Nat=>(i:Int)
theorem Vn {n:Nat} (aI:n≤7):rz [0,0,0,0,0,0,0] n=ql n:=by
 unfold rz ql;rw [tH.2];intro a cu
 have:a<n:=sH.1 cu
 have cO:a<7:=by omega
 match a,cO with
 | 0,_ | 1,_ | 2,_ | 3,_ | 4,_ | 5,_ | 6,_=>rfl
theorem Xm {b:((List (Int×Int))×(Int×Int))×Unit} (qS:b.1.1.length≤7) (iS:0<b.1.1.length):Oj Tryz.prog 70 [.bS [lp b]] ((q4 b.1.1.length (ql b.1.1.length)).map Hh):=by
 intro L N qQ hlen fq ai Y;have jT:=Vn qS
 obtain ⟨Z,cp⟩:=UF (b:=b) (L:=L) qS iS hlen (Y0:=Y) (p:=N+Y.length) rfl b.1.1.length [] .full [0,0,0,0,0,0,0] 0 rfl (fun i=>by
  rw [sw]
  match i with
  | 0 | 1 | 2 | 3 | 4 | 5 | 6 | i+7=>simp) (by simp) (by rw [jT];simp [ql]) (.inl ⟨rfl,rfl⟩) (fun j l aw Y=>by
    rw [jT] at aw;obtain ⟨ab,ae⟩:=sa.1 aw;obtain ⟨Z,h⟩:=ai j (by simpa using ab) Y;refine ⟨Z,?_⟩;rw [tK,ae] at h;rw [sB]
    exact h) []
 rw [jT,sB] at cp;rw [sY];have e1:rK (qQ 0) Y L (.bS [lp b]) (N+Y.length) [0,0,0,0,0,0,0] []=((qQ 0++Y)++[.cells [.yield L]])++[.cells [h0 0,h0 0,h0 0,h0 0,h0 0,h0 0,h0 0]]++[.cells [IM (.bS [lp b]) (N+Y.length)]]:=by
  unfold rK;simp
 refine ⟨[.cells [.yield L],.cells [h0 0,h0 0,h0 0,h0 0,h0 0,h0 0,h0 0],.cells [IM (.bS [lp b]) (N+Y.length)]]++Z,?_⟩;have b':rK (qQ (q4 b.1.1.length (ql b.1.1.length)).length) Y L (.bS [lp b]) (N+Y.length) [0,0,0,0,0,0,0] ([]++Z)=qQ (q4 b.1.1.length (ql b.1.1.length)).length++(Y++([.cells [.yield L],.cells [h0 0,h0 0,h0 0,h0 0,h0 0,h0 0,h0 0],.cells [IM (.bS [lp b]) (N+Y.length)]]++Z)):=by
  unfold rK;simp
 rw [e1,b'] at cp;obtain ⟨Hn,UG⟩:∃ Hn,Hn=qQ (q4 b.1.1.length (ql b.1.1.length)).length++(Y++([.cells [.yield L],.cells [h0 0,h0 0,h0 0,h0 0,h0 0,h0 0,h0 0],.cells [IM (.bS [lp b]) (N+Y.length)]]++Z)):=⟨_,rfl⟩;rw [←UG] at cp ⊢;have hle:(qQ 0++Y).length=N+Y.length:=by simp [hlen]
 obtain ⟨HP,gL⟩:∃ HP,HP=qQ 0++Y:=⟨_,rfl⟩;rw [←gL] at cp hle ⊢;refine rA eG Vy rfl (IF (by rw [UG,hle];simp [hlen])) fun Q bp=>?_;rw [←hle] at cp;unfold RP RQ;conv=>whnf
 have l1:(HP++[ar.cells [I.yield L]]).length=HP.length+1:=by simp
 have l2:((HP++[ar.cells [I.yield L]])++[ar.cells [I.int IntKind.i64 0,I.int IntKind.i64 0,I.int IntKind.i64 0,I.int IntKind.i64 0,I.int IntKind.i64 0,I.int IntKind.i64 0,I.int IntKind.i64 0]]).length=HP.length+2:=by simp
 refine Ew (x:=.cells [.a0]) (by simp) ?_;conv=>whnf
 rw [HT];refine Ew (x:=.cells [IM (.bS [lp b]) HP.length]) (by rw [ss (sc _),l1,l2,Nat.sub_self];rfl) ?_;conv=>whnf
 refine ⟨_,_,rq (by rw [l1,l2];exact cp),?_⟩;conv=>whnf
 exact bp _ _ _ ⟨.inl rfl,lI.refl _,rfl⟩
end Go.Proofs.YtkoioidpbbbaiaaGreat.Ab


namespace Go.Proofs.YtkoioidpbbbaiaaGreat.Ab
open Go
noncomputable def WK:gE :=
 p2 [p0 2 [.cv (.av [] 0 .full)] (.nil 1)] (p2 [p1 3 0,p0 4 [.cv (.func 69 [] []),.cv (.av [] 0 .full),.nc 3] (.call 0),p1 2 4] .ret)
theorem ac_:qo Go.Proofs.Tryz.prog Tw 42=some (WK,5,[.tmp 2]):=by kernel_rfl
noncomputable def W0:gE :=
 p2 [p0 2 [.jq 0] .box,p0 4 [.cv (.av [] 0 .full)] (.nil 1)] (.seq (p2 [p1 6 1] (.block 0 (.AM (.nc 6) [7] (rf Go.Proofs.Tryz.prog 69 0) (rh Go.Proofs.Tryz.prog 69 0)))) (p2 [p0 12 [.Bs 2] .take,p1 4 12] .ret))
theorem adh:qo Go.Proofs.Tryz.prog JN 69=some (W0,13,[.tmp 4]):=by kernel_rfl
noncomputable def Ru:gE :=
 .seq (p2 [p0 16 [.nc 4] (.zE .one),p0 17 [.cv (.func 43 [] []),.nc 16] (.call 3)] (.block 0 (.AM (.nc 17) [18] (rf Go.Proofs.Tryz.prog 16 0) (rh Go.Proofs.Tryz.prog 16 0)))) (p2 [qh 25 6,p1 2 25,qf 3 0] .ret)
noncomputable def Wv:gE :=
 .seq (p2 [p3 13 5,qy 14 13 0 .neq] (.cond (.nc 14) (p2 [p1 15 5,qf 2 0,p1 3 15] .ret) .skip)) (p2 [p0 6 [] (.alloc [.int .i64 0]),⟨none,[.nc 6,.cv (.int .i64 0)],none,none,.st 1⟩] Ru)
noncomputable def Ww:gE :=
 p2 [p0 9 [.Bs 1] (.zE (.str 3)),p0 10 [.cv (.func 40 [] []),.nc 9,.cv (.av [] 0 .full)] (.call 3),p1 8 10,qB 11 8 0,p0 12 [.Bs 8] (.ext 1),p0 4 [] (.alloc [.eI]),⟨none,[.nc 4,.jq 11],none,none,.st 1⟩,p1 5 12] Wv
noncomputable def Wu:gE :=
 p2 [p0 1 [.jq 0] .box,qf 2 0,qf 3 0] Ww
theorem ac5:qo Go.Proofs.Tryz.prog JL 16=some (Wu,26,[.tmp 2,.tmp 3]):=by kernel_rfl
noncomputable def Wq:gE :=
 p2 [p1 21 7,p0 22 [.Bs 6] (.zY 45 0 1),p0 23 [.cv (.func 44 [] []),.nc 21,.nc 22] (.call 0),p1 2 23,qf 3 0] .ret
noncomputable def Wr:gE :=
 p2 [p1 18 4,p0 19 [.cv (.func 43 [] []),.nc 18] (.call 3),p0 20 [.cv (.func 42 [] []),.nc 19] (.call 3),p1 7 20] Wq
noncomputable def Rt:gE :=
 p2 [p3 16 4,p0 17 [.Bs 16] (.zY 41 1 0),p0 6 [] (.alloc [.a0]),⟨none,[.nc 6,.jq 17],none,none,.st 1⟩] Wr
noncomputable def Ws:gE :=
 .seq (p2 [p3 13 5,qy 14 13 0 .neq] (.cond (.nc 14) (p2 [p1 15 5,p0 2 [.cv (.av [] 0 .full)] (.nil 1),p1 3 15] .ret) .skip)) Rt
noncomputable def Wt:gE :=
 p2 [p0 9 [.Bs 1] (.zE (.str 3)),p0 10 [.cv (.func 40 [] []),.nc 9,.cv (.av [] 0 .full)] (.call 3),p1 8 10,qB 11 8 0,p0 12 [.Bs 8] (.ext 1),p1 4 11,p1 5 12] Ws
noncomputable def Wp:gE :=
 p2 [p0 1 [.jq 0] .box,p0 2 [.cv (.av [] 0 .full)] (.nil 1),qf 3 0] Wt
theorem ac4:qo Go.Proofs.Tryz.prog Tg 14=some (Wp,24,[.tmp 2,.tmp 3]):=by kernel_rfl
noncomputable def WM:gE :=
 .seq (ra [p0 6 [.nc 2] (.zE .one),p1 7 0,p0 8 [.nc 6,.nc 7] (.call 3),p0 9 [.nc 2] (.zE .one),p1 10 1,p0 11 [.nc 9,.nc 10] (.call 3),qn 12 8 11 .lss,p1 5 12]) .ret
noncomputable def WL:gE :=
 p2 [p0 5 [.cv (.bool false)] .mU] WM
theorem ada:qo Go.Proofs.Tryz.prog Ty 45=some (WL,13,[.tmp 5]):=by kernel_rfl
end Go.Proofs.YtkoioidpbbbaiaaGreat.Ab


namespace Go.Proofs.YtkoioidpbbbaiaaGreat.Ab
open Go
theorem S4 {k k':FuncId} {xs ys:List I} {v bo:I} {acc:c7} (h:k'=k→ys=xs→bo=v) (t:∀ p∈acc,p.1=k→p.2.1=xs→p.2.2=v):∀ p∈((k',ys,bo)::acc:c7),p.1=k→p.2.1=xs→p.2.2=v:=fun p aB=>by
 rcases sA.1 aB with rfl | aB
 ·exact h
 ·exact t p aB
end Go.Proofs.YtkoioidpbbbaiaaGreat.Ab


namespace Go.Proofs.YtkoioidpbbbaiaaGreat.Ab
open Go
set_option maxRecDepth 20000
set_option maxHeartbeats 4000000
noncomputable def Xb:gE :=
 .ov false [p0 5 [.jq 7] .mU]
theorem ado:ey Tryz.prog JN (rf Tryz.prog 69 0) 0=some Xb:=by kernel_rfl
noncomputable def Xg:gE :=
 .block 1 (.ov false [p0 8 [.nc 2] .take,p0 9 [.jq 5] .mU,p0 10 [.Bs 9] (.yB 1 1 [.av [] 0 .full] [0]),p0 11 [.jq 8,.jq 10] (.app 1 24),⟨none,[.jq 2,.jq 11],none,none,.st 1⟩])
theorem ads:ey Tryz.prog JN (rh Tryz.prog 69 0) 0=some Xg:=by kernel_rfl
def Ij (l:List (List Int)):I:=match l with | []=>.av [] 0 .full | _=>.av (l.map oX) l.length (.own 1)
theorem aax {l:List (List Int)} {e:List Int} (he:e≠[]) {yh fA Gi Gj rT I2 HM u8 HN HJ HK HL:I} (ao:l.length≤100000) (Y:List ar) :
  ∃ Z,Sem Tryz.prog (.yield [ar.cells [Ij l]].length) [Hh e] (([ar.cells [Ij l]]++[ar.loop .ready none 69 [yh,fA,.ptr 0 0,Gi,Gj,rT,I2,HM,u8,HN,HJ,HK,HL] [7] (rf Tryz.prog 69 0) (rh Tryz.prog 69 0) JN])++Y) 0 (.bool true) (([ar.cells [Ij (l++[e])]]++[ar.loop .ready none 69 [yh,fA,.ptr 0 0,Gi,Gj,rT,I2,HM,u8,HN,HJ,HK,HL] [7] (rf Tryz.prog 69 0) (rh Tryz.prog 69 0) JN])++(Y++Z)):=by
 refine ⟨[],?_⟩;rw [sM];obtain ⟨gb,e,rfl⟩:=tL he;refine Pj eG ado ads (IC _ _ _) rfl (IF (by simp)) ?_;unfold Xb;conv=>whnf
 refine ⟨rfl,IC _ _ _,?_⟩;rw [JA];unfold Xg;cases l with
 | nil =>
   (conv=>whnf);refine ⟨rfl,by omega,?_⟩;(conv=>whnf);refine ⟨by decide,by decide,rfl,?_⟩;(conv=>whnf);show _∧(([ar.cells [Ij ([]++[gb::e])]]++[ar.loop .busy none 69 [yh,fA,.ptr 0 0,Gi,Gj,rT,I2,HM,u8,HN,HJ,HK,HL] [7] (rf Tryz.prog 69 0) (rh Tryz.prog 69 0) JN])++Y)[[ar.cells [Ij ([]++[gb::e])]].length]?=_∧lI ((([ar.cells [Ij ([]++[gb::e])]]++[ar.loop .busy none 69 [yh,fA,.ptr 0 0,Gi,Gj,rT,I2,HM,u8,HN,HJ,HK,HL] [7] (rf Tryz.prog 69 0) (rh Tryz.prog 69 0) JN])++Y).set [ar.cells [Ij ([]++[gb::e])]].length _) _;exact ⟨rfl,IC _ _ _,by rw [JA];exact lI.refl _⟩
 | cons a l =>
   (conv=>whnf);refine ⟨rfl,by omega,?_⟩;(conv=>whnf);refine ⟨by decide,by simp only [sK] at ao ⊢;omega,by simp,?_⟩;(conv=>whnf);(have e1:List.map oX (a::l)++[I.av (List.map h0 (gb::e)) (gb::e).length .shared]=((a::l)++[gb::e]).map oX:=by rw [sO];rfl);have dA:I.av (List.map oX (a::l)++[I.av (List.map h0 (gb::e)) (gb::e).length .shared]) ((a::l).length+1) (.own 1)=Ij ((a::l)++[gb::e]):=by
    show _=I.av (((a::l)++[gb::e]).map oX) ((a::l)++[gb::e]).length (.own 1);rw [sO,sy];rfl
   have l0:((([ar.cells [Ij (a::l)]]++[ar.loop .busy none 69 [yh,fA,.ptr 0 0,Gi,Gj,rT,I2,HM,u8,HN,HJ,HK,HL] [7] (rf Tryz.prog 69 0) (rh Tryz.prog 69 0) JN])++Y).set 0 (ar.cells ([Ij (a::l)].set 0 (I.av (List.map oX (a::l)) (a::l).length hE.shared)))).set 0 (ar.cells [I.av (List.map oX (a::l)++[I.av (List.map h0 (gb::e)) (gb::e).length .shared]) ((a::l).length+1) (.own 1)])=([ar.cells [Ij ((a::l)++[gb::e])]]++[ar.loop .busy none 69 [yh,fA,.ptr 0 0,Gi,Gj,rT,I2,HM,u8,HN,HJ,HK,HL] [7] (rf Tryz.prog 69 0) (rh Tryz.prog 69 0) JN])++Y:=by
    rw [dA];rfl
   erw [l0];exact ⟨IC _ _ _,by erw [JA];exact lI.refl _⟩
theorem OX (l:List (List Int)) (n:Nat) (c:hE):cr 8 (.av (l.map oX) n c)=true:=rM (d:=7) (f:=oX) (fun x=>rM (fun _=>rfl) _ _ _) l n c
theorem V6 (l:List (List Int)):cr 8 (Ij l)=true:=by
 cases l with
 | nil=>rfl
 | cons a l=>exact OX _ _ _
theorem aa9 {k:FuncId} {cap:List I} {l:List (List Int)} (Iu:Oj Tryz.prog k cap (l.map Hh)) (bJ:∀ e∈l,e≠[]) (ao:l.length≤100000):qw 69 [.av [] 0 .full,.func k [] cap] (Ij l):=by
 refine OD eG adh rfl (V6 l) fun Q bp=>?_;unfold W0;obtain ⟨a7,cf⟩:∃ c,gE.AM (.nc 6) [7] (rf Tryz.prog 69 0) (rh Tryz.prog 69 0)=c:=⟨_,rfl⟩;rw [cf];conv=>whnf
 subst cf;refine Xh (f:=Hh) Iu (fun i=>[ar.cells [Ij (l.take i)]]) (by exact rfl) (by exact rfl) (fun _=>rfl) ?_ (rl:=none) (by exact rfl) (Hn:=[ar.cells [Ij l]]) (by show [ar.cells [Ij (l.take l.length)]]=_;rw [uB]) ?_
 ·intro i hi Y;rw [show l.take (i+1)=l.take i++[l[i]] by rw [List.take_add_one,si hi];rfl];exact aax (l:=l.take i) (e:=l[i]) (bJ _ (List.getElem_mem hi)) (by rw [s_];omega) Y
 ·intro qH;cases l with
  | nil =>
    (conv=>whnf);exact bp _ _ _ (Ke (.inr rfl) (V6 _) rfl)
  | cons a l =>
    (conv=>whnf);exact bp _ _ _ (afW (.inr rfl) (OX _ _ _) (.inl rfl))
theorem aa8 {k:FuncId} {cap:List I} {l:List (List Int)} (pw:cap.all (cr 7)=true) (Iu:Oj Tryz.prog k cap (l.map Hh)) (bJ:∀ e∈l,e≠[]) (ao:l.length≤100000):qw 42 [.func k [] cap] (.av (l.map oX) l.length .shared):=by
 refine qL eG ac_ rfl (OX _ _ _) fun Q bp=>?_;unfold WK;conv=>whnf
 refine ⟨_,_,M_ (p6 rfl (p6 (IX rfl pw) rfl)) (aa9 Iu bJ ao) _ _,?_⟩;cases l with
 | nil =>
   (conv=>whnf);exact bp _ _ _ ⟨.inr rfl,_,rfl,_,yW rfl,rfl⟩
 | cons a l =>
   (conv=>whnf);exact bp _ _ _ ⟨.inr rfl,_,rfl,_,yW (OX _ _ _),rfl⟩
theorem VE:∀ {x y:List Int},x.map h0=y.map h0→x=y
 | [],[],_=>rfl
 | [],_::_,h=>by cases h
 | _::_,[],h=>by cases h
 | a::x,c::y,h=>by
   obtain ⟨ab,ae⟩:=List.cons.inj h;(have ab:a=c:=by injection ab);rw [ab,VE ae]
def KO (b:((List (Int×Int))×(Int×Int))×Unit) (x y:List Int):Option Bool :=
 (Kj b x).bind fun n=>(Kj b y).bind fun m=>some (decide (n<m))
theorem ahE {b:((List (Int×Int))×(Int×Int))×Unit} {x y:List Int} {v:Bool} (h:KO b x y=some v):qw 45 [.av (x.map h0) x.length .shared,.av (y.map h0) y.length .shared,.bS [.func 41 [lp b] []]] (B v):=by
 unfold KO at h;obtain ⟨n,aI,h⟩:=p8 h;obtain ⟨m,hm,h⟩:=p8 h;obtain rfl:=Option.some.inj h;refine OD eG ada rfl rfl fun Q bp=>?_;unfold WL WM;conv=>whnf
 refine ⟨qi.pl,_,N5 aI,Hg,?_⟩;conv=>whnf
 refine ⟨qi.pl,_,N5 hm,(S4 (fun _ e=>?_) Hg),?_⟩
 ·have b':x.map h0=y.map h0:=by
   have:=(List.cons.inj (List.cons.inj e).2).1;injection this
  obtain rfl:x=y:=VE b';rw [aI] at hm;rw [Option.some.inj hm]
 conv=>whnf
 exact bp _ _ _ (Ke (.inr rfl) rfl rfl)

noncomputable def PV:gE :=
 .loop (some (p' false [1,1,3,1,6,3,10])) (p2 [p0 15 [.nc 14,.nc 13] (.bin .lss)] (.seq (.cond (.nc 15) .skip (.exit 0)) (.seq (.block 1 (p2 [p0 16 [.nc 12,.nc 14] (.kY 1),qh 17 16,p1 7 17] (p2 [p3 18 1,p3 19 7,p3 20 5,p0 21 [.nc 18,.nc 19,.nc 20] (.call 6)] (.cond (.nc 21) (qO [p1 22 7,p1 5 22]) .skip)))) (qO [qV 23 14 1,p1 14 23]))))
noncomputable def Zd:gE :=
 p2 [p0 4 [.cv (.av [] 0 .full)] (.nil 1)] (p2 [p3 8 0,p0 9 [.Bs 8,.cv (.int .i64 0)] (.kY 1),qh 10 9,p1 5 10] (.seq (p2 [p1 11 0,p0 12 [.jq 11,.cv (.int .i64 1)] (.Bh 1 true false false),p0 13 [.nc 12] .zJ,qf 14 0] (.block 0 PV)) (p2 [p1 24 5,p1 4 24] .ret)))
theorem adW:qo Tryz.prog Qg 44=some (Zd,25,[.tmp 4]):=by kernel_rfl
def KN (l:KW) (better:(p9→p9→Option Bool)) (qa:p9→Option p9):Nat→p9→Int→Option p9
 | 0,_,_=>none
 | m+1,s1,s2 =>
   if (decide (s2<((l.drop (1:Int).toNat).length:Int)))=true then
    qk (0≤s2∧s2<((l.drop (1:Int).toNat).length:Int)) <|
    (better (ix (l.drop (1:Int).toNat) s2) s1).bind fun aS =>
    if aS=true then
     KN l better qa m (ix (l.drop (1:Int).toNat) s2) (w (s2+(1:Int)))
    else
     KN l better qa m s1 (w (s2+(1:Int)))
   else
    qa s1
def N6 (l:KW) (better:(p9→p9→Option Bool)):Option p9 :=
 qk (0≤(0:Int)∧(0:Int)<(l.length:Int)) <|
 qk (0≤(1:Int)∧(1:Int)≤(l.length:Int)) <|
 KN l better (fun yn =>
   some yn) qj (ix l (0:Int)) (0:Int)

noncomputable def Zc:gE :=
 p2 [p0 1 [.jq 0] .box,p0 2 [.cv .a0] .mU] (p2 [p0 3 [.Bs 1] (.zY 70 0 1),p1 2 3] .ret)
theorem adV:qo Tryz.prog Tx 43=some (Zc,4,[.tmp 2]):=by kernel_rfl
def Yp (b:((qg×(Int×Int))×Unit)):Option Unit :=
 some ()
theorem Sv {b:((qg×(Int×Int))×Unit)} {v:Unit} (h:Yp b=some v):qw 43 [(.bS [(.av (b.1.1.flatMap p7) b.1.1.length .shared),(h0 b.1.2.1),(h0 b.1.2.2),Hk])] (.func 70 [] [(.bS [(.bS [(.av (b.1.1.flatMap p7) b.1.1.length .shared),(h0 b.1.2.1),(h0 b.1.2.2),Hk])])]):=by
 refine qL eG adV rfl (IX rfl (p6 (Ik (p6 (Ik (p6 (Hx (fun _=>(p6 rfl (p6 rfl rfl))) _ _ _) (p6 rfl (p6 rfl (p6 rfl rfl))))) rfl)) rfl)) fun Q bp=>?_;have jJ:∀ T H,HV [.tmp 2] (.func 70 [] [(.bS [(.bS [(q2 b.1.1 .shared),(h0 b.1.2.1),(h0 b.1.2.2),Hk])])]) .ret T H→Q .ret T H:=fun T H bE=>bp _ T H bE;unfold Yp at h;unfold Zc;conv=>whnf
 exact jJ _ _ ⟨.inr rfl,_,rfl,_,(Un IG (rF (Up (l:=[(.bS [(q2 b.1.1 .shared),(h0 b.1.2.1),(h0 b.1.2.2),Hk])]) (by first | exact qX.h | rfl | (simp [sq,I.settle];done)) (p6 (Ik (p6 (Hx (fun _=>(p6 rfl (p6 rfl rfl))) _ _ _) (p6 rfl (p6 rfl (p6 rfl rfl))))) rfl)) IG)),rfl⟩

theorem ahB {l:(List (List Int))} {better:((List Int)→(List Int)→Option Bool)} {qa:(List Int)→Option (List Int)} {s1:(List Int)} {s2:Int} {kf_better oid lo:Nat} {HP:List ar} {cv:List I} (aE:HP[oid]?=some (.cells cv)) (hd:cv.map I.view=cv) (fg:cv.map (kh HP)=cv) (JQ:cv.all (cr 7)=true) (QZ:∀ (rb:(List Int)) (BD:(List Int)) (r:Bool),better rb BD=some r→qw kf_better [(.av (rb.map h0) rb.length .shared),(.av (BD.map h0) BD.length .shared),.bS cv] (B r)) {v:(List Int)} {Q:cQ→List I→List ar→Prop}   (ri:∀ (yn:(List Int)) (qd:List I),qa yn=some v→rv 25 [(5,(.av (yn.map h0) yn.length .shared))] qd→Q (.exit 0) qd HP) {T:List I} (b0:eZ [false,true,false,false,false,true,false,false,false,false,false,false,true,true,true,false,false,false,false,false,false,false,false,false,false] T=qc 25 [(1,(.func kf_better [] [.ptr oid 0])),(5,(.av (s1.map h0) s1.length .shared)),(12,(.av ((l.drop (1:Int).toNat).map oX) (l.drop (1:Int).toNat).length .shared)),(13,(h0 ((l.drop (1:Int).toNat).length:Int))),(14,(h0 s2))]) (h:KN l better qa qj s1 s2=some v) :
  dQ Tryz.prog Qg 44 lo none PV T HP Q:=by
 unfold PV;skip;refine wp_loop b0 ?_;refine .intro (fun m T H=>∃ (s1:(List Int)) (s2:Int),T=qc 25 [(1,(.func kf_better [] [.ptr oid 0])),(5,(.av (s1.map h0) s1.length .shared)),(12,(.av ((l.drop (1:Int).toNat).map oX) (l.drop (1:Int).toNat).length .shared)),(13,(h0 ((l.drop (1:Int).toNat).length:Int))),(14,(h0 s2))]∧H=HP∧KN l better qa m s1 s2=some v) qj ⟨s1,s2,rfl,rfl,h⟩ ?_;clear h b0;rintro m T H ⟨s1,s2,rfl,rfl,h⟩;cases m
 ·exact r0 h
 rename_i m;rw [KN.eq_2] at h;conv=>whnf
 refine bs h (fun qs h=>?_) fun qs h=>?_
 ·rw [qs];conv=>whnf
  refine qP h id fun qK h=>?_;rw [ru oX (l.drop (1:Int).toNat) s2 qK];conv=>whnf
  obtain ⟨aS,qY,h⟩:=p8 h;have Cn:hW H (.ptr oid 0)=.bS cv:=by
   show (match H[oid]? with | some (.cells l)=>I.bS (((l.drop 0).map I.view).map (kh H)) | _=>.ptr oid 0)=_;rw [aE];show I.bS ((cv.map I.view).map (kh H))=_;rw [hd,fg]
  refine ⟨_,_,call6 (bs:=[(.av ((ix (l.drop (1:Int).toNat) s2).map h0) (ix (l.drop (1:Int).toNat) s2).length .shared),(.av (s1.map h0) s1.length .shared),.bS cv]) (by show [_,_,(hW H (.ptr oid 0)).cc]=_;rw [Cn];rfl) (by show ([_,_,hW H (.ptr oid 0)]:List I).all (cr 8)=true;rw [Cn];exact (p6 (rM (fun _=>rfl) _ _ _) (p6 (rM (fun _=>rfl) _ _ _) (p6 (Ik JQ) rfl)))) (QZ _ _ _ qY) rfl,?_⟩;conv=>whnf
  cases aS
  ·(conv=>whnf);replace h:=rW rfl h;exact ⟨m,sD m,s1,(w (s2+(1:Int))),rfl,rfl,h⟩
  ·(conv=>whnf);replace h:=rV rfl h;exact ⟨m,sD m,(ix (l.drop (1:Int).toNat) s2),(w (s2+(1:Int))),rfl,rfl,h⟩
 ·rw [qs];conv=>whnf
  exact ri _ _ h ⟨rfl,rfl⟩
theorem ahC {l:(List (List Int))} {better:((List Int)→(List Int)→Option Bool)} {kf_better oid:Nat} {HP:List ar} {cv:List I} (aE:HP[oid]?=some (.cells cv)) (hd:cv.map I.view=cv) (fg:cv.map (kh HP)=cv) (JQ:cv.all (cr 7)=true) (QZ:∀ (rb:(List Int)) (BD:(List Int)) (r:Bool),better rb BD=some r→qw kf_better [(.av (rb.map h0) rb.length .shared),(.av (BD.map h0) BD.length .shared),.bS cv] (B r)) {v:(List Int)} (h:N6 l better=some v):Sem Tryz.prog (.fn 44) [(.av (l.map oX) l.length .shared),(.func kf_better [] [.ptr oid 0])] HP HP.length (.av (v.map h0) v.length .shared) HP:=by
 refine rA eG adW rfl (a'.refl _ _) fun Q bp=>?_;unfold N6 at h;unfold Zd;obtain ⟨HD,qE⟩:∃ c,PV=c:=⟨_,rfl⟩;rw [qE];conv=>whnf
 refine qP h id fun gM h=>?_;rw [ru oX l (0:Int) gM];conv=>whnf
 refine qP h id fun gN h=>?_;erw [Xx oX l (1:Int) gN];conv=>whnf
 subst qE;refine ahB aE hd fg JQ QZ ?_ (by exact rfl) h;intro yn qd h qz;obtain ⟨rB,rfl⟩:=qz.ex;conv=>whnf
 obtain rfl:=Option.some.inj h;exact bp _ _ _ ⟨.inr rfl,lI.refl _,rfl⟩
theorem LF (n:Nat):(ql n).length=n:=by simp [ql]
theorem Q_ {n:Nat} (aI:0<n):∀ e∈q4 n (ql n),e≠[]:=fun e he h=>by
 have:=acZ (LF n) he;rw [h] at this;simp at this;omega
def OB:Nat→Nat
 | 0=>1
 | n+1=>(n+1)*OB n
theorem Ug {α β:Type} {f:α→List β} {c:Nat}:∀ {l:List α},(∀ x∈l,(f x).length=c)→(l.flatMap f).length=l.length*c
 | [],_=>by simp
 | a::l,h=>by
   rw [List.flatMap_cons,sy,h a (by simp),Ug fun x aj=>h x (by simp [aj]),sK,Nat.succ_mul];omega
theorem Vq:∀ (n:Nat) (left:List Int),left.length=n→(q4 n left).length=OB n
 | 0,_,_=>rfl
 | n+1,left,h=>by
   show (left.flatMap fun x=>(q4 n (left.erase x)).map (x::·)).length=(n+1)*OB n;rw [Ug (c:=OB n) fun x aj=>by rw [sY];exact Vq n _ (by rw [tT aj];omega),h]
theorem Vs {n:Nat} (aI:n≤7):(q4 n (ql n)).length≤100000:=by
 rw [Vq n _ (LF n)]
 match n,aI with
 | 0,_ | 1,_ | 2,_ | 3,_ | 4,_ | 5,_ | 6,_ | 7,_=>decide
theorem aaL {P:Program} {k:FuncId} {args:List I} {H H':List ar} {lo:Nat} {r:I} (h:Sem P (.fn k) args H H.length r H') (aB:cr 8 r=true):oV P 0 lo (.fn k) args H r H:=by
 refine ⟨_,EB h,?_⟩;simp only [eQ,EA,sb,yW aB,se]
theorem Ia {d:Nat} (b:((List (Int×Int))×(Int×Int))×Unit):cr (d+3) (lp b)=true:=Ik (p6 (Hx (fun _=>p6 rfl (p6 rfl rfl)) _ _ _) (p6 rfl (p6 rfl (p6 rfl rfl))))
def Kh (p:qb):Option (List Int×Int) :=
 (rN p []).bind fun r=>match r with
 | (none,q)=>if decide (q≠0)=true then some ([],q) else none
 | (some b,q)=>if decide (q≠0)=true then some ([],q) else
   qk (0<b.1.1.length∧b.1.1.length≤7) <|
   (N6 (q4 b.1.1.length (ql b.1.1.length)) (KO b)).bind fun l=>some (l,0)
theorem Sj {p:qb} {v:List Int×Int} (h:Kh p=some v):qw 14 [.agg [.av (p.1.flatMap p7) p.1.length .shared,h0 p.2.1,h0 p.2.2]] (.tuple [.av (v.1.map h0) v.1.length .shared,h0 v.2]):=by
 unfold Kh at h;obtain ⟨⟨aS,bj⟩,ai,h⟩:=p8 h;refine qL eG ac4 rfl (Je (p6 (rM (fun _=>rfl) _ _ _) (p6 rfl rfl))) fun Q bp=>?_;have jJ:∀ T H,HV [.tmp 2,.tmp 3] (.tuple [(.av (v.1.map h0) v.1.length .shared),(h0 v.2)]) .ret T H→Q .ret T H:=fun T H bE=>bp _ T H bE;unfold Wp Wt Ws;obtain ⟨bt,eS⟩:∃ c,Rt=c:=⟨_,rfl⟩;rw [eS];conv=>whnf
 refine ⟨qi.pl,_,MW ai,?_⟩;rcases aS with _ | b
 ·conv=>whnf
  refine bs h (fun af h=>?_) fun af h=>?_
  ·rw [af];(conv=>whnf);obtain rfl:=Option.some.inj h;exact jJ _ _ (Il rfl rfl)
  ·cases h
 ·conv=>whnf
  refine bs h (fun af h=>?_) fun af h=>?_
  ·rw [af];(conv=>whnf);obtain rfl:=Option.some.inj h;exact jJ _ _ (Il rfl rfl)
  ·rw [af];(conv=>whnf);subst eS;unfold Rt Wr Wq;obtain ⟨⟨Di,Mf⟩,h⟩:=rR h;obtain ⟨l,ao,h⟩:=p8 h;obtain rfl:=Option.some.inj h;(conv=>whnf);refine ⟨p6 (Ia b) rfl,_,Sv (b:=b) (v:=()) rfl,?_⟩;(conv=>whnf);have pw:[I.bS [lp b]].all (cr 7)=true:=p6 (Ik (p6 (Ia b) rfl)) rfl;refine ⟨p6 (IX rfl pw) rfl,_,aa8 pw (Xm Mf Di) (Q_ Di) (Vs Mf),?_⟩;(conv=>whnf);refine ⟨_,_,aaL (ahC (better:=KO b) (kf_better:=45) (cv:=[.func 41 [lp b] []]) (oid:=1) rfl rfl rfl (p6 (IX (p6 (Ia b) rfl) rfl) rfl) (fun rb BD r aY=>ahE aY) ao) (rM (fun _=>rfl) _ _ _),?_⟩;(conv=>whnf);exact jJ _ _ (Il rfl rfl)
end Go.Proofs.YtkoioidpbbbaiaaGreat.Ab


namespace Go.Proofs.YtkoioidpbbbaiaaGreat.Ab
open Go
noncomputable def Rv:gE :=
 .ov true [p3 54 8, p0 55 [.Bs 54] .z4, qv 56 55 0, qv 57 56 0, qh 58 57, p0 59 [.nc 12] (.yM 0), qh 60 59, p0 61 [.nc 12] (.yM 1), p0 62 [.Bs 61] (.zE (.str 2)), p0 63 [.nc 12] (.yM 0), p0 64 [.Bs 63] (.other (Oper.mk (some 64) (Op.load 3 (Operand.tmp 63)) 3 "curl.go:119" (Array.mk [Edge.mk 9 Ground.data, Edge.mk 13 (Ground.gcOnly Departure.lateStores)]) none) 13), qV 65 64 1, re 66 58 60 2, ⟨none, [.jq 66, .jq 62], none, none, .other (Oper.mk none (Op.store 54 (Operand.tmp 66) (Operand.tmp 62)) 0 "curl.go:119" (Array.mk [Edge.mk 12 Ground.data, Edge.mk 8 Ground.data, Edge.mk 0 Ground.phase, Edge.mk 1 Ground.phase, Edge.mk 2 Ground.phase, Edge.mk 3 Ground.phase, Edge.mk 4 Ground.phase, Edge.mk 5 Ground.phase, Edge.mk 6 Ground.phase, Edge.mk 7 Ground.phase, Edge.mk 8 Ground.phase, Edge.mk 9 (Ground.textOnly Departure.lateStores), Edge.mk 10 (Ground.textOnly Departure.lateStores), Edge.mk 11 (Ground.textOnly Departure.lateStores)]) none) 13⟩, p1 10 65]
noncomputable def Wy:gE :=
 .seq (p2 [p1 39 10,p0 40 [.nc 3] (.yM 0),qh 41 40,qW 42 41,qy 43 42 1 .sub,p0 44 [.nc 12] (.yM 0),qh 45 44,p0 46 [.Bs 45] (.yB 1 1 [.int .i64 0] [0]),p0 47 [.cv (.func 50 [] []),.nc 39,.nc 43,.nc 46] (.call 3),p0 48 [.Bs 47] (.un .not),p1 49 48,cl 50 [.nc 12] 49 false (.yM 1),cl 51 [.Bs 50] 49 false (.zE (.str 2)),⟨some 52,[.cv (.func 51 [] []),.nc 51],some (49,false),none,.call 3⟩,p0 53 [.Bs 49,.cv (.bool true),.Bs 52] .pick] (.cond (.nc 53) (p2 [qf 6 0,qf 7 3] .ret) .skip)) Rv
noncomputable def Rw:gE :=
 .block 1 (p2 [p0 37 [.nc 33,.nc 35] (.kY 3),p0 38 [.Bs 37] (.zE (.str 3)),p0 12 [] (.alloc [.int .i64 0,.int .i64 0,.int .i64 0]),⟨none,[.nc 12,.jq 38],none,none,.st 3⟩] Wy)
noncomputable def Wz:gE :=
 p2 [p1 72 2,qW 73 72,p1 6 73,qf 7 0] .ret
noncomputable def Rx:gE :=
 .seq (p2 [p1 68 8,p1 69 1,p0 70 [.cv (.func 41 [] []),.nc 68,.nc 69] (.call 6),qy 71 70 0 .gtr] (.cond (.nc 71) (p2 [qf 6 0,qf 7 23] .ret) .skip)) Wz
noncomputable def WA:gE :=
 .seq (p2 [p3 33 2,p0 34 [.nc 33] .zJ,qf 35 0] (.block 0 (.loop (some (p' false [1,3,4,1,1,1,22,3,38])) (p2 [p0 36 [.nc 35,.nc 34] (.bin .lss)] (.seq (.cond (.nc 36) .skip (.exit 0)) (.seq Rw (qO [qV 67 35 1,p1 35 67]))))))) Rx
noncomputable def Ry:gE :=
 p2 [p3 23 8,p3 24 8,p0 25 [.Bs 24] .z4,qv 26 25 0,qv 27 26 0,qh 28 27,p0 29 [.cv (.func 49 [] []),.nc 28] (.call 2),p0 30 [.Bs 23] .z4,qv 31 30 0,qv 32 31 0,⟨none,[.jq 32,.jq 29],none,none,.st 1⟩] WA
noncomputable def WB:gE :=
 .seq (p2 [p3 20 9,qy 21 20 0 .neq] (.cond (.nc 21) (p2 [p1 22 9,qf 6 0,p1 7 22] .ret) .skip)) (p2 [qf 10 0] Ry)
noncomputable def WC:gE :=
 p2 [p0 14 [.nc 3] (.zE (.str 3)),p3 15 1,p0 16 [.Bs 15] (.yB 1 1 [.av [] 0 .full] [0]),p0 17 [.cv (.func 40 [] []),.nc 14,.nc 16] (.call 2),p1 13 17,qB 18 13 0,p0 19 [.Bs 13] (.ext 1),p1 8 18,p1 9 19] WB
noncomputable def Wx:gE :=
 p2 [p0 3 [.jq 0] .yy,qf 6 0,qf 7 0] WC
theorem ac6:qo Go.Proofs.Tryz.prog Th 19=some (Wx,74,[.tmp 6,.tmp 7]):=by kernel_rfl
noncomputable def afi:gE :=
 p2 [p0 5 [] (.yB 0 2 [.int .i64 0,.int .i64 0] []),p1 6 0,p0 7 [.jq 5,.jq 6] (.app 2 16),⟨some 2,[.jq 7],none,some 7,.Bq⟩] .ret
noncomputable def WN:gE :=
 p2 [p0 2 [.cv (.av [] 0 .full)] (.nil 2)] (.seq (p2 [p3 3 0, p0 4 [.Bs 3, .cv (.av [] 0 .full)] (.other (Oper.mk (some 4) (Op.binOp .eql 22 (Operand.tmp 3) (Operand.const (Value.slice none 0 0)) 22) 4 "slices.go:357" (Array.mk [Edge.mk 0 Ground.data]) none) 0)] (.cond (.nc 4) (p2 [p0 2 [.cv (.av [] 0 .full)] (.nil 2)] .ret) .skip)) afi)
theorem adb:qo Go.Proofs.Tryz.prog Tz 49=some (WN,8,[.tmp 2]):=by kernel_rfl
end Go.Proofs.YtkoioidpbbbaiaaGreat.Ab


namespace Go.Proofs.YtkoioidpbbbaiaaGreat.Ab
open Go
set_option maxRecDepth 20000
set_option maxHeartbeats 4000000
theorem aa6 {l:List (Int×Int)} (ao:l≠[]) (ab:l.length≤1000) (H:List ar):Sem Tryz.prog (.fn 49) [.av (l.flatMap p7) l.length .shared] H H.length (.ref H.length 0 l.length none 2) (H++[.cells (l.flatMap p7)]):=by
 obtain ⟨a,l,rfl⟩:=tL ao;refine rA eG adb rfl (a'.append _ _ _) fun Q bp=>?_;unfold WN;conv=>whnf
 refine ⟨.bool false,H,fun C=>rfl,?_⟩;conv=>whnf
 refine ⟨HX p7 2 (fun _=>rfl) _,by simp only [sK] at ab ⊢;omega,?_⟩;conv=>whnf
 refine ⟨rfl,by simp only [sK] at ab ⊢;omega,?_⟩;conv=>whnf
 refine .inl ⟨by simp,?_⟩;conv=>whnf
 rw [sB];exact bp _ _ _ ⟨.inr rfl,lI.refl _,rfl⟩
theorem aeN {d:Nat} (l:List (Int×Int)) (n:Nat) (c:hE):cr (d+2) (.av (l.flatMap p7) n c)=true:=Hx (fun _=>p6 rfl (p6 rfl rfl)) _ _ _
theorem aa5 {l:List (Int×Int)} (ao:l≠[]) (ab:l.length≤1000) (H:List ar) (lo:Nat):oV Tryz.prog 2 lo (.fn 49) [.av (l.flatMap p7) l.length .shared] H (.ref H.length 0 l.length none 2) (H++[.cells (l.flatMap p7)]):=by
 refine ⟨_,EB (aa6 ao ab H),?_⟩;have e1:DM 2 H.length (H++[ar.cells (l.flatMap p7)]) (.ref H.length 0 l.length none 2)=some H.length:=by simp [DM,Co,yU]
 have b':(H++[ar.cells (l.flatMap p7)])[H.length]?=some (.cells (l.flatMap p7)):=by simp
 have dA:bM (H++[ar.cells (l.flatMap p7)]) H.length H.length H.length 8 (.ref H.length 0 l.length none 2)=some (.ref H.length 0 l.length none 2):=by simp [bM]
 have l0:ea (bM (H++[ar.cells (l.flatMap p7)]) H.length H.length H.length 8) (l.flatMap p7)=some (l.flatMap p7):=zU fun u hu=>by
  obtain ⟨x,_,aj⟩:=tJ.1 hu;simp only [p7,sA,tQ,or_false] at aj;rcases aj with rfl | rfl <;> rfl
 simp only [eQ,EA,sb,e1,b',dA,l0,sc,if_true]
theorem acN {P:Program} {C:b8} {lo id:Nat} {o:Oper} {t:TypeId} {e:Operand} {x y z:I} {H:List ar} (aq:o.op=.load t e) (cu:iL P t=some .one) (ag:H[id]?=some (.cells [x,y,z])):a3 P C lo o 13 [.ptr id 0] H=some (x.view,H):=by
 unfold a3;rw [aq];show dF P lo 13 t H [.ptr id 0]=_;unfold dF;simp only [ag,sK,tV,if_true];rw [T0 cu];simp only [Oq,ag,Lt];rfl
theorem R9:∀ (S:List (Int×Int)) (i:Nat) (a b:Int),i<S.length→((S.flatMap p7).set (i*2) (h0 a)).set (i*2+1) (h0 b)=(S.set i (a,b)).flatMap p7
 | [],i,a,b,h=>absurd h (by simp)
 | s::S,0,a,b,_=>rfl
 | s::S,i+1,a,b,h=>by
   have a8:=R9 S i a b (by simpa using h);show ((h0 s.1::h0 s.2::S.flatMap p7).set ((i+1)*2) (h0 a)).set ((i+1)*2+1) (h0 b)=h0 s.1::h0 s.2::(S.set i (a,b)).flatMap p7;rw [←a8,show (i+1)*2=i*2+1+1 by omega,show i*2+1+1+1=(i*2+1)+1+1 by omega];rfl
theorem agm {P:Program} {C:b8} {lo id i:Nat} {o:Oper} {t:TypeId} {e1 b':Operand} {S:List (Int×Int)} {a b:Int} {H:List ar} (aq:o.op=.store t e1 b') (ah:bF P t=some 2) (bD:lo≤id) (hi:i<S.length) (ag:H[id]?=some (.cells (S.flatMap p7))) :
  a3 P C lo o 13 [.ptr id (i*2),.agg [h0 a,h0 b]] H=some (.a0,H.set id (.cells ((S.set i (a,b)).flatMap p7))):=by
 have ao:(S.flatMap p7).length=S.length*2:=HX p7 2 (fun _=>rfl) S;unfold a3;rw [aq];show gm P lo 13 t H [.ptr id (i*2),.agg [h0 a,h0 b]]=_;unfold gm;simp only [ag];rw [if_neg (by omega)];unfold g8;simp only [ah,I.cells,gT,ag,if_pos bD];rw [if_pos ⟨rfl,by omega⟩,←R9 S i a b hi];rfl
theorem Rb {α:Type} {f:α→α} {l:List α} (h:∀ u∈l,f u=u):l.map f=l:=by
 conv=>rhs;rw [←List.map_id l]
 exact List.map_congr_left fun u hu=>h u hu
theorem Xj {S:List (Int×Int)} {H:List ar} {id n:Nat} {cap:Option Nat} (ag:H[id]?=some (.cells (S.flatMap p7))) (aI:S.length=n):rowOf H (.ref id 0 n cap 2)=some (S.flatMap p7):=by
 have ao:(S.flatMap p7).length=S.length*2:=HX p7 2 (fun _=>rfl) S;simp only [rowOf,ag,sB,List.drop_zero];rw [if_pos (by omega),te (by omega),Rb (X6 (f:=p7) (fun _=>NY rfl (NY rfl X7)) S)]
abbrev qu:=Int×(Int×Int)
def L' (n:Int):List qu→List (Int×Int)→Int→Option (Option (List (Int×Int)))
 | [],S,_=>some (some S)
 | c::r,S,next=>(IH next (w (n-1)) [c.1]).bind fun a =>
   if a=true then (KQ c.2).bind fun bad=>if bad=true then some none else qk (0≤c.1∧c.1<(S.length:Int)) <| L' n r (S.set c.1.toNat c.2) (w (c.1+1))
   else some none
def JE (p:qb) (order:List Int) (l:List qu):Option (Int×Int) :=
 (rN p [order]).bind fun r=>match r with
 | (none,q)=>if decide (q≠0)=true then some (0,q) else none
 | (some b,q)=>if decide (q≠0)=true then some (0,q) else
   qk (p.1≠[]∧p.1.length≤1000∧l.length≤1000) <|
   (L' p.1.length l p.1 0).bind fun o=>match o with
   | none=>some (0,3)
   | some S=>(Kj ((S,p.2),()) order).bind fun c=>if decide (0<c)=true then some (0,23) else some (l.length,0)
theorem Sn {p:qb} {order:List Int} {l:List qu} {v:Int×Int} (h:JE p order l=some v):qw 19 [.agg [.av (p.1.flatMap p7) p.1.length .shared,h0 p.2.1,h0 p.2.2],.av (order.map h0) order.length .shared,.av (l.flatMap qq) l.length .shared] (.tuple [h0 v.1,h0 v.2]):=by
 unfold JE at h;obtain ⟨⟨aS,bj⟩,ai,h⟩:=p8 h;refine qL eG ac6 rfl (Je (p6 rfl (p6 rfl rfl))) fun Q bp=>?_;have jJ:∀ T H,HV [.tmp 6,.tmp 7] (.tuple [h0 v.1,h0 v.2]) .ret T H→Q .ret T H:=fun T H bE=>bp _ T H bE;unfold Wx WC WB;obtain ⟨nu,Mb⟩:∃ c,Ry=c:=⟨_,rfl⟩;rw [Mb];conv=>whnf
 refine ⟨rfl,?_⟩;conv=>whnf
 rcases aS with _ | b
 ·refine ⟨_,_,aaO ai,?_⟩;conv=>whnf
  refine bs h (fun af h=>?_) fun af h=>?_
  ·rw [af];(conv=>whnf);obtain rfl:=Option.some.inj h;exact jJ _ _ (Il rfl rfl)
  ·cases h
 ·obtain ⟨rfl,rfl,_⟩:=N3 ai;refine ⟨_,_,aaN ai,?_⟩;conv=>whnf
  refine bs h (fun af h=>?_) fun af h=>?_
  ·exact absurd af (by decide)
  subst Mb;unfold Ry;obtain ⟨⟨bJ,aB,ao⟩,h⟩:=rR h;obtain ⟨o,ak,h⟩:=p8 h;obtain ⟨bt,eS⟩:∃ c,Rw=c:=⟨_,rfl⟩;obtain ⟨dV,Cr⟩:∃ c,Rx=c:=⟨_,rfl⟩;unfold WA;rw [eS,Cr];conv=>whnf
  refine ⟨_,_,aa5 bJ aB _ _,?_⟩;conv=>whnf
  have el:(l.flatMap qq).length=l.length*3:=HX qq 3 (fun _=>rfl) _
  refine .intro (fun m T H=>∃ (i:Nat) (S:List (Int×Int)) (next:Int) (Y:List ar),i≤l.length∧m=l.length-i∧S.length=p.1.length∧L' p.1.length (l.drop i) S next=some o ∧
   T=qc 74 [(1,.av (order.map h0) order.length .shared),(2,.av (l.flatMap qq) l.length .shared),(3,.bS [.av (p.1.flatMap p7) p.1.length .shared,h0 p.2.1,h0 p.2.2]),(8,.ptr 0 0),(10,h0 next),(33,.av (l.flatMap qq) l.length .shared),(34,h0 l.length),(35,h0 i)] ∧
   H=ar.cells [.ref 1 0 p.1.length none 2,h0 p.2.1,h0 p.2.2,Hk]::ar.cells (S.flatMap p7)::Y) l.length ⟨0,p.1,0,[],sE _,rfl,rfl,ak,rfl,rfl⟩ ?_
  rintro m T H ⟨i,S,next,Y,hi,rfl,cp,al,rfl,rfl⟩;conv=>whnf
  refine HE (fun aR=>?_) (fun aR=>?_)
  ·(have HG:i<l.length:=by omega);rw [s6 HG] at al;unfold L' at al;obtain ⟨a,cu,al⟩:=p8 al;subst eS;unfold Rw Wy;obtain ⟨a7,cf⟩:∃ c,Rv=c:=⟨_,rfl⟩;rw [cf];(conv=>whnf);(have It:0≤(i:Int)∧(i:Int)<(l.length:Int):=by omega);refine ⟨It,?_⟩;rw [HW qq 3 H4 l (i:Int) It];rw [rr HG];obtain ⟨c,QV⟩:∃ c,c=l[i]:=⟨_,rfl⟩;rw [←QV] at cu al ⊢;(conv=>whnf);refine Ew (x:=ar.cells [h0 0,h0 0,h0 0]) (by first | exact qX.h | rfl | (simp [sq,I.settle];done)) ?_
   (conv=>whnf);rw [HT];refine Ew (x:=ar.cells [h0 c.1,h0 c.2.1,h0 c.2.2]) (by first | exact qX.h | rfl | (simp [sq,I.settle];done)) ?_
   (conv=>whnf);refine ⟨p6 rfl (p6 rfl (p6 rfl rfl)),_,KP cu,?_⟩;(conv=>whnf);cases a with
   | false =>
     obtain rfl:=Option.some.inj (rW rfl al);(conv=>whnf);obtain rfl:=Option.some.inj h;exact jJ _ _ (Il rfl rfl)
   | true =>
     obtain ⟨bad,gN,al⟩:=p8 (rV rfl al);(conv=>whnf);refine Ew (x:=ar.cells [h0 c.1,h0 c.2.1,h0 c.2.2]) (by first | exact qX.h | rfl | (simp [sq,I.settle];done)) ?_
     (conv=>whnf);refine ⟨p6 rfl rfl,_,Yt gN,?_⟩;(conv=>whnf);cases bad with
     | true =>
       obtain rfl:=Option.some.inj (rV rfl al);(conv=>whnf);obtain rfl:=Option.some.inj h;exact jJ _ _ (Il rfl rfl)
     | false =>
       obtain ⟨jM,al⟩:=rR (rW rfl al);(conv=>whnf);subst cf;unfold Rv;(conv=>whnf);refine Ew (x:=ar.cells [h0 c.1,h0 c.2.1,h0 c.2.2]) (by first | exact qX.h | rfl | (simp [sq,I.settle];done)) ?_
       (conv=>whnf);refine Ew (x:=ar.cells [h0 c.1,h0 c.2.1,h0 c.2.2]) (by first | exact qX.h | rfl | (simp [sq,I.settle];done)) ?_
       (conv=>whnf);refine ⟨_,_,fun C=>acN (x:=h0 c.1) rfl (by kernel_rfl) (by first | exact qX.h | rfl | (simp [sq,I.settle];done)),?_⟩
       (conv=>whnf);refine ⟨by omega,?_⟩;(conv=>whnf);refine ⟨.a0,ar.cells [.ref 1 0 p.1.length none 2,h0 p.2.1,h0 p.2.2,Hk]::ar.cells ((S.set c.1.toNat c.2).flatMap p7)::(Y++[ar.cells [h0 c.1,h0 c.2.1,h0 c.2.2]]),fun C=>Eq.trans (by rw [sB];exact agm (S:=S) (i:=c.1.toNat) (id:=1) rfl (by kernel_rfl) (sE _) (by omega) rfl) rfl,?_⟩;(conv=>whnf);(have rC:IntKind.i64.wrap ((i:Int)+1)=((i+1:Nat):Int):=by rw [HO _ (by omega) (by omega)];omega);exact ⟨l.length-(i+1),by omega,i+1,S.set c.1.toNat c.2,w (c.1+1),_,by omega,rfl,by simpa using cp,al,by rw [rC];rfl,rfl⟩
  ·(obtain rfl:i=l.length:=by omega);rw [uY] at al;obtain rfl:=Option.some.inj al;obtain ⟨c,ab_,h⟩:=p8 h;(conv=>whnf);subst Cr;unfold Rx Wz;have cI:rowOf (ar.cells [.ref 1 0 p.1.length none 2,h0 p.2.1,h0 p.2.2,Hk]::ar.cells (S.flatMap p7)::Y) (.ref 1 0 p.1.length none 2)=some (S.flatMap p7):=Xj rfl cp;have Cn:iD (ar.cells [.ref 1 0 p.1.length none 2,h0 p.2.1,h0 p.2.2,Hk]::ar.cells (S.flatMap p7)::Y) (.ptr 0 0)=lp ((S,p.2),()):=by
    show I.bS [kh _ (.ref 1 0 p.1.length none 2),h0 p.2.1,h0 p.2.2,Hk]=_;have gb:kh (ar.cells [.ref 1 0 p.1.length none 2,h0 p.2.1,h0 p.2.2,Hk]::ar.cells (S.flatMap p7)::Y) (.ref 1 0 p.1.length none 2)=.av (S.flatMap p7) p.1.length .shared:=by
     show (match rowOf _ (.ref 1 0 p.1.length none 2) with | some row=>I.av row p.1.length .shared | none=>.ref 1 0 p.1.length none 2)=_;rw [cI]
    rw [gb,←cp]
   (conv=>whnf);refine ⟨_,_,call6 (bs:=[lp ((S,p.2),()),.av (order.map h0) order.length .shared]) (by rw [sG,Cn];rfl) (by rw [sG,Cn];exact p6 (Ia _) (p6 (rM (fun _=>rfl) _ _ _) rfl)) (N5 ab_) rfl,?_⟩;(conv=>whnf);refine bs h (fun af h=>?_) fun af h=>?_
   ·rw [af];(conv=>whnf);obtain rfl:=Option.some.inj h;exact jJ _ _ (Il rfl rfl)
   ·rw [af];(conv=>whnf);obtain rfl:=Option.some.inj h;exact jJ _ _ (Il rfl rfl)
end Go.Proofs.YtkoioidpbbbaiaaGreat.Ab


namespace Go.Proofs.YtkoioidpbbbaiaaGreat.Ab
open Go
noncomputable def RE:gE :=
 .block 1 (ra [p0 20 [.nc 5] (.yM 0),qh 21 20,p3 22 1,p3 23 6,re 24 22 23 3,qv 25 24 0,qh 26 25,p3 27 1,p3 28 6,re 29 27 28 3,qv 30 29 1,p0 31 [.Bs 30] (.zE (.str 2)),re 32 21 26 2,⟨none,[.jq 32,.jq 31],none,none,.st 2⟩])
noncomputable def WQ:gE :=
 .seq (p2 [p3 14 6,p3 15 1,qW 16 15,qn 17 14 16 .lss] (.cond (.nc 17) .skip (.exit 0))) (.seq RE (qO [p1 18 6,qV 19 18 1,p1 6 19]))
noncomputable def O0:gE :=
 .seq (p2 [qf 6 0] (.block 0 (.loop (some (p' false [1,1,2,3,27])) WQ))) (p2 [p0 33 [.Bs 5] (.zE (.str 3)),⟨none,[.nc 4,.jq 33],none,none,.st 3⟩] .ret)
noncomputable def WR:gE :=
 .seq (.two [p0 7 [] (.yB 0 2 [.int .i64 0,.int .i64 0] []),p0 8 [.nc 2] (.yM 0),p0 9 [.Bs 8] (.zF .one),p0 10 [.jq 7,.jq 9] (.yt 2 16),p0 11 [.nc 2] (.yM 1),p0 12 [.Bs 11] (.zF (.str 2)),p0 13 [.Bs 10,.Bs 12] (.build [.av [] 0 .full,.int .i64 0,.int .i64 0] [(0,1),(1,2)]),p0 5 [] (.alloc [.av [] 0 .full,.int .i64 0,.int .i64 0]),⟨none,[.nc 5,.jq 13],none,none,.st 3⟩] [p0 7 [] (.yB 0 2 [.int .i64 0,.int .i64 0] []),p0 8 [.nc 2] (.yM 0),p0 9 [.Bs 8] (.zF .one),p0 5 [] (.alloc [.av [] 0 .full,.int .i64 0,.int .i64 0]),p0 10 [.jq 7,.jq 9] (.yt 2 16),p0 11 [.nc 2] (.yM 1),p0 12 [.Bs 11] (.zF (.str 2)),p0 13 [.Bs 10,.Bs 12] (.build [.av [] 0 .full,.int .i64 0,.int .i64 0] [(0,1),(1,2)]),⟨none,[.nc 5,.jq 13],none,none,.st 3⟩]) O0
noncomputable def WO:gE :=
 p2 [p0 2 [.jq 0] .yy,p0 4 [] (.alloc [.av [] 0 .full,.int .i64 0,.int .i64 0])] WR
theorem ade:qo Go.Proofs.Tryz.prog Qi 54=some (WO,34,[.cell 4 (.str 3)]):=by kernel_rfl
end Go.Proofs.YtkoioidpbbbaiaaGreat.Ab


namespace Go.Proofs.YtkoioidpbbbaiaaGreat.Ab
open Go
set_option maxRecDepth 20000
set_option maxHeartbeats 4000000
def K3:List qu→List (Int×Int)→Option (List (Int×Int))
 | [],S=>some S
 | c::r,S=>qk (0≤c.1∧c.1<(S.length:Int)) <| K3 r (S.set c.1.toNat c.2)
def N9 (p:qb) (l:List qu):Option qb :=
 qk (p.1≠[]∧p.1.length≤1000∧l.length≤1000) <| (K3 l p.1).bind fun S=>some (S,p.2)
theorem VC {p:qb} {l:List qu} {S':List (Int×Int)} (ao:l.length≤1000) (C':K3 l p.1=some S') {vid rid:Nat} {Hs:List (Int×Int)→List ar} (aQ:∀ S,∃ x,(Hs S)[0]?=some (.cells [x,h0 0,h0 0])) (ad:∀ S,(Hs S)[vid]?=some (.cells [.ref rid 0 p.1.length none 2,h0 p.2.1,h0 p.2.2])) (ai:∀ S,(Hs S)[rid]?=some (.cells (S.flatMap p7))) (ah:∀ S bL,(Hs S).set rid (.cells (bL.flatMap p7))=Hs bL)
  (nJ:∀ (S:List (Int×Int)) (T:List I),S.length=p.1.length→df T 4=.ptr 0 0→HV [.cell 4 (.str 3)] (.agg [.av (S.flatMap p7) S.length .shared,h0 p.2.1,h0 p.2.2]) .ret T ((Hs S).set 0 (.cells [.ref rid 0 p.1.length none 2,h0 p.2.1,h0 p.2.2])))
  {Q:cQ→List I→List ar→Prop} (bp:∀ T H,HV [.cell 4 (.str 3)] (.agg [.av (S'.flatMap p7) S'.length .shared,h0 p.2.1,h0 p.2.2]) .ret T H→Q .ret T H) {T:List I} {v2:I} (b0:T=qc 34 [(1,.av (l.flatMap qq) l.length .shared),(2,v2),(4,.ptr 0 0),(5,.ptr vid 0)]) :
  dQ Tryz.prog Qi 54 0 none O0 T (Hs p.1) Q:=by
 subst b0;unfold O0 WQ;obtain ⟨a7,cf⟩:∃ c,RE=c:=⟨_,rfl⟩;rw [cf];conv=>whnf
 refine .intro (fun m T H=>∃ (i:Nat) (S:List (Int×Int)),i≤l.length∧m=l.length-i∧S.length=p.1.length∧K3 (l.drop i) S=some S'∧T=qc 34 [(1,.av (l.flatMap qq) l.length .shared),(4,.ptr 0 0),(5,.ptr vid 0),(6,h0 i)]∧H=Hs S) l.length ⟨0,p.1,sE _,rfl,rfl,C',rfl,rfl⟩ ?_;rintro m T H ⟨i,S,hi,rfl,cp,al,rfl,rfl⟩;conv=>whnf
 refine HE (fun aR=>?_) (fun aR=>?_)
 ·have HG:i<l.length:=by omega
  rw [s6 HG] at al;unfold K3 at al;obtain ⟨jM,al⟩:=rR al;subst cf;unfold RE;conv=>whnf
  refine Ew (ad S) ?_;conv=>whnf
  have It:0≤(i:Int)∧(i:Int)<(l.length:Int):=by omega
  refine ⟨It,?_⟩;rw [HW qq 3 H4 l (i:Int) It];rw [rr HG];conv=>whnf
  refine ⟨It,?_⟩;rw [HW qq 3 H4 l (i:Int) It];rw [rr HG];obtain ⟨c,QV⟩:∃ c,c=l[i]:=⟨_,rfl⟩;rw [←QV] at al jM ⊢;conv=>whnf
  refine ⟨by omega,?_⟩;conv=>whnf
  refine Ew (ai S) ?_;conv=>whnf
  rw [show 0+c.1.toNat*2=c.1.toNat*2 by omega];have pE:(S.flatMap p7).length=S.length*2:=HX p7 2 (fun _=>rfl) S;refine Gn (by omega) ?_;conv=>whnf
  refine Gn (by rw [List.length_set];omega) ?_;conv=>whnf
  erw [R9 S c.1.toNat c.2.1 c.2.2 (by omega),ah];have rC:IntKind.i64.wrap ((i:Int)+1)=((i+1:Nat):Int):=by rw [HO _ (by omega) (by omega)];omega
  exact ⟨l.length-(i+1),by omega,i+1,S.set c.1.toNat c.2,by omega,rfl,by simpa using cp,al,by rw [rC];rfl,rfl⟩
 ·obtain rfl:i=l.length:=by omega
  rw [uY] at al;obtain rfl:=Option.some.inj al;conv=>whnf
  refine Ew (ad S) ?_;conv=>whnf
  obtain ⟨x,aj⟩:=aQ S;refine Ew aj ?_;conv=>whnf
  exact bp _ _ (nJ S _ cp rfl)
theorem Uq {S:List (Int×Int)} {H:List ar} {id n d:Nat} {x y:Int} (aE:id<H.length) (ag:H[id]?=some (.cells (S.flatMap p7))) (aI:S.length=n):bM H 0 H.length 0 (d+3) (.agg [.ref id 0 n none 2,h0 x,h0 y])=some (.agg [.av (S.flatMap p7) n .shared,h0 x,h0 y]):=by
 have e1:bM H 0 H.length 0 (d+2) (.ref id 0 n none 2)=some (.av (S.flatMap p7) n .shared):=by
  show (if id<0 then some (I.ref id 0 n none 2) else if id=H.length then some (.ref 0 0 n none 2) else match rowOf H (.ref id 0 n none 2) with | some row=>(ea (bM H 0 H.length 0 (d+1)) row).map fun cs=>.av cs n (e3 none n) | none=>none)=_;rw [if_neg (by omega),if_neg (by omega),Xj ag aI];have l0:ea (bM H 0 H.length 0 (d+1)) (S.flatMap p7)=some (S.flatMap p7):=zU fun u hu=>by
   obtain ⟨x,_,aj⟩:=tJ.1 hu;simp only [p7,sA,tQ,or_false] at aj;rcases aj with rfl | rfl <;> rfl
  simp only [l0,se];rfl
 show (ea (bM H 0 H.length 0 (d+2)) [.ref id 0 n none 2,h0 x,h0 y]).map I.agg=_;rw [rF e1 (rF rfl (rF rfl IG))];rfl
theorem ahJ {p:qb} {l:List qu} {v:qb} (h:N9 p l=some v):qw 54 [.agg [.av (p.1.flatMap p7) p.1.length .shared,h0 p.2.1,h0 p.2.2],.av (l.flatMap qq) l.length .shared] (.agg [.av (v.1.flatMap p7) v.1.length .shared,h0 v.2.1,h0 v.2.2]):=by
 unfold N9 at h;obtain ⟨⟨bJ,aB,ao⟩,h⟩:=rR h;obtain ⟨S',ak,h⟩:=p8 h;obtain rfl:=Option.some.inj h;refine qL eG ade rfl (H0 (p6 (aeN _ _ _) (p6 rfl (p6 rfl rfl)))) fun Q bp=>?_;have jJ:∀ T H,HV [.cell 4 (.str 3)] (.agg [.av (S'.flatMap p7) S'.length .shared,h0 p.2.1,h0 p.2.2]) .ret T H→Q .ret T H:=fun T H bE=>bp _ T H bE;have pE:(p.1.flatMap p7).length=p.1.length*2:=HX p7 2 (fun _=>rfl) p.1;have UU:p.1.length≠0:=fun e=>bJ (sP.1 e);have e1:∀ S:List (Int×Int),S.length=p.1.length→∀ T:List I,df T 4=.ptr 0 0→HV [.cell 4 (.str 3)] (.agg [.av (S.flatMap p7) S.length .shared,h0 p.2.1,h0 p.2.2]) .ret T [.cells [.ref 1 0 p.1.length none 2,h0 p.2.1,h0 p.2.2],.cells (S.flatMap p7),.cells [.ref 1 0 p.1.length none 2,h0 p.2.1,h0 p.2.2]]:=fun S cp T b0=>by
  refine ⟨.inr rfl,[.agg [.ref 1 0 p.1.length none 2,h0 p.2.1,h0 p.2.2]],by simp only [rQ,b0];rfl,_,Uq (S:=S) (by simp) rfl cp,by rw [cp];rfl⟩
 have b':∀ S:List (Int×Int),S.length=p.1.length→∀ T:List I,df T 4=.ptr 0 0→HV [.cell 4 (.str 3)] (.agg [.av (S.flatMap p7) S.length .shared,h0 p.2.1,h0 p.2.2]) .ret T [.cells [.ref 2 0 p.1.length none 2,h0 p.2.1,h0 p.2.2],.cells [.ref 2 0 p.1.length none 2,h0 p.2.1,h0 p.2.2],.cells (S.flatMap p7)]:=fun S cp T b0=>by
  refine ⟨.inr rfl,[.agg [.ref 2 0 p.1.length none 2,h0 p.2.1,h0 p.2.2]],by simp only [rQ,b0];rfl,_,Uq (S:=S) (by simp) rfl cp,by rw [cp];rfl⟩
 unfold WO WR;obtain ⟨aio,QJ⟩:∃ c,O0=c:=⟨_,rfl⟩;rw [QJ];conv=>whnf
 refine ⟨rfl,?_⟩;conv=>whnf
 refine ⟨?_,?_⟩
 ·conv=>whnf
  refine ⟨pE,by omega,?_⟩;conv=>whnf
  refine ⟨rfl,by omega,?_⟩;conv=>whnf
  refine ⟨by omega,?_⟩;conv=>whnf
  rw [sB];subst QJ;refine VC ao ak (vid:=2) (rid:=1) (Hs:=fun S=>[.cells [.av [] 0 .full,h0 0,h0 0],.cells (S.flatMap p7),.cells [.ref 1 0 p.1.length none 2,h0 p.2.1,h0 p.2.2]]) (fun _=>⟨_,rfl⟩) (fun _=>rfl) (fun _=>rfl) (fun _ _=>rfl) (fun S T cp b0=>e1 S cp T b0) jJ rfl
 ·conv=>whnf
  refine ⟨pE,by omega,?_⟩;conv=>whnf
  refine ⟨rfl,by omega,?_⟩;conv=>whnf
  refine ⟨by omega,?_⟩;conv=>whnf
  rw [sB];subst QJ;refine VC ao ak (vid:=1) (rid:=2) (Hs:=fun S=>[.cells [.av [] 0 .full,h0 0,h0 0],.cells [.ref 2 0 p.1.length none 2,h0 p.2.1,h0 p.2.2],.cells (S.flatMap p7)]) (fun _=>⟨_,rfl⟩) (fun _=>rfl) (fun _=>rfl) (fun _ _=>rfl) (fun S T cp b0=>b' S cp T b0) jJ rfl

abbrev qZ:=Int×Int
abbrev q9:=List (Nat×qZ×qZ)
def q' (A:q9):List (Nat×I×I):=A.map fun a=>(a.1,.agg (p7 a.2.1),.agg (p7 a.2.2))
theorem QA (a b:qZ):gK (.agg (p7 a)) (.agg (p7 b))=some (decide (a=b)):=by
 simp only [gK,p7,dL,if_true,se,tt,Option.some.injEq];rw [Bool.eq_iff_iff];simp only [beq_iff_eq,decide_eq_true_eq,Bool.and_eq_true];exact ⟨fun h=>Prod.ext h.1 h.2,fun h=>by rw [h];exact ⟨rfl,rfl⟩⟩
theorem QD {k:qZ}:∀ {A:q9} {n:Nat},(∀ x∈A,k≠x.2.1)→fH (.agg (p7 k)) (q' A) n=some none
 | [],n,_=>rfl
 | a::A,n,h=>by
   simp only [q',sG,fH,QA];rw [decide_eq_false (h a (by simp))];exact QD (n:=n+1) fun x aj=>h x (by simp [aj])
theorem OC {k:qZ} {a:Nat×qZ×qZ} {R:q9} (cu:a.2.1=k):∀ {A:q9} {n:Nat},(∀ x∈A,k≠x.2.1)→fH (.agg (p7 k)) (q' (A++a::R)) n=some (some (n+A.length))
 | [],n,_=>by
   simp only [tN,q',sG,fH,QA];rw [decide_eq_true cu.symm];rfl
 | b::A,n,h=>by
   simp only [List.cons_append,q',sG,fH,QA];rw [decide_eq_false (h b (by simp))];have:=OC (R:=R) cu (A:=A) (n:=n+1) fun x aj=>h x (by simp [aj]);simp only [q'] at this;show fH (.agg (p7 k)) _ (n+1)=_;rw [this,sK];congr 2;omega
theorem NT (k:qZ):∀ (A:q9),(∀ x∈A,k≠x.2.1)∨∃ L a R,A=L++a::R∧a.2.1=k∧∀ x∈L,k≠x.2.1
 | []=>.inl (by simp)
 | b::A=>by
   by_cases h:b.2.1=k
   ·exact .inr ⟨[],b,A,rfl,h,by simp⟩
   ·rcases NT k A with ab | ⟨L,a,R,ab,ae,aF⟩
    ·refine .inl fun x aj=>?_;rcases sA.1 aj with rfl | aj
     ·exact fun e=>h e.symm
     ·exact ab x aj
    ·refine .inr ⟨b::L,a,R,by rw [ab];rfl,ae,fun x aj=>?_⟩;rcases sA.1 aj with rfl | aj
     ·exact fun e=>h e.symm
     ·exact aF x aj
def HR (s:q9×Nat) (k v:qZ):q9×Nat :=
 if s.1.any (fun a=>decide (k=a.2.1))=true then (s.1.map fun a=>if k=a.2.1 then (a.1,k,v) else a,s.2) else (s.1++[(s.2,k,v)],s.2+1)
structure JJ (s:q9×Nat):Prop where
 ids:(s.1.map (·.1)).Nodup
 low:∀ a∈s.1,a.1<s.2
 keys:(s.1.map (·.2.1)).Nodup
theorem U6 {L R:q9} {a:Nat×qZ×qZ} (h:((L++a::R).map (·.2.1)).Nodup):(∀ x∈L,a.2.1≠x.2.1)∧∀ x∈R,a.2.1≠x.2.1:=by
 rw [sO,sG] at h;obtain ⟨_,ae,aF⟩:=ui.1 h;refine ⟨fun x aj e=>aF _ (td aj) _ (by simp) e.symm,fun x aj e=>?_⟩;exact (tU.1 ae).1 (by rw [e];exact td aj)
theorem VO {s:q9×Nat} {k v:qZ} (h:∀ x∈s.1,k≠x.2.1):HR s k v=(s.1++[(s.2,k,v)],s.2+1):=by
 unfold HR;rw [if_neg];rw [vC];rintro ⟨x,aj,e⟩;exact h x aj (of_decide_eq_true e)
theorem VP {L R:q9} {a:Nat×qZ×qZ} {c:Nat} {v:qZ} (al:((L++a::R).map (·.2.1)).Nodup):HR (L++a::R,c) a.2.1 v=(L++(a.1,a.2.1,v)::R,c):=by
 obtain ⟨ab,ae⟩:=U6 al;unfold HR;rw [if_pos (by rw [vC];exact ⟨a,by simp,decide_eq_true rfl⟩)];have key:∀ l:q9,(∀ x∈l,a.2.1≠x.2.1)→l.map (fun x=>if a.2.1=x.2.1 then (x.1,a.2.1,v) else x)=l:=fun l ao=>Rb fun x aj=>if_neg (ao x aj);show (List.map _ (L++a::R),c)=_;rw [sO,sG,key L ab,key R ae,if_pos rfl]
theorem JJ.put {s:q9×Nat} (h:JJ s) (k v:qZ):JJ (HR s k v):=by
 rcases NT k s.1 with ab | ⟨L,a,R,ab,ae,aF⟩
 ·rw [VO ab];refine ⟨?_,?_,?_⟩
  ·rw [sO,ui];refine ⟨h.ids,by simp,fun x aj y aY e=>?_⟩;obtain ⟨z,bk,rfl⟩:=sC.1 aj;have:=h.low z bk;simp at aY;omega
  ·intro z bk;rcases tf.1 bk with bk | bk
   ·have:=h.low z bk;show z.1<s.2+1;omega
   ·simp at bk;subst bk;show s.2<s.2+1;omega
  ·rw [sO,ui];refine ⟨h.keys,by simp,fun x aj y aY e=>?_⟩;obtain ⟨z,bk,rfl⟩:=sC.1 aj;simp at aY;exact ab z bk (by rw [e,aY])
 ·obtain ⟨s1,c⟩:=s;simp only at ab;subst ab ae;rw [VP h.keys];refine ⟨?_,?_,?_⟩
  ·have:=h.ids;simpa using this
  ·intro z bk;rcases tf.1 bk with bk | bk
   ·exact h.low z (by simp [bk])
   ·rcases sA.1 bk with rfl | bk
    ·exact h.low a (by simp)
    ·exact h.low z (by simp [bk])
  ·have:=h.keys;simpa using this
theorem VM {α:Type} (f:α→α) (x:α) (R:List α):∀ L:List α,(L++x::R).modify L.length f=L++f x::R
 | []=>rfl
 | a::L=>by
   show (a::(L++x::R)).modify (L.length+1) f=a::(L++f x::R);rw [List.modify_succ_cons,VM f x R L]
theorem Wb {k v:qZ} {s:q9×Nat} (ah:JJ s) :
  (∃ i,fH (.agg (p7 k)) (q' s.1) 0=some (some i)∧(q' s.1).modify i (fun e=>(e.1,.agg (p7 k),.agg (p7 v)))=q' (HR s k v).1∧s.2=(HR s k v).2) ∨
  (fH (.agg (p7 k)) (q' s.1) 0=some none∧q' s.1++[(s.2,.agg (p7 k),.agg (p7 v))]=q' (HR s k v).1∧s.2+1=(HR s k v).2):=by
 rcases NT k s.1 with ab | ⟨L,a,R,ab,ae,aF⟩
 ·refine .inr ⟨QD ab,?_⟩;rw [VO ab];exact ⟨by simp [q'],rfl⟩
 ·obtain ⟨s1,c⟩:=s;simp only at ab;subst ab ae;refine .inl ⟨_,OC rfl aF,?_⟩;rw [VP ah.keys];refine ⟨?_,rfl⟩;rw [sB];simp only [q',sO,sG];have:=VM (fun e:Nat×I×I=>(e.1,I.agg (p7 a.2.1),I.agg (p7 v))) (a.1,I.agg (p7 a.2.1),I.agg (p7 a.2.2)) (R.map fun a=>(a.1,I.agg (p7 a.2.1),I.agg (p7 a.2.2))) (L.map fun a=>(a.1,I.agg (p7 a.2.1),I.agg (p7 a.2.2)));rw [sY] at this;exact this
def Jr (A:q9) (k:qZ):Option qZ:=(A.find? fun a=>decide (k=a.2.1)).map (·.2.2)
theorem adw (k:qZ) (A:q9) :
  (∃ v i e,Jr A k=some v∧fH (.agg (p7 k)) (q' A) 0=some (some i)∧(q' A)[i]?=some e∧e.2.2=.agg (p7 v))∨(Jr A k=none∧fH (.agg (p7 k)) (q' A) 0=some none):=by
 rcases NT k A with ab | ⟨L,a,R,ab,ae,aF⟩
 ·refine .inr ⟨?_,QD ab⟩;unfold Jr;rw [vD.2 fun x aj=>by simpa using ab x aj];rfl
 ·subst ab ae;refine .inl ⟨a.2.2,_,(a.1,.agg (p7 a.2.1),.agg (p7 a.2.2)),?_,OC rfl aF,?_,rfl⟩
  ·unfold Jr;rw [List.find?_append,vD.2 fun x aj=>by simpa using aF x aj];simp
  ·simp only [q',sO,sG,sB];rw [ss (by simp)];simp
theorem abo {A:q9} {a:Nat×qZ×qZ} (al:(A.map (·.2.1)).Nodup) (cu:a∈A):∃ i,fH (.agg (p7 a.2.1)) (q' A) 0=some (some i)∧(q' A).eraseIdx i=q' (A.filter fun x=>decide (a.2.1≠x.2.1)):=by
 obtain ⟨k,UQ⟩:∃ k,k=a.2.1:=⟨_,rfl⟩;rw [←UQ];rcases NT k A with ab | ⟨L,b,R,ab,ae,aF⟩
 ·exact absurd UQ (ab a cu)
 ·subst ab ae;refine ⟨_,OC rfl aF,?_⟩;obtain ⟨aJ,aN⟩:=U6 al;have e1:(L++b::R).filter (fun x=>decide (b.2.1≠x.2.1))=L++R:=by
   rw [t_,uC (by simp),tH.2 fun x aj=>decide_eq_true (aJ x aj),tH.2 fun x aj=>decide_eq_true (aN x aj)]
  rw [e1,sB];simp only [q',sO,sG];rw [List.eraseIdx_append_of_length_le (by simp)];simp
end Go.Proofs.YtkoioidpbbbaiaaGreat.Ab


namespace Go.Proofs.YtkoioidpbbbaiaaGreat.Ab
open Go
noncomputable def RV:gE :=
 .ov false [p3 44 1,p3 45 7,p3 46 6,p3 47 0,p0 48 [.Bs 47] .z4,qv 49 48 0,qv 50 49 1,qv 51 50 0,qh 52 51,qn 53 46 52 .mul,qn 54 45 53 .add,qn 55 44 54 .mul,p0 56 [.Bs 55,.cv (.int .i64 0)] (.build [.int .i64 0,.int .i64 0] [(0,1),(1,1)]),⟨none,[.nc 8,.jq 56],none,none,.st 2⟩]
noncomputable def O_:gE :=
 p2 [p3 57 5,p0 58 [.Bs 8] (.zE (.str 2)),p3 59 7,p3 60 6,p0 61 [.Bs 59,.Bs 60] (.build [.int .i64 0,.int .i64 0] [(0,1),(1,1)]),⟨none,[.Bs 57,.Bs 58,.Bs 61],none,none,.zR (.str 2)⟩] (p2 [p3 62 1,qy 63 62 0 .eql] (.cond (.nc 63) (.exit 0) .skip))
noncomputable def RZ:gE :=
 .seq (.seq (ra [p3 31 0,p0 32 [.Bs 31] .z4,qv 33 32 0,qv 34 33 1,qv 35 34 0,qh 36 35,p3 37 0,p0 38 [.Bs 37] .z4,qv 39 38 0,qv 40 39 1,qv 41 40 1,qh 42 41,qn 43 36 42 .eql]) (.cond (.nc 43) RV .skip)) O_
noncomputable def O':gE :=
 .block 3 (p2 [p3 24 1,p3 25 7,qn 26 24 25 .mul,p3 27 1,p3 28 6,qn 29 27 28 .mul,p0 30 [.Bs 26,.Bs 29] (.build [.int .i64 0,.int .i64 0] [(0,1),(1,1)]),p0 8 [] (.alloc [.int .i64 0,.int .i64 0]),⟨none,[.nc 8,.jq 30],none,none,.st 2⟩] RZ)
noncomputable def W4:gE :=
 .seq (p2 [p3 20 7,qy 21 20 100 .leq] (.cond (.nc 21) .skip (.exit 2))) (.seq O' (qO [p1 22 7,qV 23 22 1,p1 7 23]))
noncomputable def Pa:gE :=
 .loop (some (p' false [0,2,3,3,115])) W4
noncomputable def W5:gE :=
 .block 1 (p2 [qf 7 0] (.block 2 Pa))
noncomputable def W6:gE :=
 .seq (p2 [p3 16 6,qy 17 16 10 .leq] (.cond (.nc 17) .skip (.exit 0))) (.seq W5 (qO [p1 18 6,qV 19 18 1,p1 6 19]))
noncomputable def R0:gE :=
 .ov false [p1 95 10,p3 96 9,qv 97 12 0,qh 98 97,p3 99 13,p1 100 13,p0 101 [.Bs 100] (.un .neg),p0 102 [.jq 98,.jq 99,.jq 101] .max,qn 103 96 102 .mul,qn 104 95 103 .add,p1 10 104]
noncomputable def R1:gE :=
 .seq (ra [p0 83 [.nc 12] (.yM 0),qh 84 83,p0 85 [.nc 12] (.yM 1),qh 86 85,p3 87 0,p0 88 [.Bs 87] .z4,qv 89 88 0,qv 90 89 1,qv 91 90 0,qh 92 91,qn 93 86 92 .mul,qn 94 84 93 .add,p1 13 94]) R0
noncomputable def W2:gE :=
 .block 5 (p2 [p0 81 [.nc 77,.nc 79] (.kY 2),p0 82 [.Bs 81] (.zE (.str 2)),p0 12 [] (.alloc [.int .i64 0,.int .i64 0]),⟨none,[.nc 12,.jq 82],none,none,.st 2⟩] R1)
noncomputable def RW:gE :=
 p2 [p3 112 10,p0 113 [.Bs 112] (.un .neg),p3 114 10,p0 115 [.nc 14] (.yM 0),qh 116 115,p0 117 [.Bs 116] (.yB 1 1 [.int .i64 0] [0]),p0 118 [.cv (.func 50 [] []),.nc 113,.nc 114,.nc 117] (.call 3),p0 119 [.Bs 118] (.un .not)] (.cond (.nc 119) (qO [p3 120 5,p0 121 [.Bs 14] (.zE (.str 2)),⟨none,[.jq 120,.jq 121],none,none,.zP (.str 2)⟩]) .skip)
noncomputable def RX:gE :=
 .block 7 (p2 [p0 110 [.nc 107] .yH,p0 111 [.Bs 110] (.ext 0),p0 14 [] (.alloc [.int .i64 0,.int .i64 0]),⟨none,[.nc 14,.jq 111],none,none,.st 2⟩] RW)
noncomputable def W7:gE :=
 .loop (some (p' false [5,1,4,1,96,1,15])) (.seq (.z6 107 (some 108) [p0 109 [.Bs 108] (.ext 0)]) (.seq (.cond (.nc 109) .skip (.exit 6)) RX))
noncomputable def O9:gE :=
 .seq (p2 [p3 106 5,p0 107 [.Bs 106] .AN] (.block 6 W7)) (p2 [p1 122 5,p1 4 122] .ret)
noncomputable def Pb:gE :=
 .loop (some (p' false [0,1,4,1,3,2,66,3,43])) (p2 [p0 80 [.nc 79,.nc 78] (.bin .lss)] (.seq (.cond (.nc 80) .skip (.exit 4)) (.seq W2 (qO [qV 105 79 1,p1 79 105]))))
noncomputable def W3:gE :=
 .seq (p2 [p3 73 0,p0 74 [.Bs 73] .z4,qv 75 74 0,qv 76 75 0,qh 77 76,p0 78 [.nc 77] .zJ,qf 79 0] (.block 4 Pb)) O9
noncomputable def RY:gE :=
 p2 [p3 64 0,p3 65 0,p0 66 [.Bs 65] .z4,qv 67 66 0,qv 68 67 0,qh 69 68,qW 70 69,qy 71 70 1 .sub,p0 72 [.cv (.func 77 [] []),.nc 64,.nc 71] (.call 3),p1 9 72] (p2 [qf 10 0] W3)
noncomputable def Pc:gE :=
 .loop (some (p' false [0,2,3,2,116])) W6
noncomputable def W1:gE :=
 p2 [p0 4 [.cv .a0] .mU] (p2 [p0 15 [] .zZ,p1 5 15] (.seq .skip (.seq (p2 [qf 6 (-10)] (.block 0 Pc)) RY)))
theorem adi:qo Go.Proofs.Tryz.prog KZ 81=some (W1,123,[.tmp 4]):=by kernel_rfl
end Go.Proofs.YtkoioidpbbbaiaaGreat.Ab


namespace Go.Proofs.YtkoioidpbbbaiaaGreat.Ab
open Go
set_option maxRecDepth 20000
set_option maxHeartbeats 4000000
def IE (f:Int→Bool) (A:q9) (seen:List Nat):q9:=A.filter fun a=>!(decide (a.1∈seen)) || f a.2.1.1
theorem acU (f:Int→Bool) (A:q9):IE f A []=A:=by
 unfold IE;exact tH.2 fun a _=>by simp
theorem acQ {f:Int→Bool} {A:q9} {seen:List Nat} (h:∀ a∈IE f A seen,a.1∈seen):IE f A seen=A.filter fun a=>f a.2.1.1:=by
 unfold IE;refine uh fun a cu=>?_;by_cases ah:a.1∈seen
 ·simp [ah]
 ·cases aP:f a.2.1.1 with
  | true=>simp
  | false =>
    exfalso;exact ah (h a (sX.2 ⟨cu,by simp [ah]⟩))
theorem Nz {α β:Type} {g:α→β}:∀ {l:List α},(l.map g).Nodup→∀ {x y:α},x∈l→y∈l→g x=g y→x=y
 | [],_,x,y,aj,_,_=>absurd aj (by simp)
 | a::l,h,x,y,aj,aY,e=>by
   obtain ⟨ab,ae⟩:=tU.1 h;rcases sA.1 aj with aF | aF
   ·rcases sA.1 aY with ba | ba
    ·rw [aF,ba]
    ·exact absurd (by rw [←aF,e];exact td ba) ab
   ·rcases sA.1 aY with ba | ba
    ·exact absurd (by rw [←ba,←e];exact td aF) ab
    ·exact Nz ae aF ba e
theorem acS {f:Int→Bool} {A:q9} {c:Nat} {seen:List Nat} {a:Nat×qZ×qZ} (aL:JJ (A,c)) (cu:a∈A) (aP:f a.2.1.1=true):IE f A (seen++[a.1])=IE f A seen:=by
 unfold IE;refine uh fun x aj=>?_;by_cases e:x.1=a.1
 ·have:=Nz aL.ids aj cu e;subst this;simp [aP]
 ·simp [e]
theorem acR {f:Int→Bool} {A:q9} {c:Nat} {seen:List Nat} {a:Nat×qZ×qZ} (aL:JJ (A,c)) (cu:a∈A) (aP:f a.2.1.1=false):IE f A (seen++[a.1])=(IE f A seen).filter fun x=>decide (a.2.1≠x.2.1):=by
 unfold IE;rw [uR];refine uh fun x aj=>?_;by_cases e:x.1=a.1
 ·have:=Nz aL.ids aj cu e;subst this;simp [aP]
 ·have:a.2.1≠x.2.1:=fun b'=>e (by rw [Nz aL.keys aj cu b'.symm])
  simp [e,this]
theorem acT {f:Int→Bool} {A:q9} {c:Nat} {seen:List Nat} (aL:JJ (A,c)):((IE f A seen).map (·.2.1)).Nodup:=aL.keys.sublist (List.filter_sublist.map _)
theorem Ue:∀ {A:q9} {a:Nat×qZ×qZ},(A.map (·.1)).Nodup→a∈A→(q' A).find? (fun e=>e.1 == a.1)=some (a.1,.agg (p7 a.2.1),.agg (p7 a.2.2))
 | [],a,_,h=>absurd h (by simp)
 | b::A,a,aI,h=>by
   obtain ⟨ab,ae⟩:=tU.1 aI;simp only [q',sG,List.find?_cons];by_cases e:b.1=a.1
   ·rw [Nz aI (by simp) h e];simp
   ·have:(b.1 == a.1)=false:=by simpa using e
    rw [this];rcases sA.1 h with aF | aF
    ·exact absurd (by rw [aF]) e
    ·exact Ue ae aF
theorem T_:∀ {A:q9} {seen:List Nat} {a:Nat×qZ×qZ},(A.map (·.1)).Nodup→a∈A→a.1 ∉ seen→(A.filter fun x=>!(decide (x.1∈seen++[a.1]))).length+1=(A.filter fun x=>!(decide (x.1∈seen))).length
 | [],_,_,_,h,_=>absurd h (by simp)
 | b::A,seen,a,aI,cu,ah=>by
   obtain ⟨ab,ae⟩:=tU.1 aI;by_cases e:b.1=a.1
   ·have b':A.filter (fun x=>!(decide (x.1∈seen++[a.1])))=A.filter fun x=>!(decide (x.1∈seen)):=uh fun x aj=>by
     have:x.1≠a.1:=fun h=>ab (show b.1∈A.map (·.1) by rw [e,←h];exact td aj)
     simp [this]
    rw [uC (by simp [e]),uX (by simp [e,ah]),b',sK]
   ·have ab1:a∈A:=by
     rcases sA.1 cu with h | h
     ·exact absurd (by rw [h]) e
     ·exact h
    have a8:=T_ ae ab1 ah;by_cases af:b.1∈seen
    ·rw [uC (by simp [af]),uC (by simp [af])];exact a8
    ·rw [uX (by simp [af,e]),uX (by simp [af]),sK,sK];omega
theorem af1 {A:q9} {c:Nat} (aL:JJ (A,c)) {f:Int→Bool} {most:Int} (aP:∀ a∈A,IH (w (-most)) most [a.2.1.1]=some (f a.2.1.1)) {Y:List ar} {v0 v1 Ps agG Pq agH Pr:I} {Q:cQ→List I→List ar→Prop}
  (bp:∀ T qH,qH.length=Y.length+1+A.length→df T 4=.map 0→Q .ret T (.map (q' (A.filter fun a=>f a.2.1.1)) c::qH)):dQ Tryz.prog KZ 81 0 none O9 (qc 123 [(0,v0),(1,v1),(5,.map 0),(9,Ps),(10,h0 most),(77,agG),(78,Pq),(79,agH),(80,Pr)]) (.map (q' A) c::Y) Q:=by
 unfold O9 W7;obtain ⟨ail,Us⟩:∃ c,RX=c:=⟨_,rfl⟩;rw [Us];conv=>whnf
 refine ⟨_,_,rfl,?_⟩;conv=>whnf
 refine .intro (fun m T H=>∃ (seen:List Nat) (Z:List ar),Z.length+(A.filter fun a=>!(decide (a.1∈seen))).length=A.length∧m=(A.filter fun a=>!(decide (a.1∈seen))).length∧T=qc 123 [(5,.map 0),(10,h0 most),(107,.ptr (Y.length+1) 0)]∧H=(.map (q' (IE f A seen)) c::Y)++(.iter 0 c seen c::Z)) _ ⟨[],[],by simp [tH.2],rfl,rfl,by rw [acU]⟩ ?_;rintro m T H ⟨seen,Z,Ku,rfl,rfl,rfl⟩;conv=>whnf
 have ai:∀ (e:ar) (s:List Nat) (Z:List ar),((e::Y)++(.iter 0 c s c::Z))[Y.length+1]?=some (.iter 0 c s c):=fun e s Z=>by
  rw [ss (by simp)];simp
 refine ⟨0,c,seen,c,_,ai _ _ _,rfl,sc _,?_,?_,?_⟩
 ·intro e he;obtain ⟨a,cu,rfl⟩:=sC.1 he;exact aL.low a (sX.1 cu).1
 ·intro c1;conv=>whnf
  rw [acQ fun a cu=>c1 _ (td cu)];refine bp _ (Y++(.iter 0 c seen c::Z)) ?_ rfl
  have gb:(A.filter fun a=>!(decide (a.1∈seen))).length=0:=sP.2 (List.filter_eq_nil_iff.2 fun a cu ah=>by
   have hl:a.1 ∉ seen:=by simpa using ah
   exact hl (c1 _ (td (f:=fun a:Nat×qZ×qZ=>(a.1,I.agg (p7 a.2.1),I.agg (p7 a.2.2))) (sX.2 ⟨cu,by simp [hl]⟩))))
  simp;omega
 ·intro e he acw;obtain ⟨a,cu,rfl⟩:=sC.1 he;have hg:a∈A:=(sX.1 cu).1;have eH:∀ (e:ar) (x y:ar),((e::Y)++(x::Z)).set (Y.length+1) y=(e::Y)++(y::Z):=fun e x y=>by
   rw [uV _ _ (by simp)];simp
  conv=>whnf
  rw [eH];subst Us;unfold RX;obtain ⟨aik,Ur⟩:∃ c,RW=c:=⟨_,rfl⟩;rw [Ur];conv=>whnf
  have acf:(q' (IE f A seen)).find? (fun e=>e.1 == a.1)=some (a.1,.agg (p7 a.2.1),.agg (p7 a.2.2)):=Ue (aL.ids.sublist (List.filter_sublist.map _)) cu;refine ⟨0,c,seen++[a.1],c,a.1,_,_,ai _ _ _,by simp,rfl,acf,?_⟩;conv=>whnf
  refine Ew (x:=ar.cells [h0 0,h0 0]) (by first | exact qX.h | rfl | (simp [sq,I.settle];done)) ?_
  conv=>whnf
  rw [HT];subst Ur;unfold RW;conv=>whnf
  refine Ew (x:=ar.cells [h0 a.2.1.1,h0 a.2.1.2]) (by first | exact qX.h | rfl | (simp [sq,I.settle];done)) ?_
  conv=>whnf
  refine ⟨p6 rfl (p6 rfl (p6 rfl rfl)),_,KP (aP a hg),?_⟩;conv=>whnf
  have aiB:(A.filter fun x=>!(decide (x.1∈seen++[a.1]))).length+1=(A.filter fun x=>!(decide (x.1∈seen))).length:=T_ aL.ids hg acw;have GM:(A.filter fun x=>!(decide (x.1∈seen++[a.1]))).length<(A.filter fun x=>!(decide (x.1∈seen))).length:=by omega
  have UI:∀ o,(Z++[o]).length+(A.filter fun x=>!(decide (x.1∈seen++[a.1]))).length=A.length:=fun o=>by rw [sy,List.length_singleton];omega
  cases UL:f a.2.1.1 with
  | true =>
    (conv=>whnf);exact ⟨_,GM,seen++[a.1],Z++[.cells [h0 a.2.1.1,h0 a.2.1.2]],UI _,rfl,rfl,by rw [acS aL hg UL];simp;exact ⟨rfl,rfl⟩⟩
  | false =>
    (conv=>whnf);refine Ew (x:=ar.cells [h0 a.2.1.1,h0 a.2.1.2]) (by first | exact qX.h | rfl | (simp [sq,I.settle];done)) ?_
    (conv=>whnf);obtain ⟨abp,aca,acb⟩:=abo (acT (f:=f) (seen:=seen) aL) cu;refine ⟨rfl,_,_,rfl,some abp,aca,?_⟩;(conv=>whnf);rw [acb];exact ⟨_,GM,seen++[a.1],Z++[.cells [h0 a.2.1.1,h0 a.2.1.2]],UI _,rfl,rfl,by rw [acR aL hg UL];simp;exact ⟨rfl,rfl⟩⟩
def Jb (far lo:Int):List qZ→Int→Int
 | [],n=>n
 | s::r,n=>Jb far lo r (w (n+w (far*max (max s.1 (w (s.1+w (s.2*lo)))) (w (-(w (s.1+w (s.2*lo))))))))
theorem aet {b:((List (Int×Int))×(Int×Int))×Unit} (af:b.1.1.length≤1000) {rp:ar} {far:Int} {Y:List ar} {T:List I} {Q:cQ→List I→List ar→Prop}
  (b0:eZ [true,false,false,false,false,true,false,false,false,true,true,false,false,false,false,false,false,false,false,false,false,false,false,false,false,false,false,false,false,false,false,false,false,false,false,false,false,false,false,false,false,false,false,false,false,false,false,false,false,false,false,false,false,false,false,false,false,false,false,false,false,false,false,false,false,false,false,false,false,false,false,false,false,false,false,false,false,true,true,true,false,false,false,false,false,false,false,false,false,false,false,false,false,false,false,false,false,false,false,false,false,false,false,false,false,false,false,false,false,false,false,false,false,false,false,false,false,false,false,false,false,false,false] T=qc 123 [(0,lp b),(5,.map 0),(9,h0 far),(10,h0 0),(77,.av (b.1.1.flatMap p7) b.1.1.length .shared),(78,h0 b.1.1.length),(79,h0 0)])
  (bp:∀ qH Pr,qH.length=Y.length+b.1.1.length→Q (.exit 4) (qc 123 [(0,lp b),(5,.map 0),(9,h0 far),(10,h0 (Jb far b.1.2.1 b.1.1 0)),(77,.av (b.1.1.flatMap p7) b.1.1.length .shared),(78,h0 b.1.1.length),(79,h0 b.1.1.length),(80,Pr)]) (rp::qH)):dQ Tryz.prog KZ 81 0 none Pb T (rp::Y) Q:=by
 unfold Pb;refine wp_loop b0 ?_;refine .intro (fun m T H=>∃ (i:Nat) (n:Int) (qH:List ar),i≤b.1.1.length∧qH.length=Y.length+i∧m=b.1.1.length-i∧Jb far b.1.2.1 (b.1.1.drop i) n=Jb far b.1.2.1 b.1.1 0∧T=qc 123 [(0,lp b),(5,.map 0),(9,h0 far),(10,h0 n),(77,.av (b.1.1.flatMap p7) b.1.1.length .shared),(78,h0 b.1.1.length),(79,h0 i)]∧H=rp::qH) _ ⟨0,0,Y,sE _,rfl,rfl,rfl,rfl,rfl⟩ ?_;clear b0;rintro m T H ⟨i,n,M7,hi,abZ,rfl,hm,rfl,rfl⟩;conv=>whnf
 refine HE (fun aR=>?_) (fun aR=>?_)
 ·have HG:i<b.1.1.length:=by omega
  have It:0≤(i:Int)∧(i:Int)<(b.1.1.length:Int):=by omega
  rw [s6 HG] at hm;unfold W2;obtain ⟨B9,K5⟩:∃ c,R1=c:=⟨_,rfl⟩;rw [K5];conv=>whnf
  refine ⟨It,?_⟩;rw [HW p7 2 Jd b.1.1 (i:Int) It,rr HG];obtain ⟨s,ah⟩:∃ s,s=b.1.1[i]:=⟨_,rfl⟩;rw [←ah] at hm ⊢;conv=>whnf
  refine Ew (x:=ar.cells [h0 0,h0 0]) (by first | exact qX.h | rfl | (simp [sq,I.settle];done)) ?_
  conv=>whnf
  rw [HT];subst K5;unfold R1;obtain ⟨nv,Jm⟩:∃ c,R0=c:=⟨_,rfl⟩;rw [Jm];conv=>whnf
  refine Ew (x:=ar.cells [h0 s.1,h0 s.2]) (by first | exact qX.h | rfl | (simp [sq,I.settle];done)) ?_
  conv=>whnf
  refine Ew (x:=ar.cells [h0 s.1,h0 s.2]) (by first | exact qX.h | rfl | (simp [sq,I.settle];done)) ?_
  conv=>whnf
  subst Jm;unfold R0;conv=>whnf
  refine Ew (x:=ar.cells [h0 s.1,h0 s.2]) (by first | exact qX.h | rfl | (simp [sq,I.settle];done)) ?_
  conv=>whnf
  have rC:IntKind.i64.wrap ((i:Int)+1)=((i+1:Nat):Int):=by rw [HO _ (by omega) (by omega)];omega
  exact ⟨b.1.1.length-(i+1),by omega,i+1,_,_,by omega,by simp;omega,rfl,hm,by rw [rC];rfl,rfl⟩
 ·obtain rfl:i=b.1.1.length:=by omega
  rw [uY] at hm;obtain rfl:n=Jb far b.1.2.1 b.1.1 0:=hm;conv=>whnf
  exact bp _ _ (by omega)

def HY (lo hi x m p:Int):qZ:=if lo=hi then (w (x*w (p+w (m*lo))),0) else (w (x*p),w (x*m))
def Hj (lo hi x:Int):Nat→q9×Nat
 | 0=>([],0)
 | t+1=>HR (Hj lo hi x t) (HY lo hi x ((t / 101:Nat)-10) ((t % 101:Nat))) ((t % 101:Nat),(t / 101:Nat)-10)
theorem Sb (lo hi x:Int):∀ t,JJ (Hj lo hi x t)
 | 0=>⟨by simp [Hj],by simp [Hj],by simp [Hj]⟩
 | t+1=>(Sb lo hi x t).put _ _
abbrev Ky (s:q9×Nat):ar:=.map (q' s.1) s.2
theorem aaH {b:((List (Int×Int))×(Int×Int))×Unit} {x m p:Int} {s:q9×Nat} (ah:JJ s) {Y:List ar} {JB:I} {Q:cQ→List I→List ar→Prop}
  (bp:∀ qH KE KF,qH.length=Y.length+1→Q (if x=0 then .exit 0 else .normal) (qc 123 [(0,lp b),(1,h0 x),(5,.map 0),(6,h0 m),(7,h0 p),(21,JB),(43,KE),(63,KF)]) (Ky (HR s (HY b.1.2.1 b.1.2.2 x m p) (p,m))::qH)) :
  dQ Tryz.prog KZ 81 0 none O' (qc 123 [(0,lp b),(1,h0 x),(5,.map 0),(6,h0 m),(7,h0 p),(21,JB)]) (Ky s::Y) Q:=by
 unfold O';obtain ⟨bt,eS⟩:∃ c,RZ=c:=⟨_,rfl⟩;rw [eS];conv=>whnf
 refine Ew (x:=ar.cells [h0 0,h0 0]) (by first | exact qX.h | rfl | (simp [sq,I.settle];done)) ?_
 conv=>whnf
 rw [HT];subst eS;unfold RZ;obtain ⟨a7,cf⟩:∃ c,RV=c:=⟨_,rfl⟩;obtain ⟨a9,ca⟩:∃ c,O_=c:=⟨_,rfl⟩;rw [cf,ca];conv=>whnf
 by_cases a1:b.1.2.1=b.1.2.2
 ·rw [decide_eq_true a1];conv=>whnf
  subst cf;unfold RV;conv=>whnf
  refine Ew (x:=ar.cells [h0 (w (x*p)),h0 (w (x*m))]) (by first | exact qX.h | rfl | (simp [sq,I.settle];done)) ?_
  conv=>whnf
  rw [HT];conv=>whnf
  subst ca;unfold O_;conv=>whnf
  refine Ew (x:=ar.cells [h0 (w (x*w (p+w (m*b.1.2.1)))),h0 0]) (by first | exact qX.h | rfl | (simp [sq,I.settle];done)) ?_
  conv=>whnf
  have hP:HY b.1.2.1 b.1.2.2 x m p=((w (x*w (p+w (m*b.1.2.1)))),0):=by unfold HY;rw [if_pos a1]
  rw [hP] at bp;rcases Wb (k:=((w (x*w (p+w (m*b.1.2.1)))),0)) (v:=(p,m)) ah with ⟨i,ab,ae,aF⟩ | ⟨ab,ae,aF⟩
  ·refine ⟨rfl,_,_,rfl,some i,ab,?_⟩;(conv=>whnf);erw [ae,aF];by_cases aj:x=0
   ·rw [if_pos aj] at bp;rw [decide_eq_true aj];(conv=>whnf);exact bp _ _ _ (by simp)
   ·rw [if_neg aj] at bp;rw [decide_eq_false aj];(conv=>whnf);exact bp _ _ _ (by simp)
  ·refine ⟨rfl,_,_,rfl,none,ab,?_⟩;(conv=>whnf);erw [ae,aF];by_cases aj:x=0
   ·rw [if_pos aj] at bp;rw [decide_eq_true aj];(conv=>whnf);exact bp _ _ _ (by simp)
   ·rw [if_neg aj] at bp;rw [decide_eq_false aj];(conv=>whnf);exact bp _ _ _ (by simp)
 ·rw [decide_eq_false a1];conv=>whnf
  subst ca;unfold O_;conv=>whnf
  refine Ew (x:=ar.cells [h0 (w (x*p)),h0 (w (x*m))]) (by first | exact qX.h | rfl | (simp [sq,I.settle];done)) ?_
  conv=>whnf
  have hP:HY b.1.2.1 b.1.2.2 x m p=((w (x*p)),(w (x*m))):=by unfold HY;rw [if_neg a1]
  rw [hP] at bp;rcases Wb (k:=((w (x*p)),(w (x*m)))) (v:=(p,m)) ah with ⟨i,ab,ae,aF⟩ | ⟨ab,ae,aF⟩
  ·refine ⟨rfl,_,_,rfl,some i,ab,?_⟩;(conv=>whnf);erw [ae,aF];by_cases aj:x=0
   ·rw [if_pos aj] at bp;rw [decide_eq_true aj];(conv=>whnf);exact bp _ _ _ (by simp)
   ·rw [if_neg aj] at bp;rw [decide_eq_false aj];(conv=>whnf);exact bp _ _ _ (by simp)
  ·refine ⟨rfl,_,_,rfl,none,ab,?_⟩;(conv=>whnf);erw [ae,aF];by_cases aj:x=0
   ·rw [if_pos aj] at bp;rw [decide_eq_true aj];(conv=>whnf);exact bp _ _ _ (by simp)
   ·rw [if_neg aj] at bp;rw [decide_eq_false aj];(conv=>whnf);exact bp _ _ _ (by simp)
theorem acB {b:((List (Int×Int))×(Int×Int))×Unit} {x:Int} {a:Nat} (cu:a≤20) (acz:x=0→a=0) {Y:List ar} {T:List I} {Q:cQ→List I→List ar→Prop}
  (b0:eZ [true,true,false,false,false,true,true,true,false,false,false,false,false,false,false,false,false,false,false,false,false,false,false,false,false,false,false,false,false,false,false,false,false,false,false,false,false,false,false,false,false,false,false,false,false,false,false,false,false,false,false,false,false,false,false,false,false,false,false,false,false,false,false,false,false,false,false,false,false,false,false,false,false,false,false,false,false,false,false,false,false,false,false,false,false,false,false,false,false,false,false,false,false,false,false,false,false,false,false,false,false,false,false,false,false,false,false,false,false,false,false,false,false,false,false,false,false,false,false,false,false,false,false] T=qc 123 [(0,lp b),(1,h0 x),(5,.map 0),(6,h0 ((a:Nat)-10)),(7,h0 0)])
  (abR:x=0→a=0→∀ qH JC JB KE KF,qH.length=Y.length+1→Q (.exit 0) (qc 123 [(0,lp b),(1,h0 x),(5,.map 0),(6,h0 ((a:Nat)-10)),(7,JC),(21,JB),(43,KE),(63,KF)]) (Ky (Hj b.1.2.1 b.1.2.2 x 1)::qH))
  (bp:x≠0→∀ qH JC JB,qH.length=Y.length+101→Q (.exit 2) (qc 123 [(0,lp b),(1,h0 x),(5,.map 0),(6,h0 ((a:Nat)-10)),(7,JC),(21,JB)]) (Ky (Hj b.1.2.1 b.1.2.2 x ((a+1)*101))::qH)) :
  dQ Tryz.prog KZ 81 0 none Pa T (Ky (Hj b.1.2.1 b.1.2.2 x (a*101))::Y) Q:=by
 unfold Pa;refine wp_loop b0 ?_;refine .intro (fun m T H=>∃ (q:Nat) (qH:List ar),q≤101∧qH.length=Y.length+q∧(x=0→q=0)∧m=101-q∧T=qc 123 [(0,lp b),(1,h0 x),(5,.map 0),(6,h0 ((a:Nat)-10)),(7,h0 q)]∧H=Ky (Hj b.1.2.1 b.1.2.2 x (a*101+q))::qH) _ ⟨0,Y,sE _,rfl,fun _=>rfl,rfl,rfl,rfl⟩ ?_;clear b0;rintro m T H ⟨q,M7,a_,abZ,OL,rfl,rfl,rfl⟩;unfold W4;obtain ⟨b6,iP⟩:∃ c,O'=c:=⟨_,rfl⟩;rw [iP];conv=>whnf
 refine HE (fun aR=>?_) (fun aR=>?_)
 ·conv=>whnf
  subst iP;have cJ:HR (Hj b.1.2.1 b.1.2.2 x (a*101+q)) (HY b.1.2.1 b.1.2.2 x ((a:Nat)-10) (q:Nat)) ((q:Nat),(a:Nat)-10)=Hj b.1.2.1 b.1.2.2 x (a*101+(q+1)):=by
   show _=HR (Hj b.1.2.1 b.1.2.2 x (a*101+q)) (HY b.1.2.1 b.1.2.2 x (((a*101+q) / 101:Nat)-10) (((a*101+q) % 101:Nat))) ((((a*101+q) % 101:Nat):Int),(((a*101+q) / 101:Nat):Int)-10);rw [show (a*101+q) / 101=a by omega,show (a*101+q) % 101=q by omega]
  refine aaH (Sb _ _ _ _) fun ZG KE KF ab0=>?_;rw [cJ];by_cases aj:x=0
  ·rw [if_pos aj];have ab:=acz aj;have ae:=OL aj;subst ab ae;(conv=>whnf);exact abR aj rfl _ _ _ _ _ (by omega)
  ·rw [if_neg aj];(conv=>whnf);(have rC:IntKind.i64.wrap ((q:Int)+1)=((q+1:Nat):Int):=by rw [HO _ (by omega) (by omega)];omega);exact ⟨101-(q+1),by omega,q+1,_,by omega,by omega,fun h=>absurd h aj,rfl,by rw [rC];rfl,rfl⟩
 ·have acx:q=101:=by omega
  subst acx;have aj:x≠0:=fun h=>absurd (OL h) (by decide);conv=>whnf
  rw [show a*101+101=(a+1)*101 by omega];exact bp aj _ _ _ (by omega)
theorem aeC {b:((List (Int×Int))×(Int×Int))×Unit} {x:Int} {T:List I} {Q:cQ→List I→List ar→Prop}
  (b0:eZ [true,true,false,false,false,true,true,false,false,false,false,false,false,false,false,false,false,false,false,false,false,false,false,false,false,false,false,false,false,false,false,false,false,false,false,false,false,false,false,false,false,false,false,false,false,false,false,false,false,false,false,false,false,false,false,false,false,false,false,false,false,false,false,false,false,false,false,false,false,false,false,false,false,false,false,false,false,false,false,false,false,false,false,false,false,false,false,false,false,false,false,false,false,false,false,false,false,false,false,false,false,false,false,false,false,false,false,false,false,false,false,false,false,false,false,false,false,false,false,false,false,false,false] T=qc 123 [(0,lp b),(1,h0 x),(5,.map 0),(6,h0 (-10))])
  (bp:∀ Y v6 JC XS JB KE KF,Y.length=(if x=0 then 1 else 2121)→Q (.exit 0) (qc 123 [(0,lp b),(1,h0 x),(5,.map 0),(6,v6),(7,JC),(17,XS),(21,JB),(43,KE),(63,KF)]) (Ky (Hj b.1.2.1 b.1.2.2 x (if x=0 then 1 else 2121))::Y)) :
  dQ Tryz.prog KZ 81 0 none Pc T [.map [] 0] Q:=by
 unfold Pc;refine wp_loop b0 ?_;refine .intro (fun m T H=>∃ (a:Nat) (Y:List ar),a≤21∧Y.length=a*101∧(x=0→a=0)∧m=21-a∧T=qc 123 [(0,lp b),(1,h0 x),(5,.map 0),(6,h0 ((a:Nat)-10))]∧H=Ky (Hj b.1.2.1 b.1.2.2 x (a*101))::Y) _ ⟨0,[],sE _,rfl,fun _=>rfl,rfl,rfl,rfl⟩ ?_;clear b0;rintro m T H ⟨a,Y,cu,abX,UJ,rfl,rfl,rfl⟩;unfold W6 W5;obtain ⟨b6,iP⟩:∃ c,Pa=c:=⟨_,rfl⟩;rw [iP];conv=>whnf
 refine HE (fun aR=>?_) (fun aR=>?_)
 ·conv=>whnf
  subst iP;refine acB (a:=a) (by omega) UJ (by exact rfl) (fun aj aQ Y JC JB KE KF abY=>?_) (fun aj Y JC JB abY=>?_)
  ·(conv=>whnf);have:=bp Y;rw [if_pos aj] at this;exact this _ _ _ _ _ _ (by subst aQ;omega)
  ·(conv=>whnf);(have rC:IntKind.i64.wrap (((a:Nat):Int)-10+1)=((a+1:Nat):Int)-10:=by rw [HO _ (by omega) (by omega)];omega);exact ⟨21-(a+1),by omega,a+1,_,by omega,by omega,fun h=>absurd h aj,rfl,by rw [rC];rfl,rfl⟩
 ·have ab2:a=21:=by omega
  subst ab2;have aj:x≠0:=fun h=>absurd (UJ h) (by decide);conv=>whnf
  have:=bp Y;rw [if_neg aj] at this;exact this _ _ _ _ _ _ (by omega)
theorem QG:∃ m,qj=m+2:=⟨qj-2,rfl⟩
theorem MX (lo hi n:Int):IH lo hi [n]=some (decide (lo≤n) && decide (n≤hi)):=by
 obtain ⟨m,hm⟩:=QG;have abK:LY n lo hi=some (!(decide (lo≤n) && decide (n≤hi))):=by
  unfold LY;by_cases ab:n<lo
  ·rw [if_pos (decide_eq_true ab),decide_eq_false (show ¬ lo≤n by omega)];rfl
  ·rw [if_neg (by simpa using ab),decide_eq_true (show lo≤n by omega)];by_cases ae:hi<n
   ·rw [decide_eq_true ae,decide_eq_false (show ¬ n≤hi by omega)];rfl
   ·rw [decide_eq_false ae,decide_eq_true (show n≤hi by omega)];rfl
 unfold IH Oe Og;rw [hm,JT.eq_2,if_pos (show decide ((0:Int)<(([n]:List Int).length:Int))=true from rfl),qC ⟨sR _,show (0:Int)<(1:Int) by decide⟩,show ix [n] (0:Int)=n from rfl,abK,sb];cases ak:(decide (lo≤n) && decide (n≤hi))
 ·rfl
 ·rw [show w (0+1:Int)=1 from rfl,JT.eq_2];rfl
def M0 (b:((List (Int×Int))×(Int×Int))×Unit) (x:Int):Option q9 :=
 qk (b.1.1.length≤1000) <|
 (Kk b (w (b.1.1.length-1))).bind fun far =>
 some ((Hj b.1.2.1 b.1.2.2 x (if x=0 then 1 else 2121)).1.filter fun a=>decide (w (-(Jb far b.1.2.1 b.1.1 0))≤a.2.1.1) && decide (a.2.1.1≤Jb far b.1.2.1 b.1.1 0))
theorem ah0 {b:((List (Int×Int))×(Int×Int))×Unit} {x:Int} {A:q9} (h:M0 b x=some A):∃ (c:Nat) (D:List ar),Sem Tryz.prog (.fn 81) [lp b,h0 x] [] 0 (.map 0) (.map (q' A) c::D):=by
 unfold M0 at h;obtain ⟨aI,h⟩:=rR h;obtain ⟨far,QY,h⟩:=p8 h;obtain rfl:=Option.some.inj h;obtain ⟨N,CB⟩:∃ N,N=(if x=0 then 1 else 2121)+b.1.1.length+1+(Hj b.1.2.1 b.1.2.2 x (if x=0 then 1 else 2121)).1.length:=⟨_,rfl⟩;refine ⟨(Hj b.1.2.1 b.1.2.2 x (if x=0 then 1 else 2121)).2,List.replicate N .dead,?_⟩;refine rA eG adi rfl (IF (sE _)) fun Q bp=>?_;unfold W1;obtain ⟨ain,Uu⟩:∃ c,RY=c:=⟨_,rfl⟩;obtain ⟨b6,iP⟩:∃ c,Pc=c:=⟨_,rfl⟩;rw [Uu,iP];conv=>whnf
 subst iP;refine aeC (b:=b) (x:=x) (by exact rfl) fun Y v6 JC XS JB KE KF abX=>?_;conv=>whnf
 subst Uu;unfold RY W3;obtain ⟨aim,Ut⟩:∃ c,O9=c:=⟨_,rfl⟩;obtain ⟨bt,eS⟩:∃ c,Pb=c:=⟨_,rfl⟩;rw [Ut,eS];conv=>whnf
 refine ⟨p6 (Ia b) (p6 rfl rfl),_,KU QY,?_⟩;conv=>whnf
 subst eS;refine aet (b:=b) (far:=far) aI (by exact rfl) fun ZG Pr ab0=>?_;conv=>whnf
 subst Ut;refine af1 (f:=fun k=>decide (w (-(Jb far b.1.2.1 b.1.1 0))≤k) && decide (k≤Jb far b.1.2.1 b.1.1 0)) (Sb _ _ _ _) (fun a _=>MX _ _ _) fun T aih aiA b0=>?_;refine bp _ _ _ ⟨.inr rfl,⟨by simp;omega,fun id o aq=>?_⟩,by simp only [rQ,b0,jg,se]⟩;cases id with
 | zero=>exact .inr aq
 | succ id =>
   refine .inl ?_
   have:(List.replicate N ar.dead)[id]?=some o:=aq
   rw [List.getElem?_replicate] at this;split at this
   ·exact (Option.some.inj this).symm
   ·cases this

noncomputable def Zi:gE :=
 p2 [p0 1 [.jq 0] .box,p0 2 [.cv (.bool false)] .mU] (p2 [p0 3 [.nc 1] (.yM 0),qh 4 3,qy 5 4 0 .geq,p1 6 5,cl 7 [.nc 1] 6 true (.yM 0),cl 8 [.Bs 7] 6 true (.zE .one),cl 9 [.Bs 8,.cv (.int .i64 100)] 6 true (.bin .leq),p0 10 [.Bs 6,.Bs 9,.cv (.bool false)] .pick,p1 11 10,cl 12 [.nc 1] 11 true (.yM 1),cl 13 [.Bs 12] 11 true (.zE .one),cl 14 [.Bs 13,.cv (.int .i64 (-10))] 11 true (.bin .geq),p0 15 [.Bs 11,.Bs 14,.cv (.bool false)] .pick,p1 16 15,cl 17 [.Bs 1] 16 true (.yM 1),cl 18 [.Bs 17] 16 true (.zE .one),cl 19 [.Bs 18,.cv (.int .i64 10)] 16 true (.bin .leq),p0 20 [.Bs 16,.Bs 19,.cv (.bool false)] .pick,p1 2 20] .ret)
theorem ad1:qo Tryz.prog TC 53=some (Zi,21,[.tmp 2]):=by kernel_rfl
def LS (s:(Int×Int)):Option Bool :=
 if (decide ((0:Int)≤s.1))=true then
  if (decide (s.1≤(100:Int)))=true then
   if (decide ((-10:Int)≤s.2))=true then
    some (decide (s.2≤(10:Int)))
   else
    some false
  else
   some false
 else
  some false
theorem SA {s:(Int×Int)} {v:Bool} (h:LS s=some v):qw 53 [(.agg [(h0 s.1),(h0 s.2)])] (B v):=by
 refine qL eG ad1 rfl rfl fun Q bp=>?_;have jJ:qI [.tmp 2] Q (fun v=>(B v)) v:=fun T H bE=>bp _ T H bE;unfold LS at h;unfold Zi;conv=>whnf
 refine bs h (fun gM h=>?_) fun gM h=>?_
 ·rw [gM];conv=>whnf
  refine bs h (fun gN h=>?_) fun gN h=>?_
  ·rw [gN];(conv=>whnf);refine bs h (fun qs h=>?_) fun qs h=>?_
   ·rw [qs];(conv=>whnf);exact p_ h jJ rfl rfl
   ·rw [qs];(conv=>whnf);exact p_ h jJ rfl rfl
  ·rw [gN];(conv=>whnf);exact p_ h jJ rfl rfl
 ·rw [gM];conv=>whnf
  exact p_ h jJ rfl rfl

noncomputable def PW:gE :=
 .loop (some (p' false [1,1,1,2,44])) (.seq (p2 [p3 18 4,p3 19 3,qn 20 18 19 .lss] (.cond (.nc 20) .skip (.exit 0))) (.seq (.block 1 (p2 [p0 23 [.nc 1] (.yM 0),qh 24 23,p3 25 4,re 26 24 25 2,p0 27 [.Bs 26] (.zE (.str 2)),p0 28 [.cv (.func 53 [] []),.nc 27] (.call 3),p0 29 [.Bs 28] (.un .not)] (.cond (.nc 29) (p2 [qf 2 3] .ret) .skip))) (qO [p1 21 4,qV 22 21 1,p1 4 22])))
noncomputable def PX:gE :=
 .seq (p2 [qf 4 0] (.block 0 PW)) (.seq (p2 [p0 30 [.nc 1] (.yM 1),qv 31 30 0,qh 32 31,qy 33 32 0 .lss,p1 34 33,cl 35 [.nc 1] 34 false (.yM 1),cl 36 [.Bs 35] 34 false (.yM 0),cl 37 [.Bs 36] 34 false (.zE .one),cl 38 [.nc 1] 34 false (.yM 1),cl 39 [.Bs 38] 34 false (.yM 1),cl 40 [.Bs 39] 34 false (.zE .one),cl 41 [.Bs 37,.Bs 40] 34 false (.bin .gtr),p0 42 [.Bs 34,.cv (.bool true),.Bs 41] .pick,p1 43 42,cl 44 [.Bs 1] 43 false (.yM 1),cl 45 [.Bs 44] 43 false (.yM 1),cl 46 [.Bs 45] 43 false (.zE .one),cl 47 [.Bs 46,.cv (.int .i64 50)] 43 false (.bin .gtr),p0 48 [.Bs 43,.cv (.bool true),.Bs 47] .pick] (.cond (.nc 48) (p2 [qf 2 3] .ret) .skip)) (p2 [qf 2 0] .ret))
noncomputable def Ze:gE :=
 p2 [p0 1 [.jq 0] .box,qf 2 0] (p2 [p0 5 [.nc 1] (.yM 0),qh 6 5,qW 7 6,p1 3 7] (.seq (p2 [p3 8 3,qy 9 8 3 .neq,p1 10 9,cl 11 [.nc 3] 10 true .mU,cl 12 [.Bs 11,.cv (.int .i64 5)] 10 true (.bin .neq),p0 13 [.Bs 10,.Bs 12,.cv (.bool false)] .pick,p1 14 13,cl 15 [.nc 3] 14 true .mU,cl 16 [.Bs 15,.cv (.int .i64 7)] 14 true (.bin .neq),p0 17 [.Bs 14,.Bs 16,.cv (.bool false)] .pick] (.cond (.nc 17) (p2 [qf 2 6] .ret) .skip)) PX))
theorem adX:qo Tryz.prog Om 46=some (Ze,49,[.tmp 2]):=by kernel_rfl
def LQ (p:(qg×(Int×Int))) (q6:Unit→Option Int):Nat→Int→Option Int
 | 0,_=>none
 | m+1,s1 =>
   if (decide (s1<(p.1.length:Int)))=true then
    qk (0≤s1∧s1<(p.1.length:Int)) <|
    (LS (ix p.1 s1)).bind fun aS =>
    if aS=true then
     LQ p q6 m (w (s1+(1:Int)))
    else
     some (3:Int)
   else
    q6 ()
def LP (p:(qg×(Int×Int)))  : Option Int :=
 LQ p (fun _ =>
   if (decide (p.2.1<(0:Int)))=true then
    some (3:Int)
   else
    if (decide (p.2.2<p.2.1))=true then
     some (3:Int)
    else
     if (decide ((50:Int)<p.2.2))=true then
      some (3:Int)
     else
      some (0:Int)) qj (0:Int)
def JG (p:(qg×(Int×Int))):Option Int :=
 if (decide ((p.1.length:Int)≠(3:Int)))=true then
  if (decide ((p.1.length:Int)≠(5:Int)))=true then
   if (decide ((p.1.length:Int)≠(7:Int)))=true then
    some (6:Int)
   else
    LP p
  else
   LP p
 else
  LP p
theorem ahF {p:(qg×(Int×Int))} {q6:Unit→Option Int} {s1:Int} {v:Int} {Q:Hm}   (jJ:qI [.tmp 2] Q (fun v=>(h0 v)) v) (J8:∀ (qd:List I),q6 ()=some v→rv 49 [(1,(.ptr 0 0))] qd→Q (.exit 0) qd [ar.cells [(q2 p.1 .shared),(h0 p.2.1),(h0 p.2.2)]]) {T:List I} (b0:eZ (p' false [1,1,1,2,44]) T=qc 49 [(1,(.ptr 0 0)),(3,(h0 (p.1.length:Int))),(4,(h0 s1))]) (h:LQ p q6 qj s1=some v) :
  dQ Tryz.prog Om 46 0 none PW T [ar.cells [(q2 p.1 .shared),(h0 p.2.1),(h0 p.2.2)]] Q:=by
 unfold PW;refine wp_loop b0 ?_;refine .intro (fun m T H=>∃ (s1:Int),T=qc 49 [(1,(.ptr 0 0)),(3,(h0 (p.1.length:Int))),(4,(h0 s1))]∧H=[ar.cells [(q2 p.1 .shared),(h0 p.2.1),(h0 p.2.2)]]∧LQ p q6 m s1=some v) qj ⟨s1,rfl,rfl,h⟩ ?_;clear h b0;rintro m T H ⟨s1,rfl,rfl,h⟩;cases m
 ·exact r0 h
 rename_i m;rw [LQ.eq_2] at h;conv=>whnf
 refine bs h (fun qK h=>?_) fun qK h=>?_
 ·rw [qK];conv=>whnf
  refine qP h id fun qY h=>?_;rw [HW p7 2 Jd p.1 s1 qY];conv=>whnf
  obtain ⟨aS,rn,h⟩:=p8 h;refine ⟨qi.pl,_,SA rn,?_⟩;conv=>whnf
  cases aS
  ·(conv=>whnf);replace h:=rW rfl h;exact p_ h jJ rfl rfl
  ·(conv=>whnf);replace h:=rV rfl h;exact ⟨m,sD m,(w (s1+(1:Int))),rfl,rfl,h⟩
 ·rw [qK];conv=>whnf
  exact J8  _ h ⟨rfl,rfl⟩
theorem Sw {p:(qg×(Int×Int))} {v:Int} {Q:Hm}  {qd:List I}  (jJ:qI [.tmp 2] Q (fun v=>(h0 v)) v) (qz:rv 49 [(1,(.ptr 0 0)),(3,(h0 (p.1.length:Int)))] qd) (h:LP p  = some v) :
  dQ Tryz.prog Om 46 0 none PX qd [ar.cells [(q2 p.1 .shared),(h0 p.2.1),(h0 p.2.2)]] Q:=by
 obtain ⟨rB,rfl⟩:=qz.ex;unfold LP at h;unfold PX;obtain ⟨HD,qE⟩:∃ c,PW=c:=⟨_,rfl⟩;rw [qE];conv=>whnf
 subst qE;refine ahF ?_ ?_ (by exact rfl) h
 ·exact fun T H bE=>jJ T H bE
 ·intro  qd h qz;obtain ⟨rB,rfl⟩:=qz.ex;conv=>whnf
  refine bs h (fun qS h=>?_) fun qS h=>?_
  ·rw [qS];(conv=>whnf);exact p_ h jJ rfl rfl
  ·rw [qS];(conv=>whnf);refine bs h (fun ry h=>?_) fun ry h=>?_
   ·rw [ry];(conv=>whnf);exact p_ h jJ rfl rfl
   ·rw [ry];(conv=>whnf);refine bs h (fun q_ h=>?_) fun q_ h=>?_
    ·rw [q_];(conv=>whnf);exact p_ h jJ rfl rfl
    ·rw [q_];(conv=>whnf);exact p_ h jJ rfl rfl
theorem Sx {p:(qg×(Int×Int))} {v:Int} (h:JG p=some v):qw 46 [(.agg [(.av (p.1.flatMap p7) p.1.length .shared),(h0 p.2.1),(h0 p.2.2)])] (h0 v):=by
 refine qL eG adX rfl rfl fun Q bp=>?_;have jJ:qI [.tmp 2] Q (fun v=>(h0 v)) v:=fun T H bE=>bp _ T H bE;unfold JG at h;unfold Ze;obtain ⟨K2,rX⟩:∃ c,PX=c:=⟨_,rfl⟩;rw [rX];conv=>whnf
 refine bs h (fun gM h=>?_) fun gM h=>?_
 ·rw [gM];conv=>whnf
  refine bs h (fun gN h=>?_) fun gN h=>?_
  ·rw [gN];(conv=>whnf);refine bs h (fun qs h=>?_) fun qs h=>?_
   ·rw [qs];(conv=>whnf);exact p_ h jJ rfl rfl
   ·rw [qs];(conv=>whnf);subst rX;refine Sw ?_ (by exact ⟨rfl,rfl⟩) h;exact fun T H bE=>jJ T H bE
  ·rw [gN];(conv=>whnf);subst rX;refine Sw ?_ (by exact ⟨rfl,rfl⟩) h;exact fun T H bE=>jJ T H bE
 ·rw [gM];conv=>whnf
  subst rX;refine Sw ?_ (by exact ⟨rfl,rfl⟩) h;exact fun T H bE=>jJ T H bE

noncomputable def P4:gE :=
 .loop (some (p' false [0,2,3,1,12])) (.seq (p2 [p3 6 5,p3 7 0,qW 8 7,qn 9 6 8 .lss] (.cond (.nc 9) .skip (.exit 0))) (.seq (.block 1 (p2 [p3 12 0,p3 13 5,re 14 12 13 1,qh 15 14,p3 16 1,qn 17 15 16 .eql] (.cond (.nc 17) (p2 [p0 4 [.cv (.bool true)] .mU] .ret) .skip))) (qO [p1 10 5,qV 11 10 1,p1 5 11])))
noncomputable def Zq:gE :=
 p2 [p0 4 [.cv (.bool false)] .mU] (.seq (p2 [qf 5 0] (.block 0 P4)) (p2 [p0 4 [.cv (.bool false)] .mU] .ret))
theorem ad9:qo Tryz.prog Qo 72=some (Zq,18,[.tmp 4]):=by kernel_rfl
def LX (l:p9) (n:Int) (qa:Unit→Option Bool):Nat→Int→Option Bool
 | 0,_=>none
 | m+1,s1 =>
   if (decide (s1<(l.length:Int)))=true then
    qk (0≤s1∧s1<(l.length:Int)) <|
    if (decide ((ix l s1)=n))=true then
     some true
    else
     LX l n qa m (w (s1+(1:Int)))
   else
    qa ()
def LW (l:p9) (n:Int):Option Bool :=
 LX l n (fun _ =>
   some false) qj (0:Int)
theorem ahV {l:p9} {n:Int} {qa:Unit→Option Bool} {s1:Int} {v:Bool} {Q:Hm}   (jJ:qI [.tmp 4] Q (fun v=>(B v)) v) (ri:∀ (qd:List I),qa ()=some v→rv 18 [] qd→Q (.exit 0) qd []) {T:List I} (b0:eZ (p' false [0,2,3,1,12]) T=qc 18 [(0,(qR l .shared)),(1,(h0 n)),(5,(h0 s1))]) (h:LX l n qa qj s1=some v) :
  dQ Tryz.prog Qo 72 0 none P4 T [] Q:=by
 unfold P4;refine wp_loop b0 ?_;refine .intro (fun m T H=>∃ (s1:Int),T=qc 18 [(0,(qR l .shared)),(1,(h0 n)),(5,(h0 s1))]∧H=[]∧LX l n qa m s1=some v) qj ⟨s1,rfl,rfl,h⟩ ?_;clear h b0;rintro m T H ⟨s1,rfl,rfl,h⟩;cases m
 ·exact r0 h
 rename_i m;rw [LX.eq_2] at h;conv=>whnf
 refine bs h (fun gM h=>?_) fun gM h=>?_
 ·rw [gM];conv=>whnf
  refine qP h id fun gN h=>?_;rw [ru h0 l s1 gN];conv=>whnf
  refine bs h (fun qs h=>?_) fun qs h=>?_
  ·rw [qs];(conv=>whnf);exact p_ h jJ rfl rfl
  ·rw [qs];(conv=>whnf);exact ⟨m,sD m,(w (s1+(1:Int))),rfl,rfl,h⟩
 ·rw [gM];conv=>whnf
  exact ri  _ h ⟨rfl,rfl⟩
theorem YJ {l:p9} {n:Int} {v:Bool} (h:LW l n=some v):qw 72 [(.av (l.map h0) l.length .shared),(h0 n)] (B v):=by
 refine qL eG ad9 rfl rfl fun Q bp=>?_;have jJ:qI [.tmp 4] Q (fun v=>(B v)) v:=fun T H bE=>bp _ T H bE;unfold LW at h;unfold Zq;obtain ⟨HD,qE⟩:∃ c,P4=c:=⟨_,rfl⟩;rw [qE];conv=>whnf
 subst qE;refine ahV ?_ ?_ (by exact rfl) h
 ·exact fun T H bE=>jJ T H bE
 ·intro  qd h qz;obtain ⟨rB,rfl⟩:=qz.ex;conv=>whnf
  exact p_ h jJ rfl rfl

noncomputable def PY:gE :=
 .loop (some (p' false [1,2,2,1,42])) (.seq (p2 [p3 17 5,p3 18 1,qW 19 18,qn 20 17 19 .lss] (.cond (.nc 20) .skip (.exit 0))) (.seq (.block 1 (.seq (ra [p3 23 1,p3 24 5,re 25 23 24 1,qh 26 25,qy 27 26 0 .lss,p1 28 27,cl 29 [.nc 1] 28 false .mU,cl 30 [.nc 5] 28 false .mU,cl 31 [.Bs 29,.Bs 30] 28 false (.kY 1),cl 32 [.Bs 31] 28 false (.zE .one),cl 33 [.nc 2] 28 false (.yM 0),cl 34 [.Bs 33] 28 false (.zE .one),cl 35 [.jq 34] 28 false .zJ,cl 36 [.Bs 32,.Bs 35] 28 false (.bin .geq),p0 37 [.nc 28,.cv (.bool true),.Bs 36] .pick,p1 38 37,cl 39 [.nc 1] 38 false .mU,cl 40 [.nc 5] 38 false .mU,⟨some 41,[.jq 39,.jq 40],some (38,false),none,.Bh 1 false true false⟩,cl 42 [.nc 1] 38 false .mU,cl 43 [.nc 5] 38 false .mU,cl 44 [.Bs 42,.Bs 43] 38 false (.kY 1),cl 45 [.Bs 44] 38 false (.zE .one),⟨some 46,[.cv (.func 72 [] []),.nc 41,.nc 45],some (38,false),none,.call 3⟩,p0 47 [.nc 38,.cv (.bool true),.Bs 46] .pick]) (.cond (.nc 47) (p2 [qf 4 16] .ret) .skip))) (qO [p1 21 5,qV 22 21 1,p1 5 22])))
noncomputable def Zh:gE :=
 p2 [p0 2 [.jq 0] .box,qf 4 0] (.seq (p2 [p0 6 [.nc 2] (.zE (.str 3)),p0 7 [.cv (.func 46 [] []),.nc 6] (.call 3),qy 8 7 0 .neq] (.cond (.nc 8) (p2 [p0 9 [.Bs 2] (.zE (.str 3)),p0 10 [.cv (.func 46 [] []),.nc 9] (.call 3),p1 4 10] .ret) .skip)) (.seq (p2 [p3 11 1,qW 12 11,p0 13 [.nc 2] (.yM 0),qh 14 13,qW 15 14,qn 16 12 15 .neq] (.cond (.nc 16) (p2 [qf 4 16] .ret) .skip)) (.seq (p2 [qf 5 0] (.block 0 PY)) (p2 [qf 4 0] .ret))))
theorem ad0:qo Tryz.prog Qh 52=some (Zh,48,[.tmp 4]):=by kernel_rfl
def LR (p:(qg×(Int×Int))) (order:p9) (qa:Unit→Option Int):Nat→Int→Option Int
 | 0,_=>none
 | m+1,s1 =>
   if (decide (s1<(order.length:Int)))=true then
    qk (0≤s1∧s1<(order.length:Int)) <|
    if (decide ((ix order s1)<(0:Int)))=true then
     some (16:Int)
    else
     qk (0≤s1∧s1<(order.length:Int)) <|
     if (decide ((p.1.length:Int)≤(ix order s1)))=true then
      some (16:Int)
     else
      qk (0≤s1∧s1≤(order.length:Int)) <|
      qk (0≤s1∧s1<(order.length:Int)) <|
      (LW (order.take s1.toNat) (ix order s1)).bind fun eK =>
      if eK=true then
       some (16:Int)
      else
       LR p order qa m (w (s1+(1:Int)))
   else
    qa ()
def KR (p:(qg×(Int×Int))) (order:p9):Option Int :=
 (JG p).bind fun aS =>
 if (decide (aS≠(0:Int)))=true then
  (JG p).bind fun bj =>
  some bj
 else
  if (decide ((order.length:Int)≠(p.1.length:Int)))=true then
   some (16:Int)
  else
   LR p order (fun _ =>
     some (0:Int)) qj (0:Int)
theorem ahI {p:(qg×(Int×Int))} {order:p9} {qa:Unit→Option Int} {s1:Int} {v:Int} {Q:Hm}   (jJ:qI [.tmp 4] Q (fun v=>(h0 v)) v) (ri:∀ (bx:ar) (qd:List I),qa ()=some v→rv 48 [] qd→Q (.exit 0) qd [bx]) {T:List I} (b0:eZ (p' false [1,2,2,1,42]) T=qc 48 [(1,(qR order .shared)),(2,(.ptr 0 0)),(5,(h0 s1))]) (h:LR p order qa qj s1=some v) :
  dQ Tryz.prog Qh 52 0 none PY T [ar.cells [(q2 p.1 .shared),(h0 p.2.1),(h0 p.2.2)]] Q:=by
 unfold PY;refine wp_loop b0 ?_;refine .intro (fun m T H=>∃ (s1:Int),T=qc 48 [(1,(qR order .shared)),(2,(.ptr 0 0)),(5,(h0 s1))]∧H=[ar.cells [(q2 p.1 .shared),(h0 p.2.1),(h0 p.2.2)]]∧LR p order qa m s1=some v) qj ⟨s1,rfl,rfl,h⟩ ?_;clear h b0;rintro m T H ⟨s1,rfl,rfl,h⟩;cases m
 ·exact r0 h
 rename_i m;rw [LR.eq_2] at h;conv=>whnf
 refine bs h (fun qY h=>?_) fun qY h=>?_
 ·rw [qY];conv=>whnf
  refine qP h id fun rn h=>?_;rw [ru h0 order s1 rn];conv=>whnf
  refine bs h (fun qS h=>?_) fun qS h=>?_
  ·rw [qS];(conv=>whnf);exact p_ h jJ rfl rfl
  ·rw [qS];(conv=>whnf);refine qP h id fun ry h=>?_;rw [ru h0 order s1 ry];(conv=>whnf);refine bs h (fun q_ h=>?_) fun q_ h=>?_
   ·rw [q_];(conv=>whnf);exact p_ h jJ rfl rfl
   ·rw [q_];(conv=>whnf);refine qP h id fun r2 h=>?_;erw [R_ h0 order s1 r2];(conv=>whnf);refine qP h id fun I_ h=>?_;rw [ru h0 order s1 I_];(conv=>whnf);obtain ⟨eK,IQ,h⟩:=p8 h;refine ⟨qi.pl,_,YJ IQ,Hg,?_⟩;(conv=>whnf);cases eK
    ·(conv=>whnf);replace h:=rW rfl h;exact ⟨m,sD m,(w (s1+(1:Int))),rfl,rfl,h⟩
    ·(conv=>whnf);replace h:=rV rfl h;exact p_ h jJ rfl rfl
 ·rw [qY];conv=>whnf
  exact ri _ _ h ⟨rfl,rfl⟩
theorem Yu {p:(qg×(Int×Int))} {order:p9} {v:Int} (h:KR p order=some v):qw 52 [(.agg [(.av (p.1.flatMap p7) p.1.length .shared),(h0 p.2.1),(h0 p.2.2)]),(.av (order.map h0) order.length .shared)] (h0 v):=by
 refine qL eG ad0 rfl rfl fun Q bp=>?_;have jJ:qI [.tmp 4] Q (fun v=>(h0 v)) v:=fun T H bE=>bp _ T H bE;unfold KR at h;unfold Zh;obtain ⟨HD,qE⟩:∃ c,PY=c:=⟨_,rfl⟩;rw [qE];conv=>whnf
 obtain ⟨aS,gM,h⟩:=p8 h;refine ⟨qi.pl,_,Sx gM,?_⟩;conv=>whnf
 refine bs h (fun gN h=>?_) fun gN h=>?_
 ·rw [gN];conv=>whnf
  obtain ⟨bj,qs,h⟩:=p8 h;refine ⟨qi.pl,_,Sx qs,?_⟩;conv=>whnf
  exact p_ h jJ rfl rfl
 ·rw [gN];conv=>whnf
  refine bs h (fun qK h=>?_) fun qK h=>?_
  ·rw [qK];(conv=>whnf);exact p_ h jJ rfl rfl
  ·rw [qK];(conv=>whnf);subst qE;refine ahI ?_ ?_ (by exact rfl) h
   ·exact fun T H bE=>jJ T H bE
   ·intro bx qd h qz;obtain ⟨rB,rfl⟩:=qz.ex;(conv=>whnf);exact p_ h jJ rfl rfl
end Go.Proofs.YtkoioidpbbbaiaaGreat.Ab


namespace Go.Proofs.YtkoioidpbbbaiaaGreat.Ab
open Go
set_option maxRecDepth 20000
set_option maxHeartbeats 1000000
def rk (p:qb):Int:=if p.1.length=3∨p.1.length=5∨p.1.length=7 then (if (∀ s∈p.1,qT s)∧0≤p.2.1∧p.2.1≤p.2.2∧p.2.2≤50 then 0 else 3) else 6
theorem Yv (s:qt):LS s=some (decide (qT s)):=by
 unfold LS qT;by_cases ab:0≤s.1
 ·rw [if_pos (decide_eq_true ab)];by_cases ae:s.1≤100
  ·rw [if_pos (decide_eq_true ae)];by_cases aF:-10≤s.2
   ·rw [if_pos (decide_eq_true aF)];simp [ab,ae,aF]
   ·rw [if_neg (by simpa using aF)];simp [aF]
  ·rw [if_neg (by simpa using ae)];simp [ae]
 ·rw [if_neg (by simpa using ab)];simp [ab]
theorem Vf {p:qb} (aB:p.1.length≤1000) {K:Option Int}:∀ (m i:Nat),i≤p.1.length→p.1.length-i<m→(∀ j,j<i→qT (ix p.1 (j:Int))) →
  LQ p (fun _=>K) m (i:Int)=if ∀ s∈p.1,qT s then K else some 3
 | 0,_,_,h,_=>absurd h (by omega)
 | m+1,i,hi,hm,aw=>by
   rw [LQ];by_cases aR:i<p.1.length
   ·rw [if_pos (decide_eq_true (by omega)),qC (by omega),Yv,sb,Io i (by omega)];by_cases al:qT (ix p.1 (i:Int))
    ·rw [if_pos (decide_eq_true al)];refine Vf aB m (i+1) (by omega) (by omega) fun j gi=>?_;by_cases e:j=i
     ·rw [e];exact al
     ·exact aw j (by omega)
    ·rw [if_neg (by simpa using al),if_neg];exact fun c1=>al (c1 _ (Jp (by omega)))
   ·rw [if_neg (by simpa using by omega),if_pos];intro s ah;obtain ⟨j,ef,rfl⟩:=uA ah;have:=aw j (by omega)
    rwa [rr ef] at this
theorem Yq {p:qb} (aB:p.1.length≤1000):JG p=some (rk p):=by
 have aw:LP p=some (if (∀ s∈p.1,qT s)∧0≤p.2.1∧p.2.1≤p.2.2∧p.2.2≤50 then 0 else 3):=by
  unfold LP;rw [show (0:Int)=((0:Nat):Int) from rfl,Vf aB qj 0 (by omega) (Is (by omega)) (fun j h=>absurd h (by omega))];by_cases h:∀ s∈p.1,qT s
  ·rw [if_pos h];by_cases ab:p.2.1<0
   ·rw [if_pos (decide_eq_true (by exact ab)),if_neg (by omega)]
   ·rw [if_neg (by simpa using by omega)];by_cases ae:p.2.2<p.2.1
    ·rw [if_pos (decide_eq_true ae),if_neg (by omega)]
    ·rw [if_neg (by simpa using by omega)];by_cases aF:50<p.2.2
     ·rw [if_pos (decide_eq_true aF),if_neg (by omega)]
     ·rw [if_neg (by simpa using by omega),if_pos ⟨h,by omega,by omega,by omega⟩]
  ·rw [if_neg h,if_neg (fun k=>h k.1)]
 unfold JG rk;by_cases aF:p.1.length=3
 ·rw [if_neg (by simp [aF]),if_pos (.inl aF),aw]
 ·rw [if_pos (decide_eq_true (by omega))];by_cases bP:p.1.length=5
  ·rw [if_neg (by simp [bP]),if_pos (.inr (.inl bP)),aw]
  ·rw [if_pos (decide_eq_true (by omega))];by_cases cO:p.1.length=7
   ·rw [if_neg (by simp [cO]),if_pos (.inr (.inr cO)),aw]
   ·rw [if_pos (decide_eq_true (by omega)),if_neg (by omega)]
theorem Ys (s:qt):KQ s=some (!decide (qT s)):=by
 unfold KQ;rw [MX,sb];unfold qT;by_cases h:0≤s.1∧s.1≤100
 ·rw [if_pos (by simp [h.1,h.2]),MX,sb];by_cases ae:-10≤s.2 <;> by_cases aF:s.2≤10 <;> simp [h.1,h.2,ae,aF]
 ·rw [if_neg (by simpa using h)];rw [decide_eq_false (show ¬ (0≤s.1∧s.1≤100∧-10≤s.2∧s.2≤10) from fun k=>h ⟨k.1,k.2.1⟩)];rfl
theorem U7 {S:List qt} (aB:S.length≤1000):∀ (m i:Nat),i≤S.length→S.length-i<m→(∀ j,j<i→qT (ix S (j:Int))) →
  ∃ r,LI S (fun rb=>KQ rb) (fun _=>some (-1:Int)) m (i:Int)=some r∧decide (0≤r)=!decide (∀ s∈S,qT s)
 | 0,_,_,h,_=>absurd h (by omega)
 | m+1,i,hi,hm,aw=>by
   rw [LI];by_cases aR:i<S.length
   ·rw [if_pos (decide_eq_true (by omega)),qC (by omega),Ys,sb,Io i (by omega)];by_cases al:qT (ix S (i:Int))
    ·rw [if_neg (by simpa using al)];refine U7 aB m (i+1) (by omega) (by omega) fun j gi=>?_;by_cases e:j=i
     ·rw [e];exact al
     ·exact aw j (by omega)
    ·rw [if_pos (by simpa using al)];refine ⟨_,rfl,?_⟩;rw [decide_eq_true (by omega),decide_eq_false fun c1=>al (c1 _ (Jp (by omega)))];rfl
   ·rw [if_neg (by simpa using by omega)];refine ⟨-1,rfl,?_⟩;rw [decide_eq_false (by omega),decide_eq_true];rfl;intro s ah;obtain ⟨j,ef,rfl⟩:=uA ah;have:=aw j (by omega)
    rwa [rr ef] at this
theorem ah3 {S:List qt} (aB:S.length≤1000):Of S (fun rb=>KQ rb)=some (!decide (∀ s∈S,qT s)):=by
 unfold Of Pu;obtain ⟨r,ab,ae⟩:=U7 aB qj 0 (by omega) (Is (by omega)) (fun j h=>absurd h (by omega));rw [show (0:Int)=((0:Nat):Int) from rfl,ab,sb];exact congrArg some ae
theorem YK (n lo hi:Int):LY n lo hi=some (!(decide (lo≤n) && decide (n≤hi))):=by
 unfold LY;by_cases ab:n<lo
 ·rw [if_pos (decide_eq_true ab),decide_eq_false (show ¬ lo≤n by omega)];rfl
 ·rw [if_neg (by simpa using ab),decide_eq_true (show lo≤n by omega)];by_cases ae:hi<n
  ·rw [decide_eq_true ae,decide_eq_false (show ¬ n≤hi by omega)];rfl
  ·rw [decide_eq_false ae,decide_eq_true (show n≤hi by omega)];rfl
theorem ahG (lo hi n k:Int):IH lo hi [n,k]=some ((decide (lo≤n) && decide (n≤hi)) && (decide (lo≤k) && decide (k≤hi))):=by
 obtain ⟨m,hm⟩:∃ m,qj=m+3:=⟨qj-3,rfl⟩;unfold IH Oe Og;rw [hm,JT.eq_2,if_pos (show decide ((0:Int)<(([n,k]:List Int).length:Int))=true from rfl),qC ⟨sR _,show (0:Int)<(2:Int) by decide⟩,show ix [n,k] (0:Int)=n from rfl,YK,sb];cases ak:(decide (lo≤n) && decide (n≤hi))
 ·rfl
 ·rw [show w (0+1:Int)=1 from rfl,if_neg (by decide),JT.eq_2,if_pos (show decide ((1:Int)<(([n,k]:List Int).length:Int))=true from rfl),qC ⟨by decide,show (1:Int)<(2:Int) by decide⟩,show ix [n,k] (1:Int)=k from rfl,YK,sb];cases ak:(decide (lo≤k) && decide (k≤hi))
  ·rfl
  ·rw [show w (1+1:Int)=2 from rfl,JT.eq_2];rfl
theorem YF {p:qb} (aB:p.1.length≤1000):Oc p=some (rk p):=by
 have aw:MY p (fun _=>some (0:Int)) false=some (if (∀ s∈p.1,qT s)∧0≤p.2.1∧p.2.1≤p.2.2∧p.2.2≤50 then 0 else 3):=by
  unfold MY;rw [if_neg (by decide),ah3 aB,sb];by_cases h:∀ s∈p.1,qT s
  ·rw [if_neg (by simpa using h),ahG,sb];by_cases ab:(0≤p.2.1∧p.2.1≤50)∧(0≤p.2.2∧p.2.2≤50)
   ·rw [if_pos (by simp [ab])];by_cases ae:p.2.2<p.2.1
    ·rw [if_pos (decide_eq_true ae),if_neg (by omega)]
    ·rw [if_neg (by simpa using by omega),if_pos ⟨h,by omega,by omega,by omega⟩]
   ·rw [if_neg (by simpa [and_assoc] using fun a b c=>by omega),if_neg (by omega)]
  ·rw [if_pos (by simpa using h),if_neg (fun k=>h k.1)]
 unfold Oc rk;rw [MX,sb];have iN:(p.1.length:Int).tmod 2=((p.1.length % 2:Nat):Int):=NV _;by_cases ai:3≤p.1.length∧p.1.length≤7
 ·rw [if_pos (by simp;omega),qC (by decide),iN];by_cases h:p.1.length=3∨p.1.length=5∨p.1.length=7
  ·rw [if_pos h,decide_eq_false (by omega),aw]
  ·rw [if_neg h,decide_eq_true (by omega)];rfl
 ·rw [if_neg (by simp;omega),if_neg (by omega)];rfl
def qp (n:Nat) (o:List Int):Prop:=o.length=n∧o.Nodup∧∀ x∈o,0≤x∧x<(n:Int)
instance (n:Nat) (o:List Int):Decidable (qp n o):=by unfold qp;exact inferInstance
def rU (p:qb) (o:List Int):Int:=if rk p≠0 then rk p else if qp p.1.length o then 0 else 16
theorem Vj {l:List Int} (ao:l.length≤1000) {v:Int}:∀ (m i:Nat),i≤l.length→l.length-i<m→(∀ j,j<i→ix l (j:Int)≠v)→LX l v (fun _=>some false) m (i:Int)=some (decide (v∈l))
 | 0,_,_,h,_=>absurd h (by omega)
 | m+1,i,hi,hm,aw=>by
   rw [LX];by_cases aR:i<l.length
   ·rw [if_pos (decide_eq_true (by omega)),qC (by omega),Io i (by omega)];by_cases al:ix l (i:Int)=v
    ·rw [if_pos (decide_eq_true al),decide_eq_true (by rw [←al];exact Jp (by omega))]
    ·rw [if_neg (by simpa using al)];refine Vj ao m (i+1) (by omega) (by omega) fun j gi=>?_;by_cases e:j=i
     ·rw [e];exact al
     ·exact aw j (by omega)
   ·rw [if_neg (by simpa using by omega),decide_eq_false];intro ah;obtain ⟨j,ef,e⟩:=uA ah;exact aw j (by omega) (by rw [rr ef];exact e)
theorem YI {l:List Int} (ao:l.length≤1000) (v:Int):LW l v=some (decide (v∈l)):=by
 unfold LW;exact Vj ao qj 0 (by omega) (Is (by omega)) (fun j h=>absurd h (by omega))
def NB (n:Nat) (o:List Int) (i:Nat):Prop:=(o.take i).Nodup∧∀ x∈o.take i,0≤x∧x<(n:Int)
theorem aeI {n:Nat} {o:List Int} {i:Nat} (hi:i<o.length):NB n o (i+1)↔NB n o i∧(0≤ix o (i:Int)∧ix o (i:Int)<(n:Int))∧ix o (i:Int) ∉ o.take i:=by
 unfold NB;rw [uD hi,rr hi,ui];constructor
 ·rintro ⟨⟨ab,_,aF⟩,ba⟩;exact ⟨⟨ab,fun x aj=>ba x (List.mem_append_left _ aj)⟩,ba _ (List.mem_append_right _ (sT.2 rfl)),fun hm=>aF _ hm _ (sT.2 rfl) rfl⟩
 ·rintro ⟨⟨ab,ae⟩,aF,ba⟩;refine ⟨⟨ab,by simp,?_⟩,?_⟩
  ·intro a cu b af e;rw [sT] at af;subst af;subst e;exact ba cu
  ·intro x aj;rcases tf.1 aj with aj | aj
   ·exact ae x aj
   ·rw [sT] at aj;subst aj;exact aF
theorem Vg {p:qb} {o:List Int} (ao:o.length≤1000) (aI:o.length=p.1.length):∀ (m i:Nat),i≤o.length→o.length-i<m→NB p.1.length o i→LR p o (fun _=>some 0) m (i:Int)=some (if qp p.1.length o then 0 else 16)
 | 0,_,_,h,_=>absurd h (by omega)
 | m+1,i,hi,hm,aw=>by
   rw [LR];by_cases aR:i<o.length
   ·rw [if_pos (decide_eq_true (by omega)),qC (by omega),Io i (by omega)];have ft:(¬ (0≤ix o (i:Int)∧ix o (i:Int)<(p.1.length:Int))∨ix o (i:Int)∈o.take i)→¬ qp p.1.length o:=fun af al=>by
     rcases af with af | af
     ·exact af (al.2.2 _ (Jp (by omega)))
     ·have:(o.take (i+1)).Nodup:=al.2.1.sublist (List.take_sublist _ _)
      rw [uD aR,ui] at this;exact this.2.2 _ af _ (by rw [rr aR];simp) rfl
    by_cases ab:ix o (i:Int)<0
    ·rw [if_pos (decide_eq_true ab),if_neg (ft (.inl (by omega)))]
    ·rw [if_neg (by simpa using by omega),qC (by omega)];by_cases ae:(p.1.length:Int)≤ix o (i:Int)
     ·rw [if_pos (decide_eq_true ae),if_neg (ft (.inl (by omega)))]
     ·rw [if_neg (by simpa using by omega),qC (by omega),qC (by omega),tp,YI (by rw [s_];omega),sb];by_cases aF:ix o (i:Int)∈o.take i
      ·rw [if_pos (decide_eq_true aF),if_neg (ft (.inr aF))]
      ·rw [if_neg (by simpa using aF)];exact Vg ao aI m (i+1) (by omega) (by omega) ((aeI aR).2 ⟨aw,by omega,aF⟩)
   ·(obtain rfl:i=o.length:=by omega);rw [if_neg (by simp),if_pos];unfold NB at aw;rw [uB] at aw;exact ⟨aI,aw.1,aw.2⟩
theorem ahH {p:qb} (aB:p.1.length≤1000) {o:List Int} (ao:o.length≤1000):KR p o=some (rU p o):=by
 unfold KR rU;rw [Yq aB,sb,sb];by_cases h:rk p=0
 ·rw [if_neg (show ¬ decide (rk p≠0)=true by simpa using h),if_neg (show ¬ rk p≠0 by simpa using h)];by_cases aI:o.length=p.1.length
  ·rw [if_neg (show ¬ decide ((o.length:Int)≠(p.1.length:Int))=true by simp [aI])];exact Vg ao aI qj 0 (by omega) (Is (by omega)) ⟨by simp,by simp⟩
  ·rw [if_pos (show decide ((o.length:Int)≠(p.1.length:Int))=true from decide_eq_true (by omega)),if_neg (fun k=>aI k.1)]
 ·rw [if_pos (decide_eq_true h),if_pos h]
theorem agw:Sort.SWO Sort.ltInt:=by
 constructor <;> intros <;> simp_all [Sort.ltInt] <;> omega
theorem XA (l:List Int):(I0 l).Perm l∧(I0 l).Pairwise (·≤·):=by
 obtain ⟨⟨ab,_,aF⟩,ba⟩:=Sort.insertionSort_holds (lt:=Sort.ltInt) agw l.toArray 0 l.length (sE _) (by simp);unfold I0;generalize Sort.insertionSort Sort.ltInt l.toArray 0 l.length=d at ab aF ba;have ab:d.size=l.length:=by simpa using ab
 have e1:(d.extract 0 l.length).toList=d.toList:=by rw [←ab];simp
 have b':(l.toArray.extract 0 l.length).toList=l:=by simp
 rw [e1,b'] at aF;refine ⟨aF,List.pairwise_iff_getElem.2 fun i j hi aw h_=>?_⟩;have hi':i<d.size:=by simpa using hi
 have ef:j<d.size:=by simpa using aw
 have:=ba i j (sE _) h_ (by omega);rw [getElem!_pos d i hi',getElem!_pos d j ef] at this;simp only [Sort.ltInt,decide_eq_false_iff_not] at this;simp only [Array.getElem_toList];omega
theorem Rc {n:Nat} {x:Int}:x∈ql n↔0≤x∧x<(n:Int):=by
 simp only [ql,sC,sH];exact ⟨by rintro ⟨i,hi,rfl⟩;omega,fun h=>⟨x.toNat,by omega,by omega⟩⟩
theorem XQ (n:Nat):(ql n).Pairwise (·<·):=by
 unfold ql;rw [List.pairwise_map];exact List.pairwise_lt_range.imp fun h=>by omega
theorem agF (n:Nat):(ql n).Nodup:=afY (XQ n)
theorem VR:∀ {a b:List Int},a.Nodup→(∀ x∈a,x∈b)→b.length≤a.length→a.Perm b
 | [],b,_,_,h=>by
   rw [sP.1 (show b.length=0 by simpa using h)]
 | x::a,b,aI,ah,h=>by
   have aj:x∈b:=ah x (by simp);obtain ⟨ab,ae⟩:=tU.1 aI;refine (List.Perm.cons x (VR (b:=b.erase x) ae (fun y aY=>?_) ?_)).trans (List.perm_cons_erase aj).symm
   ·exact (List.mem_erase_of_ne (fun e=>ab (by rw [←e];exact aY))).2 (ah y (by simp [aY]))
   ·rw [tT aj];simp at h;omega
theorem KA {n:Nat} {o:List Int}:qp n o↔o.Perm (ql n):=by
 constructor
 ·rintro ⟨ab,ae,aF⟩;exact VR ae (fun x aj=>Rc.2 (aF x aj)) (by simp [ql,ab])
 ·intro h;exact ⟨by rw [h.length_eq];simp [ql],h.nodup_iff.2 (agF n),fun x aj=>Rc.1 (h.mem_iff.1 aj)⟩
theorem aey {n:Nat} {o:List Int}:qp n o↔o∈q4 n (ql n):=by
 rw [KA,OU n _ _ (by simp [ql])]
theorem XB {l:List Int}:(∀ j:Nat,j<(I0 l).length→ix (I0 l) (j:Int)=(j:Int))↔qp l.length l:=by
 obtain ⟨ab,ae⟩:=XA l;have ao:=ab.length_eq;constructor
 ·intro h;have e:I0 l=ql l.length:=by
   refine List.ext_getElem (by simp [ql,ao]) fun j a b=>?_;have:=h j a;rw [rr a] at this;rw [this];simp [ql]
  rw [KA,←e];exact ab.symm
 ·intro h;have e:I0 l=ql l.length:=by
   refine List.Perm.eq_of_pairwise (le:=fun (a b:Int)=>a≤b) (fun a b _ _ x y=>by omega) ae ((XQ _).imp fun h=>by omega) (ab.trans (KA.1 h))
  intro j aw;rw [rr aw];simp only [e];simp [ql]
theorem Ve {eK:List Int} (ai:eK.length≤1000) {K:Option (Option (qb×Unit)×Int)}:∀ (m i:Nat),i≤eK.length→eK.length-i<m→(∀ j,j<i→ix eK (j:Int)=(j:Int)) →
  Iy eK (fun _=>K) m (i:Int)=if ∀ j:Nat,j<eK.length→ix eK (j:Int)=(j:Int) then K else some (none,16)
 | 0,_,_,h,_=>absurd h (by omega)
 | m+1,i,hi,hm,aw=>by
   rw [Iy];by_cases aR:i<eK.length
   ·rw [if_pos (decide_eq_true (by omega)),qC (by omega),Io i (by omega)];by_cases al:ix eK (i:Int)=(i:Int)
    ·rw [if_neg (by simpa using al)];refine Ve ai m (i+1) (by omega) (by omega) fun j gi=>?_;by_cases e:j=i
     ·rw [e];exact al
     ·exact aw j (by omega)
    ·rw [if_pos (decide_eq_true al),if_neg (fun h=>al (h i aR))]
   ·rw [if_neg (by simpa using by omega),if_pos fun j ao=>aw j (by omega)]
theorem PC {p:qb} (aB:p.1.length≤1000) {o:List Int} (ao:o.length≤12):rN p [o]=some (if rU p o=0 then (some (p,()),0) else (none,rU p o)):=by
 unfold rN rU;rw [YF aB,sb];by_cases h:rk p=0
 ·rw [if_neg (show ¬ decide (rk p≠0)=true by simpa using h)];rw [if_neg (show ¬ rk p≠0 by simpa using h)];obtain ⟨m,hm⟩:=QG;rw [show Hy p [o] (fun _=>some (some (p,()),0)) qj 0=Hy p [o] (fun _=>some (some (p,()),0)) (m+2) 0 by rw [hm],Hy.eq_2,if_pos (show decide ((0:Int)<(([o]:List (List Int)).length:Int))=true from rfl),qC ⟨sR _,show (0:Int)<(1:Int) by decide⟩,show ix [o] (0:Int)=o from rfl];rw [show PF o=some () from rfl,sb,show PE o=some (I0 o) from if_pos ao,sb];have ah:=XA o;have DG:=ah.1.length_eq;rw [show (0:Int)=((0:Nat):Int) from rfl,Ve (by omega) qj 0 (by omega) (Is (by omega)) (fun j h=>absurd h (by omega))];by_cases ab:qp o.length o
  ·rw [if_pos (XB.2 ab)];by_cases aI:o.length=p.1.length
   ·rw [if_neg (show ¬ decide ((o.length:Int)≠(p.1.length:Int))=true by simp [aI]),if_pos (by rw [←aI,if_pos ab]),show w (((0:Nat):Int)+1)=1 from rfl,Hy.eq_2];rfl
   ·have ft:¬ qp p.1.length o:=fun k=>aI k.1;rw [if_pos (show decide ((o.length:Int)≠(p.1.length:Int))=true from decide_eq_true (by omega)),if_neg ft];rfl
  ·have ft:¬ qp p.1.length o:=fun k=>ab (by rw [k.1];exact k);rw [if_neg (fun k=>ab (XB.1 k)),if_neg ft];rfl
 ·rw [if_pos (decide_eq_true h),if_pos h,if_neg h]
theorem Su {p:qb} (aB:p.1.length≤1000):rN p []=some (if rk p=0 then (some (p,()),0) else (none,rk p)):=by
 unfold rN;rw [YF aB,sb];by_cases h:rk p=0
 ·rw [if_neg (show ¬ decide (rk p≠0)=true by simpa using h),if_pos h];obtain ⟨m,hm⟩:=QG;rw [show Hy p [] (fun _=>some (some (p,()),0)) qj 0=Hy p [] (fun _=>some (some (p,()),0)) (m+2) 0 by rw [hm],Hy.eq_2];rfl
 ·rw [if_pos (decide_eq_true h),if_neg h]
structure q7 (p:qb):Prop where
 n:p.1.length=3∨p.1.length=5∨p.1.length=7
 s:∀ s∈p.1,qT s
 lo:0≤p.2.1
 le:p.2.1≤p.2.2
 hi:p.2.2≤50
theorem I6 {p:qb}:rk p=0↔q7 p:=by
 unfold rk;constructor
 ·intro h;split at h
  ·rename_i ab;split at h
   ·rename_i ae;exact ⟨ab,ae.1,ae.2.1,ae.2.2.1,ae.2.2.2⟩
   ·omega
  ·omega
 ·intro h;rw [if_pos h.n,if_pos ⟨h.s,h.lo,h.le,h.hi⟩]
theorem Lv {p:qb} {o:List Int}:rU p o=0↔q7 p∧qp p.1.length o:=by
 unfold rU;by_cases h:rk p=0
 ·rw [if_neg (by simpa using h)];by_cases ab:qp p.1.length o
  ·rw [if_pos ab];exact ⟨fun _=>⟨I6.1 h,ab⟩,fun _=>rfl⟩
  ·rw [if_neg ab];exact ⟨fun k=>by omega,fun k=>absurd k.2 ab⟩
 ·rw [if_pos h];exact ⟨fun k=>absurd k h,fun k=>I6.2 k.1⟩
theorem Hw {S:List qt} {o:List Int} (h:qp S.length o):Jj S o:=fun i hi=>h.2.2 _ (Jp (by omega))
end Go.Proofs.YtkoioidpbbbaiaaGreat.Ab
