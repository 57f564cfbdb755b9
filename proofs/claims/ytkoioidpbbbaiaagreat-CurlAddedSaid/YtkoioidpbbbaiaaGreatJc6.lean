
import Derived.Test.YtkoioidpbbbaiaaGreatJc5
import Derived.Sort.AssemblyPlain
import Derived.KernelRfl
import Derived.Test.YtkoioidpbbbaiaaGreatJc4
import Derived.Test.YtkoioidpbbbaiaaGreatProg
set_option linter.unusedSimpArgs false
set_option linter.unusedVariables false
set_option linter.unusedSectionVars false

open Array renaming length_toList→sY
open Bool renaming and_eq_true→sq,and_self→tW,and_true→tt
open Classical renaming choose_spec→uz
open Int renaming le_refl→sQ
open List renaming all_cons→tx,all_nil→tZ,any_eq_true→vF,append_assoc→sy,append_nil→sN,drop_eq_getElem_cons→s0,drop_length→vb,exists_cons_of_ne_nil→tL,filter_append→t_,filter_congr→ui,filter_cons_of_neg→uD,filter_cons_of_pos→u_,filter_eq_self→tH,filter_filter→uU,find?_eq_none→vG,flatMap_append→ug,getD_eq_getElem?_getD→sx,getElem?_append→sc,getElem?_append_right→ss,getElem?_eq_getElem→sj,getElem?_eq_some_iff→sa,getElem?_map→sm,getElem?_set_ne→se,getElem_map→tK,length_append→sA,length_cons→sL,length_eq_zero_iff→sP,length_erase_of_mem→tT,length_map→sX,length_nil→tV,map_append→sJ,map_cons→sG,map_set→tG,mem_append→te,mem_cons→sB,mem_filter→tf,mem_flatMap→tJ,mem_map→sD,mem_map_of_mem→tc,mem_range→sH,nil_append→tN,nodup_append→uj,nodup_cons→tU,not_mem_nil→tQ,set_append_right→uY,set_getElem_self→vC,set_set→sV,take_of_length_le→td
open Nat renaming add_assoc→tb,le_refl→sd,lt_succ_self→sv,zero_add→sC,zero_le→sE
open Option renaming bind_some→sb,map_eq_some_iff→r_,map_some→sf
namespace Go.Proofs.YtkoioidpbbbaiaaGreat.Ab
open Go
set_option maxRecDepth 20000
set_option maxHeartbeats 4000000
theorem adU (x:Int):qB 123 [h0 x] (B false):=by
 refine RG eG aef rfl rfl ?_;unfold Xu;conv=>whnf
 exact K4 (.inr rfl) rfl (by rw [decide_eq_false (show ¬ (x≠x) from fun h=>h rfl)];rfl)
theorem aea (x y:Int):qB 116 [h0 x,h0 y] (B (decide (x<y))):=by
 refine RG eG aee rfl rfl ?_;unfold Xt;conv=>whnf
 refine ⟨by first | rfl | simp only [tx,tZ,Np,Nx,Nq,Ns,Nr,Nt,Nz,Ny,K2,Nu,Nv,Nw,tt,tW],_,adU x,?_⟩
 conv=>whnf
 exact K4 (.inr rfl) rfl rfl
def IQ (d:Array Int):ar:=.cells (d.toList.map h0)
def Ld (id n:Nat):I:=.ref id 0 n none 1
theorem ab4 (d:Array Int) (x:Nat) (h:x<d.size):(d.toList.map h0)[x]?=some (h0 d[x]!):=by
 simp [h]
theorem ab5 (d:Array Int) (x:Nat) (v:Int):(d.toList.map h0).set x (h0 v)=(d.setIfInBounds x v).toList.map h0:=by
 simp [tG]
theorem swp_size (d:Array Int) (i j:Nat):(Sort.swp d i j).size=d.size:=by simp [Sort.swp]
theorem Qf {d:Array Int} {n:Nat} (x:Nat) (e:n=x) (h:x<d.size) {K:I→Prop} (k:K (h0 d[x]!)):eJ (d.toList.map h0) n K:=by
 subst e;exact Ew (ab4 d n h) k
theorem Zf {d:Array Int} {n:Nat} {v:Int} (x:Nat) (e:n=x) (h:x<d.size) {K:List I→Prop} (k:K ((d.setIfInBounds x v).toList.map h0)):jt (d.toList.map h0) n (h0 v) K:=by
 subst e;refine Gn (by simpa using h) ?_;rw [ab5];exact k
section
variable {H:List ar} {id lo:Nat} (bD:lo≤id)
include bD
theorem adT (d:Array Int) (a b:Nat) (a1:d.size≤1000) (cu:a≤b) (af:b≤d.size) (ag:H[id]?=some (IQ d)) :
  Sem Go.Proofs.Tryz.prog (.fn 110) [Ld id d.size,h0 a,h0 b] H lo (.tuple []) (H.set id (IQ (Sort.insertionSort Sort.ltInt d a b))):=by
 have aE:=(sa.1 ag).1;refine Vt eG WG rfl ⟨by simp,fun j ab ae=>by rw [se (by omega)]⟩ ?_;unfold SD;conv=>whnf
 have CI:Nat.ble lo id=true:=Nat.ble_eq_true_of_le bD;have gs:∀ c:ar,(H.set id c)[id]?=some c:=fun c=>by rw [List.getElem?_set_self aE]
 have KJ:∀ c e:ar,((H.set id c).set id e)[id]?=some e:=fun c e=>by rw [sV,gs]
 rw [Qt a (by omega)];refine .intro (fun m T H'=>∃ i g',a+1≤i∧(i≤b∨i=a+1)∧m=b+1-i∧g'.size=d.size∧Sort.insOuter Sort.ltInt a b i g'=Sort.insertionSort Sort.ltInt d a b∧T=qe 49 [(0,Ld id d.size),(1,h0 a),(2,h0 b),(6,h0 i)]∧H'=H.set id (IQ g')) (b-a) ⟨a+1,d,by omega,.inr rfl,by omega,rfl,rfl,rfl,?_⟩ ?_
 ·obtain ⟨ab,ae⟩:=sa.1 ag;rw [←ae,vC]
 rintro m T H' ⟨i,g',adt,adu,rfl,CT,he,rfl,rfl⟩;conv=>whnf
 refine HL (fun h=>?_) (fun h=>?_)
 ·conv=>whnf
  refine .intro (fun j T H'=>∃ I8:Array Int,j≤i∧I8.size=d.size∧Sort.insInner Sort.ltInt a j I8=Sort.insInner Sort.ltInt a i g'∧T=qe 49 [(0,Ld id d.size),(1,h0 a),(2,h0 b),(6,h0 i),(7,h0 j)]∧H'=H.set id (IQ I8)) i ⟨g',sd _,CT,rfl,rfl,rfl⟩ ?_;rintro j T H' ⟨I8,aw,R',Ml,rfl,rfl⟩;conv=>whnf
  by_cases aF:(a:Int)<(j:Int)
  ·rw [decide_eq_true aF];obtain ⟨q,rfl⟩:∃ q,j=q+1:=⟨j-1,by omega⟩;(have hw:IntKind.i64.wrap (((q+1:Nat):Int)-1)=(q:Int):=by rw [HU _ (by omega) (by omega)];omega);(conv=>whnf);refine ⟨by omega,?_⟩;(conv=>whnf);refine Ew (by first | exact gs _ | exact KJ _ _ | assumption) ?_
   (conv=>whnf);refine Qf (q+1) (by omega) (by omega) ?_;(conv=>whnf);rw [hw];refine ⟨by omega,?_⟩;(conv=>whnf);refine Ew (by first | exact gs _ | exact KJ _ _ | assumption) ?_
   (conv=>whnf);refine Qf (q) (by omega) (by omega) ?_;(conv=>whnf);refine ⟨by first | rfl | simp only [tx,tZ,Np,Nx,Nq,Ns,Nr,Nt,Nz,Ny,K2,Nu,Nv,Nw,tt,tW],_,aea I8[q+1]! I8[q]!,Hj,?_⟩
   (conv=>whnf);by_cases ba:I8[q+1]!<I8[q]!
   ·rw [decide_eq_true ba];(conv=>whnf);rw [hw];refine ⟨by omega,?_⟩;(conv=>whnf);refine Ew (by first | exact gs _ | exact KJ _ _ | assumption) ?_
    (conv=>whnf);refine Qf (q) (by omega) (by omega) ?_;(conv=>whnf);refine ⟨by omega,?_⟩;(conv=>whnf);refine Ew (by first | exact gs _ | exact KJ _ _ | assumption) ?_
    (conv=>whnf);refine Qf (q+1) (by omega) (by omega) ?_;(conv=>whnf);refine ⟨by omega,?_⟩;(conv=>whnf);rw [CI];(conv=>whnf);refine Ew (by first | exact gs _ | exact KJ _ _ | assumption) ?_
    (conv=>whnf);refine Zf (q+1) (by omega) (by first | omega | (simp only [Array.size_setIfInBounds];omega)) ?_
    (conv=>whnf);refine ⟨by omega,?_⟩;(conv=>whnf);rw [CI];(conv=>whnf);refine Ew (by first | exact gs _ | exact KJ _ _ | assumption) ?_
    (conv=>whnf);refine Zf (q) (by omega) (by first | omega | (simp only [Array.size_setIfInBounds];omega)) ?_
    (conv=>whnf);refine ⟨q,by omega,Sort.swp I8 (q+1) q,by omega,by rw [swp_size];exact R',?_,?_,?_⟩
    ·rw [←Ml,Sort.insInner,if_pos (by simp only [Sort.ltInt,sq,decide_eq_true_eq];exact ⟨by omega,ba⟩)]
    ·rw [hw];rfl
    ·simp only [sV];rfl
   ·rw [decide_eq_false ba];(conv=>whnf);have e:Sort.insInner Sort.ltInt a i g'=I8:=by
     rw [←Ml,Sort.insInner,if_neg (by simp only [Sort.ltInt,sq,decide_eq_true_eq];exact fun bE=>ba bE.2)]
    exact ⟨b+1-(i+1),by omega,i+1,I8,by omega,by omega,rfl,R',by rw [←he,Sort.insOuter.eq_1 _ a b i,if_pos (by omega),e],by rw [←Qt i (by omega)];rfl,rfl⟩
  ·rw [decide_eq_false aF];(conv=>whnf);have e:Sort.insInner Sort.ltInt a i g'=I8:=by
    rw [←Ml];cases j with
    | zero=>rfl
    | succ q=>rw [Sort.insInner,if_neg (by simp only [sq,decide_eq_true_eq];exact fun bE=>by omega)]
   exact ⟨b+1-(i+1),by omega,i+1,I8,by omega,by omega,rfl,R',by rw [←he,Sort.insOuter.eq_1 _ a b i,if_pos (by omega),e],by rw [←Qt i (by omega)];rfl,rfl⟩
 ·conv=>whnf
  have e:Sort.insertionSort Sort.ltInt d a b=g':=by
   rw [←he];unfold Sort.insOuter;rw [if_neg (by omega)]
  rw [e];exact ⟨.inl rfl,⟨by simp,fun j o aw=>.inr aw⟩,rfl⟩
theorem afO (d:Array Int) (J8:Int) (a1:d.size≤12) (ag:H[id]?=some (IQ d)) :
  Sem Go.Proofs.Tryz.prog (.fn 103) [Ld id d.size,h0 0,h0 d.size,h0 J8] H lo (.tuple []) (H.set id (IQ (Sort.insertionSort Sort.ltInt d 0 d.size))):=by
 refine rI eG WE rfl ⟨by simp,fun j ab ae=>by rw [se (by omega)]⟩ fun Q bp=>?_;unfold SB;obtain ⟨Ru,JO⟩:∃ c,OH=c:=⟨_,rfl⟩;rw [JO];conv=>whnf
 refine .intro (fun m T H'=>T=qe 134 [(0,Ld id d.size),(1,h0 0),(2,h0 d.size),(3,h0 J8),(8,B true),(9,B true)]∧H'=H) 0 ⟨rfl,rfl⟩ ?_;rintro m T H' ⟨rfl,rfl⟩;subst JO;unfold OH;obtain ⟨a7,cf⟩:∃ c,OG=c:=⟨_,rfl⟩;obtain ⟨Rt,LR⟩:∃ c,SC=c:=⟨_,rfl⟩;rw [cf,LR];conv=>whnf
 rw [show IntKind.i64.wrap ((d.size:Int)-0)=(d.size:Int) by rw [HU _ (by omega) (by omega)];omega,decide_eq_true (show (d.size:Int)≤12 by omega)];conv=>whnf
 subst cf;unfold OG;conv=>whnf
 refine ⟨_,_,rF (adT bD d 0 d.size (by omega) (sE _) (sd _) ag),?_⟩;conv=>whnf
 exact bp _ _ _ ⟨.inr rfl,⟨rfl,fun j o aw=>.inr aw⟩,rfl⟩
end
theorem Zg (n:Int):IntKind.u64.wrap n=n % 18446744073709551616:=by simp [IntKind.wrap,IntKind.bits,IntKind.signed]
theorem ad_:((List.range 13).all fun n=>match Tj [] 79 [.int .u64 (n:Nat)] with | some v=>Jz 3 v (h0 (Sort.bitsLen n)) | none=>false)=true:=by kernel_rfl
theorem Pp (n:Nat) (h:n≤12):qB 79 [.int .u64 n] (h0 (Sort.bitsLen n)):=by
 have:=List.all_eq_true.1 ad_ n (sH.2 (by omega));split at this
 ·rename_i v ad;rw [Po _ _ _ this] at ad;exact aho (l:=[]) (by simp) ad
 ·cases this
theorem ahy {H:List ar} {id lo:Nat} (bD:lo≤id) (d:Array Int) (a1:d.size≤12) (ag:H[id]?=some (IQ d)) :
  Sem Go.Proofs.Tryz.prog (.fn 86) [Ld id d.size] H lo (.tuple []) (H.set id (IQ (Sort.insertionSort Sort.ltInt d 0 d.size))):=by
 refine rI eG WL rfl ⟨by simp,fun j ab ae=>by rw [se (by omega)]⟩ fun Q bp=>?_;unfold Tf;conv=>whnf
 rw [show IntKind.u64.wrap (d.size:Int)=(d.size:Int) by rw [Zg];omega];refine ⟨by first | rfl | simp only [tx,tZ,Np,Nx,Nq,Ns,Nr,Nt,Nz,Ny,K2,Nu,Nv,Nw,tt,tW],_,Pp d.size a1,?_⟩
 conv=>whnf
 refine ⟨_,_,rF (afO bD d (Sort.bitsLen d.size) a1 ag),?_⟩;conv=>whnf
 exact bp _ _ _ ⟨.inl rfl,⟨rfl,fun j o aw=>.inr aw⟩,rfl⟩

theorem Yr (l:List Int) (ao:l.length≤1000):Seq Tryz.prog 87 [.bS [.av (l.map h0) l.length .shared]] (l.map h0):=by
 intro L N qX hlen fq ai Y;obtain ⟨Z,LV,Lk⟩:=aht ai Y;have HM:(l.map h0).length=l.length:=by simp
 have VS:∀ j (h:j<l.length),Sem Tryz.prog (.yield L) [h0 l[j]] (qX j++Z j) 0 (.bool true) (qX (j+1)++Z (j+1)):=fun j aw=>by
  have:=Lk j (by rw [HM];exact aw);rw [tK] at this;exact this
 refine ⟨Z l.length,?_⟩;rw [HM];refine rI eG aev rfl (I0 ?_) fun Q bp=>?_
 ·have key:∀ j,j≤l.length→(qX 0++Y).length≤(qX j++Z j).length:=fun j=>by
   induction j with
   | zero=>intro _;rw [LV];exact sd _
   | succ j a8=>intro aw;exact Nat.le_trans (a8 (by omega)) (VS j (by omega)).1.1
  exact key l.length (sd _)
 unfold Yb;conv=>whnf
 refine .intro (fun m T H=>∃ j:Nat,j≤l.length∧m=l.length-j∧T=qe 16 [(0,.yield L),(5,.av (l.map h0) l.length .shared),(6,h0 (l.length:Int)),(7,h0 (j:Int))]∧H=qX j++Z j) l.length ⟨0,sE _,rfl,rfl,by rw [LV]⟩ ?_;rintro m T H ⟨j,aw,rfl,rfl,rfl⟩;conv=>whnf
 refine HL (fun KV=>?_) (fun KV=>?_)
 ·have aR:j<l.length:=by omega
  have af:0≤(j:Int)∧(j:Int)<(l.length:Int):=by omega
  conv=>whnf
  refine ⟨af,?_⟩;rw [rG h0 l (j:Int) af];conv=>whnf
  rw [rJ aR];refine ⟨_,_,rF (VS j aR),?_⟩;conv=>whnf
  refine ⟨l.length-(j+1),by omega,j+1,by omega,rfl,?_,rfl⟩;rw [show ((j+1:Nat):Int)=IntKind.i64.wrap ((j:Int)+1) by rw [HU _ (by omega) (by omega)];omega];rfl
 ·obtain rfl:j=l.length:=by omega
  conv=>whnf
  exact bp _ _ _ ⟨.inl rfl,lI.refl _,rfl⟩
def Ju (l:List Int):List Int:=(Sort.insertionSort Sort.ltInt l.toArray 0 l.length).toList
theorem V9 (lt:Int→Int→Bool) (d:Array Int) (a b:Nat):(Sort.insertionSort lt d a b).size=d.size:=by
 have kE:∀ (j:Nat) (d:Array Int),(Sort.insInner lt a j d).size=d.size:=fun j=>by
  induction j with
  | zero=>intro d;rfl
  | succ j a8 =>
    intro d;rw [Sort.insInner];split
    ·rw [a8,swp_size]
    ·rfl
 show (Sort.insOuter lt a b (a+1) d).size=d.size
 have:∀ (n i:Nat) (d:Array Int),b-i=n→(Sort.insOuter lt a b i d).size=d.size:=fun n=>by
  induction n with
  | zero=>intro i d h;rw [Sort.insOuter.eq_1,if_neg (by omega)]
  | succ n a8=>intro i d h;rw [Sort.insOuter.eq_1,if_pos (by omega),a8 _ _ (by omega),kE]
 exact this _ _ d rfl
section
variable {H:List ar} {lo:Nat}
theorem adQ:Sem Go.Proofs.Tryz.prog (.fn 110) [.av [] 0 .full,h0 0,h0 0] H lo (.tuple []) H:=by
 refine rI eG WG rfl (a'.refl _ _) fun Q bp=>?_;unfold SD;conv=>whnf
 refine .intro (fun m T H'=>T=qe 49 [(0,.av [] 0 .full),(1,h0 0),(2,h0 0),(6,h0 1)]∧H=H') 0 ⟨rfl,rfl⟩ ?_;rintro m T H' ⟨rfl,rfl⟩;conv=>whnf
 exact bp _ _ _ ⟨.inl rfl,⟨by simp,fun j o aw=>.inr aw⟩,rfl⟩
theorem afR {J8:Int}:Sem Go.Proofs.Tryz.prog (.fn 103) [.av [] 0 .full,h0 0,h0 0,h0 J8] H lo (.tuple []) H:=by
 refine rI eG WE rfl (a'.refl _ _) fun Q bp=>?_;unfold SB;obtain ⟨Ru,JO⟩:∃ c,OH=c:=⟨_,rfl⟩;rw [JO];conv=>whnf
 refine .intro (fun m T H'=>T=qe 134 [(0,.av [] 0 .full),(1,h0 0),(2,h0 0),(3,h0 J8),(8,B true),(9,B true)]∧H'=H) 0 ⟨rfl,rfl⟩ ?_;rintro m T H' ⟨rfl,rfl⟩;subst JO;unfold OH;obtain ⟨a7,cf⟩:∃ c,OG=c:=⟨_,rfl⟩;obtain ⟨Rt,LR⟩:∃ c,SC=c:=⟨_,rfl⟩;rw [cf,LR];conv=>whnf
 subst cf;unfold OG;conv=>whnf
 refine ⟨_,_,rF adQ,?_⟩;conv=>whnf
 exact bp _ _ _ ⟨.inr rfl,⟨rfl,fun j o aw=>.inr aw⟩,rfl⟩
theorem ahC:Sem Go.Proofs.Tryz.prog (.fn 86) [.av [] 0 .full] H lo (.tuple []) H:=by
 refine rI eG WL rfl (a'.refl _ _) fun Q bp=>?_;unfold Tf;conv=>whnf
 refine ⟨by first | rfl | simp only [tx,tZ,Np,Nx,Nq,Ns,Nr,Nt,Nz,Ny,K2,Nu,Nv,Nw,tt,tW],_,Pp 0 (by decide),?_⟩
 conv=>whnf
 refine ⟨_,_,rF afR,?_⟩;conv=>whnf
 exact bp _ _ _ ⟨.inl rfl,⟨by simp,fun j o aw=>.inr aw⟩,rfl⟩
end
def QC (l:List Int):Option (List Int):=if l.length≤12 then some (Ju l) else none
theorem TS {l v:List Int} (h:QC l=some v):qB 67 [.func 87 [] [.bS [.av (l.map h0) l.length .shared]]] (.av (v.map h0) v.length .shared):=by
 unfold QC at h;split at h
 ·rename_i ak;obtain rfl:=Option.some.inj h;by_cases aQ:l.length=0
  ·obtain rfl:=sP.1 aQ;have adM:Ju []=[]:=sP.1 (by unfold Ju;rw [sY,V9];rfl);rw [adM];have hk:[I.bS [.av (([]:List Int).map h0) ([]:List Int).length .shared]].all (cr 7)=true:=rfl;refine qR eG WI rfl (rU (fun _=>rfl) _ _ _) fun Q bp=>?_;unfold S2 X3;(conv=>whnf);refine ⟨_,_,Oc (p5 (Jr rfl hk) rfl) (Vj hk (Yr [] (by simp)) (by simp)) _ _,?_⟩;(conv=>whnf);refine ⟨_,_,rF ahC,?_⟩;(conv=>whnf);refine ⟨_,_,fun C=>rfl,?_⟩;(conv=>whnf);exact bp _ _ _ ⟨.inr rfl,_,rfl,_,yW rfl,rfl⟩
  replace ak:0<l.length∧l.length≤12:=⟨by omega,ak⟩;have hk:[I.bS [.av (l.map h0) l.length .shared]].all (cr 7)=true:=p5 (Iv (p5 (rU (fun _=>rfl) _ _ _) rfl)) rfl;have cH:=Vj hk (Yr l (by omega)) (by omega);have cp:=ahy (lo:=0) (id:=0) (sd 0) l.toArray (by simpa using ak.2) (H:=[IQ l.toArray]) rfl;obtain ⟨S,RQ⟩:∃ S,S=Sort.insertionSort Sort.ltInt l.toArray 0 l.toArray.size:=⟨_,rfl⟩;have ad:Ju l=S.toList:=by rw [RQ];unfold Ju;simp
  have bR:S.size=l.length:=by rw [RQ,V9];simp
  rw [←RQ] at cp;rw [ad];have bJ:l≠[]:=fun e=>by rw [e] at ak;exact absurd ak.1 (by decide)
  have adh:Pt l=.av (l.map h0) l.length (.uniq 1):=by
   cases l with
   | nil=>exact absurd rfl bJ
   | cons a l=>rfl
  rw [adh] at cH;refine qR eG WI rfl (rU (fun _=>rfl) _ _ _) fun Q bp=>?_;unfold S2;conv=>whnf
  refine ⟨_,_,Oc (p5 (Jr rfl hk) rfl) cH _ _,?_⟩;conv=>whnf
  refine .inl ⟨by omega,?_⟩;conv=>whnf
  have e1:ar.cells (l.map h0)=IQ l.toArray:=rfl;have b':I.ref 0 0 l.length none 1=Ld 0 l.toArray.size:=by unfold Ld;simp
  erw [e1];refine ⟨_,_,rF (by show Sem Tryz.prog (.fn 86) [I.ref 0 0 l.length none 1] [IQ l.toArray] 0 (.tuple []) [IQ S];rw [b'];exact cp),?_⟩;conv=>whnf
  have cI:rowOf [IQ S] (.ref 0 0 l.length none 1)=some (S.toList.map h0):=ahn rfl (bR.symm.trans sY.symm) fun _=>rfl;refine ⟨.av (S.toList.map h0) l.length .shared,[.dead],fun C=>?_,?_⟩
  ·show ((rowOf [IQ S] (.ref 0 0 l.length none 1)).bind fun row=>some (I.av row l.length .shared,[ar.dead]))=_;rw [cI];rfl
  conv=>whnf
  rw [show S.toList.length=l.length from sY.trans bR] at bp;exact bp _ _ _ ⟨.inr rfl,_,rfl,_,yW (rU (fun _=>rfl) _ _ _),rfl⟩
 ·cases h

noncomputable def Q7:gE :=
 .loop (some (qc false [0,2,5,2,10])) (p2 [p0 9 [.nc 8,.nc 7] (.bin .lss)] (.seq (.cond (.nc 9) .skip (.exit 0)) (.seq (.block 1 (p2 [p3 10 8,p1 5 10] (p2 [p3 11 1,p3 12 0,p3 13 5,rv 14 12 13 1,qi 15 14,p0 16 [.nc 11,.nc 15] (.call 6)] (.cond (.nc 16) (p2 [p1 17 5,p1 4 17] .ret) .skip)))) (qV [q2 18 8 1,p1 8 18]))))
noncomputable def aaE:gE :=
 p2 [qh 4 0] (.seq (p2 [p3 6 0,q3 7 6,qh 8 0] (.block 0 Q7)) (p2 [qh 4 (-1)] .ret))
theorem afo:qt Tryz.prog Rq 88=some (aaE,19,[.tmp 4]):=by kernel_rfl
def KC (s:p_) (f:(Int→Option Bool)) (p':Unit→Option Int):Nat→Int→Option Int
 | 0,_=>none
 | m+1,s1 =>
   if (decide (s1<(s.length:Int)))=true then
    qk (0≤s1∧s1<(s.length:Int)) <|
    (f (ix s s1)).bind fun aS =>
    if aS=true then
     some s1
    else
     KC s f p' m (w (s1+(1:Int)))
   else
    p' ()
def Pg (s:p_) (f:(Int→Option Bool)):Option Int :=
 KC s f (fun _ =>
   some (-1:Int)) qj (0:Int)
theorem aji {s:p_} {f:(Int→Option Bool)} {p':Unit→Option Int} {s1:Int} {Hl:FuncId} {rN:List I} (HB:HF rN) (J7:∀ (ry:Int) (r:Bool),f ry=some r→qB Hl ((h0 ry)::rN) (B r)) {v:Int} {Q:r1}   (jJ:qK [.tmp 4] Q (fun v=>(h0 v)) v) (rn:∀ (qb:List I),p' ()=some v→ra 19 [] qb→Q (.exit 0) qb []) {T:List I} (b0:eZ (qc false [0,2,5,2,10]) T=qe 19 [(0,(qS s .shared)),(1,(.func Hl [] rN)),(7,(h0 (s.length:Int))),(8,(h0 s1))]) (h:KC s f p' qj s1=some v) :
  dQ Tryz.prog Rq 88 0 none Q7 T [] Q:=by
 unfold Q7;refine wp_loop b0 ?_;refine .intro (fun m T H=>∃ (s1:Int),T=qe 19 [(0,(qS s .shared)),(1,(.func Hl [] rN)),(7,(h0 (s.length:Int))),(8,(h0 s1))]∧H=[]∧KC s f p' m s1=some v) qj ⟨s1,rfl,rfl,h⟩ ?_;clear h b0;rintro m T H ⟨s1,rfl,rfl,h⟩;cases m
 ·exact r0 h
 rename_i m;rw [KC.eq_2] at h;conv=>whnf
 refine bs h (fun gM h=>?_) fun gM h=>?_
 ·rw [gM];conv=>whnf
  refine qD h id fun gN h=>?_;rw [rG h0 s s1 gN];conv=>whnf
  obtain ⟨aS,qx,h⟩:=p9 h;refine ⟨_,_,call6 (bs:=((h0 (ix s s1))::rN)) (by simp only [sG,HB.iD,HB.cc];rfl) (by simp only [sG,HB.iD];exact (p5 rfl HB.Ue)) (J7 _ _ qx) rfl,?_⟩;conv=>whnf
  cases aS
  ·(conv=>whnf);replace h:=rr rfl h;exact ⟨m,sv m,(w (s1+(1:Int))),rfl,rfl,h⟩
  ·(conv=>whnf);replace h:=rq rfl h;exact p8 h jJ rfl rfl
 ·rw [gM];conv=>whnf
  exact rn  _ h ⟨rfl,rfl⟩
theorem ajj {s:p_} {f:(Int→Option Bool)} {Hl:FuncId} {rN:List I} (HB:HF rN) (J7:∀ (ry:Int) (r:Bool),f ry=some r→qB Hl ((h0 ry)::rN) (B r)) {v:Int} (h:Pg s f=some v):qB 88 [(.av (s.map h0) s.length .shared),(.func Hl [] rN)] (h0 v):=by
 refine qR eG afo rfl rfl fun Q bp=>?_;have jJ:qK [.tmp 4] Q (fun v=>(h0 v)) v:=fun T H bE=>bp _ T H bE;unfold Pg at h;unfold aaE;obtain ⟨HK,qJ⟩:∃ c,Q7=c:=⟨_,rfl⟩;rw [qJ];conv=>whnf
 subst qJ;refine aji HB J7 ?_ ?_ (by exact rfl) h
 ·exact fun T H bE=>jJ T H bE
 ·intro  qb h qo;obtain ⟨re,rfl⟩:=qo.ex;conv=>whnf
  exact p8 h jJ rfl rfl

noncomputable def aax:gE :=
 p2 [p0 4 [.cv (.bool false)] .mU] (p2 [p1 5 0,p1 6 1,p0 7 [.cv (.func 88 [] []),.nc 5,.nc 6] (.call 6),qE 8 7 0 .geq,p1 4 8] .ret)
theorem afh:qt Tryz.prog UT 73=some (aax,9,[.tmp 4]):=by kernel_rfl
def Pe (s:p_) (f:(Int→Option Bool)):Option Bool :=
 (Pg s f).bind fun aS =>
 some (decide ((0:Int)≤aS))
theorem ai_ {s:p_} {f:(Int→Option Bool)} {Hl:FuncId} {rN:List I} (HB:HF rN) (J7:∀ (ry:Int) (r:Bool),f ry=some r→qB Hl ((h0 ry)::rN) (B r)) {v:Bool} (h:Pe s f=some v):qB 73 [(.av (s.map h0) s.length .shared),(.func Hl [] rN)] (B v):=by
 refine qR eG afh rfl rfl fun Q bp=>?_;have jJ:qK [.tmp 4] Q (fun v=>(B v)) v:=fun T H bE=>bp _ T H bE;unfold Pe at h;unfold aax;conv=>whnf
 obtain ⟨aS,gM,h⟩:=p9 h;refine ⟨_,_,Rv (cs:=[(qS s .shared),(.func Hl [] rN)]) (bs:=[(qS s .shared),(.func Hl [] rN)]) (Ln rfl (Ln (HB.fn _ _) Oq)) (by rfl) (by exact (p5 (rU (fun _=>rfl) _ _ _) (p5 (HB.Xf _) rfl))) (ajj HB J7 gM) rfl,?_⟩;conv=>whnf
 exact p8 h jJ rfl rfl

noncomputable def aay:gE :=
 p2 [p0 4 [.cv (.bool false)] .mU] (p2 [p3 5 0,qi 6 1,qn 7 5 6 .lss,p1 8 7,cl 9 [.jq 0] 8 false .mU,cl 10 [.Bs 2] 8 false (.zE .one),cl 11 [.Bs 9,.Bs 10] 8 false (.bin .gtr),p0 12 [.Bs 8,.cv (.bool true),.Bs 11] .pick,p1 4 12] .ret)
theorem afi:qt Tryz.prog UU 74=some (aay,13,[.tmp 4]):=by kernel_rfl
def MW (n g9 a7:Int):Option Bool :=
 if (decide (n<g9))=true then
  some true
 else
  some (decide (a7<n))
theorem aja {n:Int} {g9:Int} {a7:Int} {v:Bool} (h:MW n g9 a7=some v):qB 74 [(h0 n),(.bS [(h0 g9)]),(.bS [(h0 a7)])] (B v):=by
 refine qR eG afi rfl rfl fun Q bp=>?_;have jJ:qK [.tmp 4] Q (fun v=>(B v)) v:=fun T H bE=>bp _ T H bE;unfold MW at h;unfold aay;conv=>whnf
 refine bs h (fun gM h=>?_) fun gM h=>?_
 ·rw [gM];conv=>whnf
  exact p8 h jJ rfl rfl
 ·rw [gM];conv=>whnf
  exact p8 h jJ rfl rfl

noncomputable def aam:gE :=
 p2 [p0 3 [.jq 0] .box,p0 4 [.jq 1] .box,p0 6 [.cv (.bool false)] .mU] (p2 [p1 7 2,p0 8 [.Bs 3,.Bs 4] (.zY 74 0 2),p0 9 [.cv (.func 73 [] []),.nc 7,.nc 8] (.call 6),p0 10 [.Bs 9] (.un .not),p1 6 10] .ret)
theorem ae7:qt Tryz.prog UI 50=some (aam,11,[.tmp 6]):=by kernel_rfl
def I5 (lo hi:Int) (l:p_):Option Bool :=
 (Pe l (fun ry=>MW ry lo hi)).bind fun aS =>
 some (!aS)
theorem LC {lo:Int} {hi:Int} {l:p_} {v:Bool} (h:I5 lo hi l=some v):qB 50 [(h0 lo),(h0 hi),(.av (l.map h0) l.length .shared)] (B v):=by
 refine qR eG ae7 rfl rfl fun Q bp=>?_;have jJ:qK [.tmp 6] Q (fun v=>(B v)) v:=fun T H bE=>bp _ T H bE;unfold I5 at h;unfold aam;conv=>whnf
 obtain ⟨aS,gM,h⟩:=p9 h;refine ⟨_,_,Rv (cs:=[(qS l .shared),(.func 74 [] [(.bS [(h0 lo)]),(.bS [(h0 hi)])])]) (bs:=[(qS l .shared),(.func 74 [] [(.bS [(h0 lo)]),(.bS [(h0 hi)])])]) (Ln rfl (Ln (ahx Oq (Ln (YA (cs:=[(h0 lo)]) (by first | exact qp.h | rfl | (simp [sc,I.settle];done)) rfl) (Ln (YA (cs:=[(h0 hi)]) (by first | exact qp.h | rfl | (simp [sc,I.settle];done)) rfl) Oq))) Oq)) (by rfl) (by exact (p5 (rU (fun _=>rfl) _ _ _) (p5 (Jr rfl (p5 (Iv (p5 rfl rfl)) (p5 (Iv (p5 rfl rfl)) rfl))) rfl))) (ai_ ⟨(p5 (Iv (p5 rfl rfl)) (p5 (Iv (p5 rfl rfl)) rfl)),by simp⟩ (fun _ _ aY=>aja aY) gM) rfl,?_⟩
 conv=>whnf
 exact p8 h jJ rfl rfl

noncomputable def aan:gE :=
 p2 [p0 1 [.jq 0] .box,p0 2 [.cv (.bool false)] .mU] (p2 [p0 3 [.nc 1] (.yM 0),qi 4 3,p0 5 [.Bs 4] (.yB 1 1 [.int .i64 0] [0]),p0 6 [.cv (.func 50 [] []),.cv (.int .i64 0),.cv (.int .i64 100),.nc 5] (.call 3),p0 7 [.Bs 6] (.un .not),p1 8 7,cl 9 [.Bs 1] 8 false (.yM 1),cl 10 [.Bs 9] 8 false (.zE .one),⟨some 11,[.Bs 10],some (8,false),none,.yB 1 1 [.int .i64 0] [0]⟩,⟨some 12,[.cv (.func 50 [] []),.cv (.int .i64 (-10)),.cv (.int .i64 10),.nc 11],some (8,false),none,.call 3⟩,cl 13 [.Bs 12] 8 false (.un .not),p0 14 [.Bs 8,.cv (.bool true),.Bs 13] .pick,p1 2 14] .ret)
theorem ae8:qt Tryz.prog UJ 51=some (aan,15,[.tmp 2]):=by kernel_rfl
def LD (s:(Int×Int)):Option Bool :=
 (I5 (0:Int) (100:Int) [s.1]).bind fun aS =>
 if aS=true then
  (I5 (-10:Int) (10:Int) [s.2]).bind fun bj =>
  some (!bj)
 else
  some true
theorem ZC {s:(Int×Int)} {v:Bool} (h:LD s=some v):qB 51 [(.agg [(h0 s.1),(h0 s.2)])] (B v):=by
 refine qR eG ae8 rfl rfl fun Q bp=>?_;have jJ:qK [.tmp 2] Q (fun v=>(B v)) v:=fun T H bE=>bp _ T H bE;unfold LD at h;unfold aan;conv=>whnf
 obtain ⟨aS,gM,h⟩:=p9 h;refine ⟨(p5 rfl (p5 rfl (p5 rfl rfl))),_,LC gM,?_⟩;conv=>whnf
 cases aS
 ·conv=>whnf
  replace h:=rr rfl h;exact p8 h jJ rfl rfl
 ·conv=>whnf
  replace h:=rq rfl h;obtain ⟨bj,gN,h⟩:=p9 h;refine ⟨(p5 rfl (p5 rfl (p5 rfl rfl))),_,LC gN,?_⟩;conv=>whnf
  exact p8 h jJ rfl rfl

noncomputable def QP:gE :=
 .loop (some (qc false [0,2,5,2,10])) (p2 [p0 9 [.nc 8,.nc 7] (.bin .lss)] (.seq (.cond (.nc 9) .skip (.exit 0)) (.seq (.block 1 (p2 [p3 10 8,p1 5 10] (p2 [p3 11 1,p3 12 0,p3 13 5,rv 14 12 13 2,p0 15 [.Bs 14] (.zE (.str 2)),p0 16 [.nc 11,.nc 15] (.call 6)] (.cond (.nc 16) (p2 [p1 17 5,p1 4 17] .ret) .skip)))) (qV [q2 18 8 1,p1 8 18]))))
noncomputable def Z1:gE :=
 p2 [qh 4 0] (.seq (p2 [p3 6 0,q3 7 6,qh 8 0] (.block 0 QP)) (p2 [qh 4 (-1)] .ret))
theorem aeK:qt Tryz.prog Rc 101=some (Z1,19,[.tmp 4]):=by kernel_rfl
def MH (s:qd) (f:((Int×Int)→Option Bool)) (p':Unit→Option Int):Nat→Int→Option Int
 | 0,_=>none
 | m+1,s1 =>
   if (decide (s1<(s.length:Int)))=true then
    qk (0≤s1∧s1<(s.length:Int)) <|
    (f (ix s s1)).bind fun aS =>
    if aS=true then
     some s1
    else
     MH s f p' m (w (s1+(1:Int)))
   else
    p' ()
def Qu (s:qd) (f:((Int×Int)→Option Bool)):Option Int :=
 MH s f (fun _ =>
   some (-1:Int)) qj (0:Int)
theorem ail {s:qd} {f:((Int×Int)→Option Bool)} {p':Unit→Option Int} {s1:Int} {Hl:FuncId} {rN:List I} (HB:HF rN) (J7:∀ (ry:(Int×Int)) (r:Bool),f ry=some r→qB Hl ((.agg [(h0 ry.1),(h0 ry.2)])::rN) (B r)) {v:Int} {Q:r1}   (jJ:qK [.tmp 4] Q (fun v=>(h0 v)) v) (rn:∀ (qb:List I),p' ()=some v→ra 19 [] qb→Q (.exit 0) qb []) {T:List I} (b0:eZ (qc false [0,2,5,2,10]) T=qe 19 [(0,(qv s .shared)),(1,(.func Hl [] rN)),(7,(h0 (s.length:Int))),(8,(h0 s1))]) (h:MH s f p' qj s1=some v) :
  dQ Tryz.prog Rc 101 0 none QP T [] Q:=by
 unfold QP;refine wp_loop b0 ?_;refine .intro (fun m T H=>∃ (s1:Int),T=qe 19 [(0,(qv s .shared)),(1,(.func Hl [] rN)),(7,(h0 (s.length:Int))),(8,(h0 s1))]∧H=[]∧MH s f p' m s1=some v) qj ⟨s1,rfl,rfl,h⟩ ?_;clear h b0;rintro m T H ⟨s1,rfl,rfl,h⟩;cases m
 ·exact r0 h
 rename_i m;rw [MH.eq_2] at h;conv=>whnf
 refine bs h (fun gM h=>?_) fun gM h=>?_
 ·rw [gM];conv=>whnf
  refine qD h id fun gN h=>?_;rw [r6 p7 2 q' s s1 gN];conv=>whnf
  obtain ⟨aS,qx,h⟩:=p9 h;refine ⟨_,_,call6 (bs:=((.agg [(h0 (ix s s1).1),(h0 (ix s s1).2)])::rN)) (by simp only [sG,HB.iD,HB.cc];rfl) (by simp only [sG,HB.iD];exact (p5 (H6 (p5 rfl (p5 rfl rfl))) HB.Ue)) (J7 _ _ qx) rfl,?_⟩;conv=>whnf
  cases aS
  ·(conv=>whnf);replace h:=rr rfl h;exact ⟨m,sv m,(w (s1+(1:Int))),rfl,rfl,h⟩
  ·(conv=>whnf);replace h:=rq rfl h;exact p8 h jJ rfl rfl
 ·rw [gM];conv=>whnf
  exact rn  _ h ⟨rfl,rfl⟩
theorem aim {s:qd} {f:((Int×Int)→Option Bool)} {Hl:FuncId} {rN:List I} (HB:HF rN) (J7:∀ (ry:(Int×Int)) (r:Bool),f ry=some r→qB Hl ((.agg [(h0 ry.1),(h0 ry.2)])::rN) (B r)) {v:Int} (h:Qu s f=some v):qB 101 [(.av (s.flatMap p7) s.length .shared),(.func Hl [] rN)] (h0 v):=by
 refine qR eG aeK rfl rfl fun Q bp=>?_;have jJ:qK [.tmp 4] Q (fun v=>(h0 v)) v:=fun T H bE=>bp _ T H bE;unfold Qu at h;unfold Z1;obtain ⟨HK,qJ⟩:∃ c,QP=c:=⟨_,rfl⟩;rw [qJ];conv=>whnf
 subst qJ;refine ail HB J7 ?_ ?_ (by exact rfl) h
 ·exact fun T H bE=>jJ T H bE
 ·intro  qb h qo;obtain ⟨re,rfl⟩:=qo.ex;conv=>whnf
  exact p8 h jJ rfl rfl

noncomputable def aaD:gE :=
 p2 [p0 4 [.cv (.bool false)] .mU] (p2 [p1 5 0,p1 6 1,p0 7 [.cv (.func 101 [] []),.nc 5,.nc 6] (.call 6),qE 8 7 0 .geq,p1 4 8] .ret)
theorem afn:qt Tryz.prog UZ 84=some (aaD,9,[.tmp 4]):=by kernel_rfl
def Pf (s:qd) (f:((Int×Int)→Option Bool)):Option Bool :=
 (Qu s f).bind fun aS =>
 some (decide ((0:Int)≤aS))
theorem ajh {s:qd} {f:((Int×Int)→Option Bool)} {Hl:FuncId} {rN:List I} (HB:HF rN) (J7:∀ (ry:(Int×Int)) (r:Bool),f ry=some r→qB Hl ((.agg [(h0 ry.1),(h0 ry.2)])::rN) (B r)) {v:Bool} (h:Pf s f=some v):qB 84 [(.av (s.flatMap p7) s.length .shared),(.func Hl [] rN)] (B v):=by
 refine qR eG afn rfl rfl fun Q bp=>?_;have jJ:qK [.tmp 4] Q (fun v=>(B v)) v:=fun T H bE=>bp _ T H bE;unfold Pf at h;unfold aaD;conv=>whnf
 obtain ⟨aS,gM,h⟩:=p9 h;refine ⟨_,_,Rv (cs:=[(qv s .shared),(.func Hl [] rN)]) (bs:=[(qv s .shared),(.func Hl [] rN)]) (Ln rfl (Ln (HB.fn _ _) Oq)) (by rfl) (by exact (p5 (HD (fun _=>(p5 rfl (p5 rfl rfl))) _ _ _) (p5 (HB.Xf _) rfl))) (aim HB J7 gM) rfl,?_⟩;conv=>whnf
 exact p8 h jJ rfl rfl

noncomputable def Q4:gE :=
 .cond (.nc 3) (p2 [qh 2 6] .ret) (p2 [p0 18 [.nc 1] (.yM 0),qi 19 18,p0 20 [.cv (.func 84 [] []),.nc 19,.cv (.func 51 [] [])] (.call 3),p1 21 20,cl 22 [.nc 1] 21 false (.yM 1),cl 23 [.Bs 22] 21 false (.yM 0),cl 24 [.Bs 23] 21 false (.zE .one),cl 25 [.nc 1] 21 false (.yM 1),cl 26 [.Bs 25] 21 false (.yM 1),cl 27 [.Bs 26] 21 false (.zE .one),⟨some 28,[.Bs 24,.Bs 27],some (21,false),none,.yB 2 1 [.int .i64 0] [0,1]⟩,⟨some 29,[.cv (.func 50 [] []),.cv (.int .i64 0),.cv (.int .i64 50),.nc 28],some (21,false),none,.call 3⟩,cl 30 [.Bs 29] 21 false (.un .not),p0 31 [.Bs 21,.cv (.bool true),.Bs 30] .pick,p1 32 31,cl 33 [.nc 1] 32 false (.yM 1),cl 34 [.Bs 33] 32 false (.yM 0),cl 35 [.Bs 34] 32 false (.zE .one),cl 36 [.Bs 1] 32 false (.yM 1),cl 37 [.Bs 36] 32 false (.yM 1),cl 38 [.Bs 37] 32 false (.zE .one),cl 39 [.Bs 35,.Bs 38] 32 false (.bin .gtr),p0 40 [.Bs 32,.cv (.bool true),.Bs 39] .pick,p1 17 40] (.cond (.nc 17) (p2 [qh 2 3] .ret) .skip))
noncomputable def aau:gE :=
 p2 [p0 1 [.jq 0] .box,qh 2 0] (.seq (.block 0 (p2 [p0 4 [.nc 1] (.yM 0),qi 5 4,q3 6 5,p0 7 [.Bs 6] (.yB 1 1 [.int .i64 0] [0]),p0 8 [.cv (.func 50 [] []),.cv (.int .i64 3),.cv (.int .i64 7),.nc 7] (.call 3),p0 9 [.Bs 8] (.un .not),p1 10 9,cl 11 [.nc 1] 10 false (.yM 0),cl 12 [.Bs 11] 10 false (.zE .one),cl 13 [.jq 12] 10 false .zJ,cl 14 [.Bs 13,.cv (.int .i64 2)] 10 false (.bin .rem),cl 15 [.Bs 14,.cv (.int .i64 0)] 10 false (.bin .eql),p0 16 [.Bs 10,.cv (.bool true),.Bs 15] .pick,p1 3 16] Q4)) (p2 [qh 2 0] .ret))
theorem afe:qt Tryz.prog Rn 66=some (aau,41,[.tmp 2]):=by kernel_rfl
def N2 (p:(qd×(Int×Int))) (PI:Unit→Option Int) (dD:Bool):Option Int :=
 if dD=true then
  some (6:Int)
 else
  (Pf p.1 (fun ry=>LD ry)).bind fun bj =>
  if bj=true then
   some (3:Int)
  else
   (I5 (0:Int) (50:Int) [p.2.1,p.2.2]).bind fun eK =>
   if eK=true then
    if (decide (p.2.2<p.2.1))=true then
     some (3:Int)
    else
     PI ()
   else
    some (3:Int)
def Pc (p:(qd×(Int×Int))):Option Int :=
 (I5 (3:Int) (7:Int) [(p.1.length:Int)]).bind fun aS =>
 if aS=true then
  qk ((2:Int)≠0) <|
  N2 p (fun _ =>
    some (0:Int)) (decide (((p.1.length:Int).tmod (2:Int))=(0:Int)))
 else
  N2 p (fun _ =>
    some (0:Int)) true
theorem ZP {p:(qd×(Int×Int))} {PI:Unit→Option Int} {dD:Bool} {v:Int} {Q:r1}  {qb:List I}  (jJ:qK [.tmp 2] Q (fun v=>(h0 v)) v) (adx:∀ (bx:ar) (qb:List I),PI ()=some v→ra 41 [] qb→Q .normal qb [bx]) (qo:ra 41 [(1,(.ptr 0 0)),(3,(B dD))] qb) (h:N2 p PI dD=some v) :
  dQ Tryz.prog Rn 66 0 none Q4 qb [ar.cells [(qv p.1 .shared),(h0 p.2.1),(h0 p.2.2)]] Q:=by
 obtain ⟨re,rfl⟩:=qo.ex;unfold N2 at h;unfold Q4;conv=>whnf
 cases dD
 ·conv=>whnf
  replace h:=rr rfl h;obtain ⟨bj,qx,h⟩:=p9 h;refine ⟨(p5 (HD (fun _=>(p5 rfl (p5 rfl rfl))) _ _ _) (p5 (Jr rfl rfl) rfl)),_,ajh ⟨rfl,by simp⟩ (fun _ _ aY=>ZC aY) qx,?_⟩;conv=>whnf
  cases bj
  ·(conv=>whnf);replace h:=rr rfl h;obtain ⟨eK,qQ,h⟩:=p9 h;refine ⟨(p5 rfl (p5 rfl (p5 rfl rfl))),_,LC qQ,?_⟩;(conv=>whnf);cases eK
   ·(conv=>whnf);replace h:=rr rfl h;exact p8 h jJ rfl rfl
   ·(conv=>whnf);replace h:=rq rfl h;refine bs h (fun qA h=>?_) fun qA h=>?_
    ·rw [qA];(conv=>whnf);exact p8 h jJ rfl rfl
    ·rw [qA];(conv=>whnf);exact adx _ _ h ⟨rfl,rfl⟩
  ·(conv=>whnf);replace h:=rq rfl h;exact p8 h jJ rfl rfl
 ·conv=>whnf
  replace h:=rq rfl h;exact p8 h jJ rfl rfl
theorem Pd {p:(qd×(Int×Int))} {v:Int} (h:Pc p=some v):qB 66 [(.agg [(.av (p.1.flatMap p7) p.1.length .shared),(h0 p.2.1),(h0 p.2.2)])] (h0 v):=by
 refine qR eG afe rfl rfl fun Q bp=>?_;have jJ:qK [.tmp 2] Q (fun v=>(h0 v)) v:=fun T H bE=>bp _ T H bE;unfold Pc at h;unfold aau;obtain ⟨HK,qJ⟩:∃ c,Q4=c:=⟨_,rfl⟩;rw [qJ];conv=>whnf
 obtain ⟨aS,gM,h⟩:=p9 h;refine ⟨(p5 rfl (p5 rfl (p5 rfl rfl))),_,LC gM,?_⟩;conv=>whnf
 cases aS
 ·conv=>whnf
  replace h:=rr rfl h;subst qJ;refine ZP ?_ ?_ (by exact ⟨rfl,rfl⟩) h
  ·exact fun T H bE=>jJ T H bE
  ·intro bx qb h qo;obtain ⟨re,rfl⟩:=qo.ex;(conv=>whnf);exact p8 h jJ rfl rfl
 ·conv=>whnf
  replace h:=rq rfl h;refine qD h id fun gN h=>?_;conv=>whnf
  subst qJ;refine ZP ?_ ?_ (by exact ⟨rfl,rfl⟩) h
  ·exact fun T H bE=>jJ T H bE
  ·intro bx qb h qo;obtain ⟨re,rfl⟩:=qo.ex;(conv=>whnf);exact p8 h jJ rfl rfl

noncomputable def aav:gE :=
 p2 [p0 1 [.jq 0] .box,p0 2 [.cv .a0] .mU] (p2 [p0 3 [.Bs 1] (.zY 87 0 1),p1 2 3] .ret)
theorem aff:qt Tryz.prog UR 68=some (aav,4,[.tmp 2]):=by kernel_rfl
def QD (s:p_):Option Unit :=
 some ()
theorem TT {s:p_} {v:Unit} (h:QD s=some v):qB 68 [(.av (s.map h0) s.length .shared)] (.func 87 [] [(.bS [(.av (s.map h0) s.length .shared)])]):=by
 refine qR eG aff rfl (Jr rfl (p5 (Iv (p5 (rU (fun _=>rfl) _ _ _) rfl)) rfl)) fun Q bp=>?_;have jJ:qK [.tmp 2] Q (fun v=>(.func 87 [] [(.bS [(qS s .shared)])])) v:=fun T H bE=>bp _ T H bE;unfold QD at h;unfold aav;conv=>whnf
 exact jJ _ _ ⟨.inr rfl,_,rfl,_,(Vy I2 (rM (VA (l:=[(qS s .shared)]) (by first | exact qp.h | rfl | (simp [sc,I.settle];done)) (p5 (rU (fun _=>rfl) _ _ _) rfl)) I2)),rfl⟩

def N6 (x:((qd×(Int×Int))×Unit)):List I:=[(qv x.1.1 .shared),(h0 x.1.2.1),(h0 x.1.2.2),Hr]
instance {d:Nat} {x:((qd×(Int×Int))×Unit)}:qa (d+2) (N6 x):=⟨(inferInstance:qa (d+2) [(qv x.1.1 .shared),(h0 x.1.2.1),(h0 x.1.2.2),Hr]).pl⟩
noncomputable def KE:gE :=
 .loop (some (qc false [2,1,5,1,8,3,6,3,19])) (p2 [p0 29 [.nc 28,.nc 27] (.bin .lss)] (.seq (.cond (.nc 29) .skip (.exit 2)) (.seq (.block 3 (p2 [p3 30 28,p0 31 [.nc 26,.nc 28] (.kY 1),qi 32 31,p1 10 30,p1 11 32] (p2 [p1 33 11,p1 34 10,qn 35 33 34 .neq] (.cond (.nc 35) (p2 [p0 4 [.cv .eI] .mU,qh 5 16] .ret) .skip)))) (qV [q2 36 28 1,p1 28 36]))))
noncomputable def JL:gE :=
 .loop (some (qc false [2,1,14,3,28])) (p2 [p0 20 [.nc 19,.nc 18] (.bin .lss)] (.seq (.cond (.nc 20) .skip (.exit 0)) (.seq (.block 1 (p2 [p0 21 [.nc 17,.nc 19] (.kY 1),qi 22 21,p1 8 22] (p2 [p3 23 8,p0 24 [.cv (.func 68 [] []),.nc 23] (.call 3),p0 25 [.cv (.func 67 [] []),.nc 24] (.call 3),p1 9 25] (.seq (p2 [p1 26 9,p0 27 [.nc 26] .zJ,qh 28 0] (.block 2 KE)) (p2 [p1 37 8,q3 38 37,p0 39 [.nc 2] (.yM 0),qi 40 39,q3 41 40,qn 42 38 41 .neq] (.cond (.nc 42) (p2 [p0 4 [.cv .eI] .mU,qh 5 16] .ret) .skip)))))) (qV [q2 43 19 1,p1 19 43]))))
noncomputable def N4:gE :=
 p2 [p0 2 [.jq 0] .box,p0 4 [.cv .eI] .mU,qh 5 0] (.seq (p2 [p0 12 [.nc 2] (.zE (.str 3)),p0 13 [.cv (.func 66 [] []),.nc 12] (.call 3),p1 6 13] (p2 [p3 14 6,qE 15 14 0 .neq] (.cond (.nc 15) (p2 [p1 16 6,p0 4 [.cv .eI] .mU,p1 5 16] .ret) .skip))) (.seq (p2 [p1 17 1,p0 18 [.nc 17] .zJ,qh 19 0] (.block 0 JL)) (p2 [p0 44 [.Bs 2] (.zE (.str 3)),p0 45 [] .zZ,p0 46 [.Bs 44,.Bs 45] (.build [.av [] 0 .full,.int .i64 0,.int .i64 0,.a0] [(0,3),(3,1)]),p0 47 [.jq 46] .box,p1 4 47,qh 5 0] .ret)))
theorem Oo:qt Tryz.prog Le 40=some (N4,48,[.tmp 4,.tmp 5]):=by kernel_rfl
def IM (eK:p_) (rm:Unit→Option ((Option ((qd×(Int×Int))×Unit))×Int)):Nat→Int→Option ((Option ((qd×(Int×Int))×Unit))×Int)
 | 0,_=>none
 | m+1,s2 =>
   if (decide (s2<(eK.length:Int)))=true then
    qk (0≤s2∧s2<(eK.length:Int)) <|
    if (decide ((ix eK s2)≠s2))=true then
     some (none,(16:Int))
    else
     IM eK rm m (w (s2+(1:Int)))
   else
    rm ()
def HE (p:(qd×(Int×Int))) (qg:LK) (p':Unit→Option ((Option ((qd×(Int×Int))×Unit))×Int)):Nat→Int→Option ((Option ((qd×(Int×Int))×Unit))×Int)
 | 0,_=>none
 | m+1,s1 =>
   if (decide (s1<(qg.length:Int)))=true then
    qk (0≤s1∧s1<(qg.length:Int)) <|
    (QD (ix qg s1)).bind fun bj =>
    (QC (ix qg s1)).bind fun eK =>
    IM eK (fun _ =>
      if (decide (((ix qg s1).length:Int)≠(p.1.length:Int)))=true then
       some (none,(16:Int))
      else
       HE p qg p' m (w (s1+(1:Int)))) qj (0:Int)
   else
    p' ()
def rV (p:(qd×(Int×Int))) (qg:LK):Option ((Option ((qd×(Int×Int))×Unit))×Int) :=
 (Pc p).bind fun aS =>
 if (decide (aS≠(0:Int)))=true then
  some (none,aS)
 else
  HE p qg (fun _ =>
    some ((some (p,())),(0:Int))) qj (0:Int)
theorem aiN {eK:p_} {rm:Unit→Option ((Option ((qd×(Int×Int))×Unit))×Int)} {s2:Int} {p:(qd×(Int×Int))} {qg:LK} {s1:Int} {v:((Option ((qd×(Int×Int))×Unit))×Int)} {Q:r1}   (jJ:qK [.tmp 4,.tmp 5] Q (fun v=>(.tuple [(Nl N6 v.1),(h0 v.2)])) v) (KW:∀ (qb:List I),rm ()=some v→ra 48 [(2,(.ptr 0 0)),(8,(qS (ix qg s1) .shared)),(17,(.av (qg.map oX) qg.length .shared)),(18,(h0 (qg.length:Int))),(19,(h0 s1))] qb→Q (.exit 2) qb [ar.cells [(qv p.1 .shared),(h0 p.2.1),(h0 p.2.2)]]) {T:List I} (b0:eZ (qc false [2,1,5,1,8,3,6,3,19]) T=qe 48 [(2,(.ptr 0 0)),(8,(qS (ix qg s1) .shared)),(17,(.av (qg.map oX) qg.length .shared)),(18,(h0 (qg.length:Int))),(19,(h0 s1)),(26,(qS eK .shared)),(27,(h0 (eK.length:Int))),(28,(h0 s2))]) (h:IM eK rm qj s2=some v) :
  dQ Tryz.prog Le 40 0 none KE T [ar.cells [(qv p.1 .shared),(h0 p.2.1),(h0 p.2.2)]] Q:=by
 unfold KE;refine wp_loop b0 ?_;refine .intro (fun m T H=>∃ (s2:Int),T=qe 48 [(2,(.ptr 0 0)),(8,(qS (ix qg s1) .shared)),(17,(.av (qg.map oX) qg.length .shared)),(18,(h0 (qg.length:Int))),(19,(h0 s1)),(26,(qS eK .shared)),(27,(h0 (eK.length:Int))),(28,(h0 s2))]∧H=[ar.cells [(qv p.1 .shared),(h0 p.2.1),(h0 p.2.2)]]∧IM eK rm m s2=some v) qj ⟨s2,rfl,rfl,h⟩ ?_;clear h b0;rintro m T H ⟨s2,rfl,rfl,h⟩;cases m
 ·exact r0 h
 rename_i m;rw [IM.eq_2] at h;conv=>whnf
 refine bs h (fun qP h=>?_) fun qP h=>?_
 ·rw [qP];conv=>whnf
  refine qD h id fun qT h=>?_;rw [rG h0 eK s2 qT];conv=>whnf
  refine bs h (fun qN h=>?_) fun qN h=>?_
  ·rw [qN];(conv=>whnf);exact p8 h jJ rfl rfl
  ·rw [qN];(conv=>whnf);exact ⟨m,sv m,(w (s2+(1:Int))),rfl,rfl,h⟩
 ·rw [qP];conv=>whnf
  exact KW  _ h ⟨rfl,rfl⟩
theorem aiM {p:(qd×(Int×Int))} {qg:LK} {p':Unit→Option ((Option ((qd×(Int×Int))×Unit))×Int)} {s1:Int} {v:((Option ((qd×(Int×Int))×Unit))×Int)} {Q:r1}   (jJ:qK [.tmp 4,.tmp 5] Q (fun v=>(.tuple [(Nl N6 v.1),(h0 v.2)])) v) (rn:∀ (qb:List I),p' ()=some v→ra 48 [(2,(.ptr 0 0))] qb→Q (.exit 0) qb [ar.cells [(qv p.1 .shared),(h0 p.2.1),(h0 p.2.2)]]) {T:List I} (b0:eZ (qc false [2,1,14,3,28]) T=qe 48 [(2,(.ptr 0 0)),(17,(.av (qg.map oX) qg.length .shared)),(18,(h0 (qg.length:Int))),(19,(h0 s1))]) (h:HE p qg p' qj s1=some v) :
  dQ Tryz.prog Le 40 0 none JL T [ar.cells [(qv p.1 .shared),(h0 p.2.1),(h0 p.2.2)]] Q:=by
 unfold JL;obtain ⟨HK,qJ⟩:∃ c,KE=c:=⟨_,rfl⟩;rw [qJ];refine wp_loop b0 ?_;refine .intro (fun m T H=>∃ (s1:Int),T=qe 48 [(2,(.ptr 0 0)),(17,(.av (qg.map oX) qg.length .shared)),(18,(h0 (qg.length:Int))),(19,(h0 s1))]∧H=[ar.cells [(qv p.1 .shared),(h0 p.2.1),(h0 p.2.2)]]∧HE p qg p' m s1=some v) qj ⟨s1,rfl,rfl,h⟩ ?_;clear h b0;rintro m T H ⟨s1,rfl,rfl,h⟩;cases m
 ·exact r0 h
 rename_i m;rw [HE.eq_2] at h;conv=>whnf
 refine bs h (fun qx h=>?_) fun qx h=>?_
 ·rw [qx];conv=>whnf
  refine qD h id fun qQ h=>?_;rw [rG oX qg s1 qQ];conv=>whnf
  obtain ⟨bj,qA,h⟩:=p9 h;refine ⟨qa.pl,_,TT qA,?_⟩;conv=>whnf
  obtain ⟨eK,q5,h⟩:=p9 h;refine ⟨(p5 (Jr rfl (p5 (Iv (p5 (rU (fun _=>rfl) _ _ _) rfl)) rfl)) rfl),_,TS  q5,?_⟩;conv=>whnf
  subst qJ;refine aiN ?_ ?_ (by exact rfl) h
  ·exact fun T H bE=>jJ T H bE
  ·intro  qb h qo;obtain ⟨re,rfl⟩:=qo.ex;(conv=>whnf);refine bs h (fun r3 h=>?_) fun r3 h=>?_
   ·rw [r3];(conv=>whnf);exact p8 h jJ rfl rfl
   ·rw [r3];(conv=>whnf);exact ⟨m,sv m,(w (s1+(1:Int))),rfl,rfl,h⟩
 ·rw [qx];conv=>whnf
  exact rn  _ h ⟨rfl,rfl⟩
theorem N0 {p:(qd×(Int×Int))} {qg:LK} {v:((Option ((qd×(Int×Int))×Unit))×Int)} (h:rV p qg=some v):qB 40 [(.agg [(.av (p.1.flatMap p7) p.1.length .shared),(h0 p.2.1),(h0 p.2.2)]),(.av (qg.map oX) qg.length .shared)] (.tuple [(Nl N6 v.1),(h0 v.2)]):=by
 refine qR eG Oo rfl (JG (p5 (Xj (fun _=>(p5 (HD (fun _=>(p5 rfl (p5 rfl rfl))) _ _ _) (p5 rfl (p5 rfl (p5 rfl rfl))))) _) (p5 rfl rfl))) fun Q bp=>?_;have jJ:qK [.tmp 4,.tmp 5] Q (fun v=>(.tuple [(Nl N6 v.1),(h0 v.2)])) v:=fun T H bE=>bp _ T H bE;unfold rV at h;unfold N4;obtain ⟨Lh,rb⟩:∃ c,JL=c:=⟨_,rfl⟩;rw [rb];conv=>whnf
 obtain ⟨aS,gM,h⟩:=p9 h;refine ⟨qa.pl,_,Pd gM,?_⟩;conv=>whnf
 refine bs h (fun gN h=>?_) fun gN h=>?_
 ·rw [gN];conv=>whnf
  exact p8 h jJ rfl rfl
 ·rw [gN];conv=>whnf
  subst rb;refine aiM ?_ ?_ (by exact rfl) h
  ·exact fun T H bE=>jJ T H bE
  ·intro  qb h qo;obtain ⟨re,rfl⟩:=qo.ex;(conv=>whnf);obtain rfl:=Option.some.inj h;exact jJ _ _ ⟨.inr rfl,_,rfl,_,(Oe (rM (acO (l:=[(qv p.1 .shared),(h0 p.2.1),(h0 p.2.2),(.map 1)]) (by first | exact qp.h | rfl | (simp [sc,I.settle];done)) (rM (yW (HD (fun _=>(p5 rfl (p5 rfl rfl))) _ _ _)) (rM (yW rfl) (rM (yW rfl) (rM (Vz (by simp) (by simp)) I2))))) (rM (yW rfl) I2))),rfl⟩
end Go.Proofs.YtkoioidpbbbaiaaGreat.Ab


namespace Go.Proofs.YtkoioidpbbbaiaaGreat.Ab
open Go
section
variable {P:Program}
theorem call9 {k:FuncId} {xs bs:List I} {H:List ar} {lo:Nat} {v:I} (af:(xs.map I.gw).map I.cc=bs) (aB:(xs.map I.gw).all (cr 8)=true) (h:nn P k bs v):oV P 9 lo (.fn k) xs H v.cc H:=by
 subst af;refine ⟨_,EB h.1,?_⟩;simp only [eQ,aB,EA,sb,yW h.2,sf]
theorem ahs {k:FuncId} {args:List I} {H H':List ar} {lo:Nat} {r:I} (h:Sem P (.fn k) (args.map I.gw) H lo r H'):Sem P (.fn k) args H lo r H':=by
 obtain ⟨aQ,ab,ae⟩:=h;exact ⟨aQ,ab,fun B aa J S w vs ag aI ad=>ae B aa J S w vs ag aI ad.gw⟩
theorem abU {k:FuncId} {args:List I} {es:List (Nat×I×I)} {clock:Nat} {D:List ar} (cu:(args.map I.gw).all (cr 8)=true) (J6:∀ (j i:Nat) (k v:I),es[j]?=some (i,k,v)→cr 8 k=true∧cr 8 v=true)
  (h:Sem P (.fn k) (args.map I.gw) [] 0 (.map 0) (.map es clock::D)) (H:List ar) (lo:Nat):oV P 2 lo (.fn k) args H (.map H.length) (H++[.map es clock]):=by
 refine ⟨_,EB (ahs (ahq cu J6 h H)),?_⟩;have e1:Co H.length (.map H.length)=some H.length:=by simp [Co,yU]
 have b':(H++[ar.map es clock])[H.length]?=some (.map es clock):=by simp
 have dA:bM (H++[ar.map es clock]) H.length H.length H.length 8 (.map H.length)=some (.map H.length):=by simp [bM]
 have gb:DM 2 H.length (H++[ar.map es clock]) (.map H.length)=some H.length:=e1;simp only [eQ,EA,sb,gb,b',dA,sd,if_true,WR fun j i k v aw=>⟨yW (J6 j i k v aw).1,yW (J6 j i k v aw).2⟩]
def I.MD:I→I
 | .av c n (.own _)=>.av c n .shared
 | v=>v
variable {J:List Nat} {S:Nat→Nat→Prop} {w:World} {aa:Nat→Option aH}
theorem ahc {u:I} {v:Value} (h:Rel J S w u v):Rel J S w u.MD v:=by
 unfold I.MD;split
 ·rename_i c n z;exact h.view rfl
 ·exact h
theorem afN {l:aH} {u:I} {v:Value} (h:aU aa J S w l u v):aU aa J S w l u.MD v:=by
 unfold I.MD;split
 ·exact aU.b4 rfl
 ·exact h
theorem ahZ {bA:Nat→aH} {T:List I} {bc:List Value} (h:a5 bA aa J S w T bc):a5 bA aa J S w (T.map I.MD) bc :=
 ⟨by simpa using h.len,fun i u v hu ad=>by
  rw [sm] at hu;simp only [r_] at hu;obtain ⟨x,aj,rfl⟩:=hu;exact ahc (h.rel i x v aj ad),fun i u v hu ad=>by
  rw [sm] at hu;simp only [r_] at hu
  obtain ⟨x,aj,rfl⟩:=hu;exact afN (h.own i x v aj ad)⟩
theorem ahr {k:FuncId} {args:List I} {H H':List ar} {lo:Nat} {r:I} (h:Sem P (.fn k) (args.map I.MD) H lo r H'):Sem P (.fn k) args H lo r H':=by
 obtain ⟨aQ,ab,ae⟩:=h;exact ⟨aQ,ab,fun B aa J S w vs ag aI ad=>ae B aa J S w vs ag aI (ahZ ad)⟩
theorem af1 {k:FuncId} {args:List I} {v:I} (h:nn P k (args.map I.MD) v):nn P k args v:=⟨ahr h.1,h.2⟩
end
end Go.Proofs.YtkoioidpbbbaiaaGreat.Ab


namespace Go.Proofs.YtkoioidpbbbaiaaGreat.Ab
open Go
set_option maxRecDepth 20000
set_option maxHeartbeats 4000000
abbrev qf:=(List (Int×Int))×(Int×Int)
abbrev rQ (p:qf):ar:=ar.cells [(.av (p.1.flatMap p7) p.1.length .shared),(h0 p.2.1),(h0 p.2.2)]
abbrev M3 (p:qf) (qg:List (List Int)):List I:=[(.agg [(.av (p.1.flatMap p7) p.1.length .shared),(h0 p.2.1),(h0 p.2.2)]),(.av (qg.map oX) qg.length .shared)]
theorem aiO {eK:(List Int)} {rm:Unit→Option ((Option (((List (Int×Int))×(Int×Int))×Unit))×Int)} {s2:Int} {p:((List (Int×Int))×(Int×Int))} {qg:(List (List Int))} {s1:Int} {v:((Option (((List (Int×Int))×(Int×Int))×Unit))×Int)} {Q:cQ→List I→List ar→Prop}   (jJ:∀ (e:Int) (T:List I),v=(none,e)→rX [rQ p] T [.tmp 4,.tmp 5]=some [.eI,h0 e]→Q .ret T [rQ p]) (KW:∀ (qb:List I),rm ()=some v→ra 48 [(2,(.ptr 0 0)),(8,(.av ((ix qg s1).map h0) (ix qg s1).length .shared)),(17,(.av (qg.map oX) qg.length .shared)),(18,(h0 (qg.length:Int))),(19,(h0 s1))] qb→Q (.exit 2) qb [ar.cells [(.av (p.1.flatMap p7) p.1.length .shared),(h0 p.2.1),(h0 p.2.2)]]) {T:List I} (b0:eZ [false,false,true,false,false,false,false,false,true,false,false,false,false,false,false,false,false,true,true,true,false,false,false,false,false,false,true,true,true,false,false,false,false,false,false,false,false,false,false,false,false,false,false,false,false,false,false,false] T=qe 48 [(2,(.ptr 0 0)),(8,(.av ((ix qg s1).map h0) (ix qg s1).length .shared)),(17,(.av (qg.map oX) qg.length .shared)),(18,(h0 (qg.length:Int))),(19,(h0 s1)),(26,(.av (eK.map h0) eK.length .shared)),(27,(h0 (eK.length:Int))),(28,(h0 s2))]) (h:IM eK rm qj s2=some v) :
  dQ Tryz.prog Le 40 0 none KE T [ar.cells [(.av (p.1.flatMap p7) p.1.length .shared),(h0 p.2.1),(h0 p.2.2)]] Q:=by
 unfold KE;skip;refine wp_loop b0 ?_;refine .intro (fun m T H=>∃ (s2:Int),T=qe 48 [(2,(.ptr 0 0)),(8,(.av ((ix qg s1).map h0) (ix qg s1).length .shared)),(17,(.av (qg.map oX) qg.length .shared)),(18,(h0 (qg.length:Int))),(19,(h0 s1)),(26,(.av (eK.map h0) eK.length .shared)),(27,(h0 (eK.length:Int))),(28,(h0 s2))]∧H=[ar.cells [(.av (p.1.flatMap p7) p.1.length .shared),(h0 p.2.1),(h0 p.2.2)]]∧IM eK rm m s2=some v) qj ⟨s2,rfl,rfl,h⟩ ?_;clear h b0;rintro m T H ⟨s2,rfl,rfl,h⟩;cases m
 ·exact r0 h
 rename_i m;rw [IM.eq_2] at h;conv=>whnf
 refine bs h (fun qP h=>?_) fun qP h=>?_
 ·rw [qP];conv=>whnf
  refine qD h id fun qT h=>?_;rw [rG h0 eK s2 qT];conv=>whnf
  refine bs h (fun qN h=>?_) fun qN h=>?_
  ·rw [qN];(conv=>whnf);obtain rfl:=Option.some.inj h;exact jJ _ _ rfl rfl
  ·rw [qN];(conv=>whnf);exact ⟨m,sv m,(w (s2+(1:Int))),rfl,rfl,h⟩
 ·rw [qP];conv=>whnf
  exact KW  _ h ⟨rfl,rfl⟩
theorem Zw {p:((List (Int×Int))×(Int×Int))} {qg:(List (List Int))} {p':Unit→Option ((Option (((List (Int×Int))×(Int×Int))×Unit))×Int)} {s1:Int} {v:((Option (((List (Int×Int))×(Int×Int))×Unit))×Int)} {Q:cQ→List I→List ar→Prop}   (jJ:∀ (e:Int) (T:List I),v=(none,e)→rX [rQ p] T [.tmp 4,.tmp 5]=some [.eI,h0 e]→Q .ret T [rQ p]) (rn:∀ (qb:List I),p' ()=some v→ra 48 [(2,(.ptr 0 0))] qb→Q (.exit 0) qb [ar.cells [(.av (p.1.flatMap p7) p.1.length .shared),(h0 p.2.1),(h0 p.2.2)]]) {T:List I} (b0:eZ [false,false,true,false,false,false,false,false,false,false,false,false,false,false,false,false,false,true,true,true,false,false,false,false,false,false,false,false,false,false,false,false,false,false,false,false,false,false,false,false,false,false,false,false,false,false,false,false] T=qe 48 [(2,(.ptr 0 0)),(17,(.av (qg.map oX) qg.length .shared)),(18,(h0 (qg.length:Int))),(19,(h0 s1))]) (h:HE p qg p' qj s1=some v) :
  dQ Tryz.prog Le 40 0 none JL T [ar.cells [(.av (p.1.flatMap p7) p.1.length .shared),(h0 p.2.1),(h0 p.2.2)]] Q:=by
 unfold JL;obtain ⟨HK,qJ⟩:∃ c,KE=c:=⟨_,rfl⟩;rw [qJ];refine wp_loop b0 ?_;refine .intro (fun m T H=>∃ (s1:Int),T=qe 48 [(2,(.ptr 0 0)),(17,(.av (qg.map oX) qg.length .shared)),(18,(h0 (qg.length:Int))),(19,(h0 s1))]∧H=[ar.cells [(.av (p.1.flatMap p7) p.1.length .shared),(h0 p.2.1),(h0 p.2.2)]]∧HE p qg p' m s1=some v) qj ⟨s1,rfl,rfl,h⟩ ?_;clear h b0;rintro m T H ⟨s1,rfl,rfl,h⟩;cases m
 ·exact r0 h
 rename_i m;rw [HE.eq_2] at h;conv=>whnf
 refine bs h (fun qx h=>?_) fun qx h=>?_
 ·rw [qx];conv=>whnf
  refine qD h id fun qQ h=>?_;rw [rG oX qg s1 qQ];conv=>whnf
  obtain ⟨bj,qA,h⟩:=p9 h;refine ⟨qa.pl,_,TT qA,?_⟩;conv=>whnf
  obtain ⟨eK,q5,h⟩:=p9 h;refine ⟨(p5 (Jr rfl (p5 (Iv (p5 (rU (fun _=>rfl) _ _ _) rfl)) rfl)) rfl),_,TS  q5,?_⟩;conv=>whnf
  subst qJ;refine aiO ?_ ?_ (by exact rfl) h
  ·exact fun e T bE ai=>jJ e T bE ai
  ·intro  qb h qo;obtain ⟨re,rfl⟩:=qo.ex;(conv=>whnf);refine bs h (fun r3 h=>?_) fun r3 h=>?_
   ·rw [r3];(conv=>whnf);obtain rfl:=Option.some.inj h;exact jJ _ _ rfl rfl
   ·rw [r3];(conv=>whnf);exact ⟨m,sv m,(w (s1+(1:Int))),rfl,rfl,h⟩
 ·rw [qx];conv=>whnf
  exact rn  _ h ⟨rfl,rfl⟩
theorem Wm {eK:List Int} {K:Unit→Option (Option (qf×Unit)×Int)} {t:qf×Unit} {e:Int}:∀ {m:Nat} {s:Int},IM eK K m s=some (some t,e)→K ()=some (some t,e)
 | 0,s,h=>by cases h
 | m+1,s,h=>by
   rw [IM.eq_2] at h;split at h
   ·obtain ⟨_,h⟩:=q_ h;split at h
    ·cases h
    ·exact Wm h
   ·exact h
theorem Wl {p:qf} {qg:List (List Int)} {K:Unit→Option (Option (qf×Unit)×Int)} {t:qf×Unit} {e:Int}:∀ {m:Nat} {s:Int},HE p qg K m s=some (some t,e)→K ()=some (some t,e)
 | 0,s,h=>by cases h
 | m+1,s,h=>by
   rw [HE.eq_2] at h;split at h
   ·obtain ⟨_,h⟩:=q_ h;obtain ⟨bj,_,h⟩:=p9 h;obtain ⟨eK,_,h⟩:=p9 h;have h:=Wm h;split at h
    ·cases h
    ·exact Wl h
   ·exact h
theorem Wk {p:qf} {qg:List (List Int)} {t:qf×Unit} {e:Int} (h:HE p qg (fun _=>some (some (p,()),0)) qj 0=some (some t,e)):t=(p,())∧e=0:=by
 have h:=Wl h;obtain ⟨ab,ae⟩:=Prod.mk.inj (Option.some.inj h);exact ⟨(Option.some.inj ab).symm,ae.symm⟩
theorem Zv {p:qf} {qg:List (List Int)} {e:Int} (h:rV p qg=some (none,e)):Sem Tryz.prog (.fn 40) (M3 p qg) [] 0 (.tuple [.eI,h0 e]) [rQ p]:=by
 refine rI eG Oo rfl (I0 (sE _)) fun Q bp=>?_;have jJ:∀ (cV:Int) (T:List I),((none,e):Option (qf×Unit)×Int)=(none,cV)→rX [rQ p] T [.tmp 4,.tmp 5]=some [.eI,h0 cV]→Q .ret T [rQ p]:=fun cV T he ai=>by
  obtain rfl:=(Prod.mk.inj he).2;exact bp _ _ _ ⟨.inr rfl,lI.refl _,by rw [ai];rfl⟩
 unfold rV at h;unfold N4;obtain ⟨Lh,rb⟩:∃ c,JL=c:=⟨_,rfl⟩;rw [rb];conv=>whnf
 obtain ⟨aS,gM,h⟩:=p9 h;refine ⟨qa.pl,_,Pd gM,?_⟩;conv=>whnf
 refine bs h (fun gN h=>?_) fun gN h=>?_
 ·rw [gN];conv=>whnf
  obtain rfl:aS=e:=(Prod.mk.inj (Option.some.inj h)).2;exact jJ _ _ rfl rfl
 ·rw [gN];conv=>whnf
  subst rb;refine Zw ?_ ?_ (by exact rfl) h
  ·exact fun e T bE ai=>jJ e T bE ai
  ·intro  qb h qo;exact absurd (Prod.mk.inj (Option.some.inj h)).1 (by simp)
theorem O4 {p:qf} {qg:List (List Int)} {t:qf×Unit} {e:Int} (h:rV p qg=some (some t,e)):t=(p,())∧e=0∧Sem Tryz.prog (.fn 40) (M3 p qg) [] 0 (.tuple [.ptr 2 0,h0 0]) [rQ p,.map [] 0,.cells [(.av (p.1.flatMap p7) p.1.length .shared),(h0 p.2.1),(h0 p.2.2),.map 1]]:=by
 have ad:t=(p,())∧e=0:=by
  have aX:=h;unfold rV at aX;obtain ⟨aS,gM,aX⟩:=p9 aX;split at aX
  ·cases aX
  ·exact Wk aX
 obtain ⟨rfl,rfl⟩:=ad;refine ⟨rfl,rfl,?_⟩;refine rI eG Oo rfl (I0 (sE _)) fun Q bp=>?_;unfold rV at h;unfold N4;obtain ⟨Lh,rb⟩:∃ c,JL=c:=⟨_,rfl⟩;rw [rb];conv=>whnf
 obtain ⟨aS,gM,h⟩:=p9 h;refine ⟨qa.pl,_,Pd gM,?_⟩;conv=>whnf
 refine bs h (fun gN h=>?_) fun gN h=>?_
 ·exact absurd (Prod.mk.inj (Option.some.inj h)).1 (by simp)
 ·rw [gN];conv=>whnf
  subst rb;refine Zw ?_ ?_ (by exact rfl) h
  ·exact fun e T bE ai=>absurd (Prod.mk.inj bE).1 (by simp)
  ·intro  qb h qo;obtain ⟨re,rfl⟩:=qo.ex;(conv=>whnf);exact bp _ _ _ ⟨.inr rfl,lI.refl _,rfl⟩
section
variable {p:qf} {qg:List (List Int)}
theorem abW {e:Int} {lo:Nat} (h:rV p qg=some (none,e)):oV Tryz.prog 2 lo (.fn 40) (M3 p qg) [] (.tuple [.eI,h0 e]) [] :=
 ⟨_,EB (Zv h),by
  show (k9 _ _ _ _ _ _ (.fn 40) (M3 p qg) [] 0).bind _=_
  rw [EA];rfl⟩
theorem abV {t:qf×Unit} {e:Int} {lo:Nat} (h:rV p qg=some (some t,e)):oV Tryz.prog 2 lo (.fn 40) (M3 p qg) [] (.tuple [.ptr 0 0,h0 0]) [.cells [(.av (p.1.flatMap p7) p.1.length .shared),(h0 p.2.1),(h0 p.2.2),Hr]] :=
 ⟨_,EB (O4 h).2.2,by
  show (k9 _ _ _ _ _ _ (.fn 40) (M3 p qg) [] 0).bind _=_;rw [EA];have e1:ea (bM [rQ p,.map [] 0,.cells [(.av (p.1.flatMap p7) p.1.length .shared),(h0 p.2.1),(h0 p.2.2),.map 1]] 0 2 0 8) [(.av (p.1.flatMap p7) p.1.length .shared),(h0 p.2.1),(h0 p.2.2),.map 1]=some [(.av (p.1.flatMap p7) p.1.length .shared),(h0 p.2.1),(h0 p.2.2),Hr] :=
   rM (yW (HD (fun _=>p5 rfl (p5 rfl rfl)) _ _ _)) (rM (yW rfl) (rM (yW rfl) (rM (Vz (by simp) (by simp)) I2)))
  show (if 0≤2 then (match ea (bM [rQ p,.map [] 0,.cells [(.av (p.1.flatMap p7) p.1.length .shared),(h0 p.2.1),(h0 p.2.2),.map 1]] 0 2 0 8) [(.av (p.1.flatMap p7) p.1.length .shared),(h0 p.2.1),(h0 p.2.2),.map 1],bM _ 0 2 0 8 (.tuple [.ptr 2 0,h0 0]) with | some l',some v=>some (v,[]++[ar.cells l']) | _,_=>none) else none)=_
  rw [e1];rfl⟩
end
end Go.Proofs.YtkoioidpbbbaiaaGreat.Ab


namespace Go.Proofs.YtkoioidpbbbaiaaGreat.Ab
open Go
noncomputable def S4:gE :=
 p2 [p0 5 [.Bs 1,.Bs 2,.Bs 3,.nc 4] (.zY 71 0 4),⟨none,[.nc 4,.jq 5],none,none,.st 1⟩] (qV [qi 6 4,p0 7 [.jq 6,.cv (.av [] 0 .full)] (.call 1)])
noncomputable def S3:gE :=
 p2 [p0 2 [.jq 0] .box] (p2 [p0 3 [] (.alloc [.int .i64 0,.int .i64 0,.int .i64 0,.int .i64 0,.int .i64 0,.int .i64 0,.int .i64 0])] (p2 [p0 4 [] (.alloc [.a0])] S4))
theorem WJ:qt Go.Proofs.Tryz.prog US 70=some (S3,8,[]):=by kernel_rfl
noncomputable def agP:gE :=
 p2 [qi 18 2,p1 19 0,p0 20 [.jq 18,.jq 19] (.call 1),p1 6 20] .ret
noncomputable def OM:gE :=
 p2 [p1 47 7,p0 48 [.nc 3,.Bs 47] (.zu 7 1),⟨none,[.jq 48,.cv (.int .i64 0)],none,none,.st 1⟩] (p2 [p1 49 8,p0 50 [.Bs 49] (.un .not)] (.cond (.nc 50) (p2 [p0 6 [.cv (.bool false)] .mU] .ret) .skip))
noncomputable def MA:gE :=
 p2 [p0 36 [.nc 4] (.zE .one),p3 37 0,p3 38 0,q3 39 38,p3 40 0,q3 41 40,p0 42 [.jq 37,.jq 39,.jq 41] (.Bh 1 false true true),p3 43 7,p0 44 [.Bs 43] (.yB 1 1 [.int .i64 0] [0]),p0 45 [.jq 42,.jq 44] (.app 1 8),p0 46 [.jq 36,.jq 45] (.call 1),p1 8 46] OM
noncomputable def S5:gE :=
 .seq (p2 [p3 30 7,p0 31 [.nc 3,.Bs 30] (.zu 7 1),qi 32 31,qE 33 32 0 .gtr] (.cond (.nc 33) (.exit 1) .skip)) (p2 [p3 34 7,p0 35 [.nc 3,.Bs 34] (.zu 7 1),⟨none,[.jq 35,.cv (.int .i64 1)],none,none,.st 1⟩] MA)
noncomputable def S6:gE :=
 .block 1 (p2 [p3 29 27,p1 7 29] S5)
noncomputable def Kb:gE :=
 .seq (p2 [qi 21 1,p0 22 [.Bs 21] .z4,qz 23 22 0,qz 24 23 0,qi 25 24,q3 26 25,qh 27 0] (.block 0 (.loop (some (qc false [0,1,2,2,21,2,24])) (p2 [p0 28 [.nc 27,.nc 26] (.bin .lss)] (.seq (.cond (.nc 28) .skip (.exit 0)) (.seq S6 (qV [q2 51 27 1,p1 27 51]))))))) (p2 [p0 6 [.cv (.bool true)] .mU] .ret)
noncomputable def MB:gE :=
 .seq (p2 [p3 9 0,q3 10 9,p0 11 [.nc 1] (.zE .one),p0 12 [.Bs 11] .z4,qz 13 12 0,qz 14 13 0,qi 15 14,q3 16 15,qn 17 10 16 .eql] (.cond (.nc 17) agP .skip)) Kb
noncomputable def Mz:gE :=
 p2 [p0 6 [.cv (.bool false)] .mU] MB
theorem PK:qt Go.Proofs.Tryz.prog Lf 71=some (Mz,52,[.tmp 6]):=by kernel_rfl
end Go.Proofs.YtkoioidpbbbaiaaGreat.Ab


namespace Go.Proofs.YtkoioidpbbbaiaaGreat.Ab
open Go
set_option maxRecDepth 20000
set_option maxHeartbeats 4000000
def I9 (b:I) (p:Nat):I:=.func 71 [] [b,.ptr p 0,.ptr (p+1) 0,.ptr (p+2) 0]
@[irreducible] def rR (X Y0:List ar) (L:Nat) (b:I) (p:Nat) (U:List Int) (Y:List ar):List ar:=X++(Y0++([.cells [.yield L],.cells (U.map h0),.cells [I9 b p]]++Y))
section
variable {X Y0 Y:List ar} {L p:Nat} {b:I} {U:List Int} (aB:X.length+Y0.length=p)
include aB
theorem ahF:(rR X Y0 L b p U Y)[p]?=some (.cells [.yield L]):=by
 unfold rR;rw [ss (by omega),ss (by omega),show p-X.length-Y0.length=0 by omega];rfl
theorem Ts:(rR X Y0 L b p U Y)[p+1]?=some (.cells (U.map h0)):=by
 unfold rR;rw [ss (by omega),ss (by omega),show p+1-X.length-Y0.length=1 by omega];rfl
theorem YH:(rR X Y0 L b p U Y)[p+2]?=some (.cells [I9 b p]):=by
 unfold rR;rw [ss (by omega),ss (by omega),show p+2-X.length-Y0.length=2 by omega];rfl
theorem YI (N9:List Int):(rR X Y0 L b p U Y).set (p+1) (.cells (N9.map h0))=rR X Y0 L b p N9 Y:=by
 unfold rR;rw [uY _ _ (by omega),uY _ _ (by omega),show p+1-X.length-Y0.length=1 by omega];rfl
end
def Hk (l:List Int):I:=match l with | []=>.av [] 0 .full | _=>.av (l.map h0) l.length (.own 1)
theorem ahE {MF MG:I} {Q:cQ→List I→List ar→Prop} {begun:List Int} {i n:Nat} {X Y0 Y:List ar} {L p:Nat} {b:I} {U:List Int} (aB:X.length+Y0.length=p) (HA:U.length=7) (hi:i<7) (af:begun.length≤7)
  (dW:∃ M1 qL,M1.length=X.length∧Sem Tryz.prog (.fn 71) [.av ((begun++[(i:Int)]).map h0) (begun++[(i:Int)]).length (.uniq 1),b,.ptr p 0,.ptr (p+1) 0,.ptr (p+2) 0] (rR X Y0 L b p U Y) 0 (.bool true) (rR M1 Y0 L b p U qL) ∧
   Q .normal (qe 52 [(0,Hk begun),(3,.ptr (p+1) 0),(4,.ptr (p+2) 0),(26,h0 n),(27,h0 i),(28,MF),(33,MG),(50,.bool false)]) (rR M1 Y0 L b p (U.set i 0) qL)) :
  dQ Tryz.prog Lf 71 0 none MA (qe 52 [(0,Hk begun),(3,.ptr (p+1) 0),(4,.ptr (p+2) 0),(7,h0 i),(26,h0 n),(27,h0 i),(28,MF),(33,MG)]) (rR X Y0 L b p U Y) Q:=by
 obtain ⟨M1,qL,ajV,cp,bp⟩:=dW;have V3:M1.length+Y0.length=p:=by omega
 have fin:∀ dH,dH=qe 52 [(0,Hk begun),(3,.ptr (p+1) 0),(4,.ptr (p+2) 0),(7,h0 i),(8,.bool true),(26,h0 n),(27,h0 i),(28,MF),(33,MG)]→dQ Tryz.prog Lf 71 0 none OM dH (rR M1 Y0 L b p U qL) Q:=by
  rintro _ rfl;unfold OM;conv=>whnf
  refine ⟨by omega,?_⟩;conv=>whnf
  refine Ew (Ts V3) ?_;conv=>whnf
  rw [show 0+(i:Int).toNat*1=i by omega];refine Gn (by simp;omega) ?_;conv=>whnf
  rw [show (List.map h0 U).set i (I.int IntKind.i64 0)=(U.set i 0).map h0 by rw [tG],YI V3];exact bp
 unfold MA;cases begun with
 | nil =>
   (conv=>whnf);refine Ew (YH aB) ?_;(conv=>whnf);refine ⟨⟨by decide,by decide,by decide⟩,?_⟩;(conv=>whnf);refine ⟨rfl,by decide,?_⟩;(conv=>whnf);refine ⟨by decide,by decide,rfl,?_⟩;(conv=>whnf);refine ⟨_,_,rF cp,?_⟩;(conv=>whnf);exact fin _ rfl
 | cons a l =>
   (conv=>whnf);refine Ew (YH aB) ?_;(conv=>whnf);refine ⟨⟨rfl,by omega,sQ _⟩,?_⟩;(conv=>whnf);rw [Int.toNat_natCast,Nat.mul_one,td (by simp)];refine ⟨rfl,by decide,?_⟩;(conv=>whnf);refine ⟨by decide,by omega,by simp,?_⟩;(conv=>whnf);(have e1:List.map h0 (a::l)++[h0 (i:Int)]=((a::l)++[(i:Int)]).map h0:=by simp);(have b':(a::l).length+1=((a::l)++[(i:Int)]).length:=by simp);refine ⟨_,_,rF (by erw [e1,b'];exact cp),?_⟩;(conv=>whnf);exact fin _ rfl
def rH (U:List Int) (n:Nat):List Int:=((List.range n).filter fun i=>decide (U.getD i 0=0)).map fun i:Nat=>(i:Int)
theorem Sn (U:List Int) (n:Nat):rH U (n+1)=rH U n++if U.getD n 0=0 then [(n:Int)] else []:=by
 unfold rH;rw [List.range_succ,t_,sJ];by_cases h:U.getD n 0=0
 ·rw [if_pos h,u_ (by simpa using h)];rfl
 ·rw [if_neg h,uD (by simpa using h)];rfl
theorem ad8 (U:List Int) (n:Nat):(rH U n).Nodup:=by
 unfold rH;refine List.Pairwise.map _ (R:=(·≠·)) (fun a b h=>by omega) ?_;exact List.Pairwise.filter _ List.nodup_range
theorem WW {U:List Int} {n:Nat} {x:Int}:x∈rH U n↔∃ i:Nat,i<n∧U.getD i 0=0∧x=(i:Int):=by
 unfold rH;simp only [sD,tf,sH,decide_eq_true_eq];constructor
 ·rintro ⟨i,⟨ab,ae⟩,rfl⟩;exact ⟨i,ab,ae,rfl⟩
 ·rintro ⟨i,ab,ae,rfl⟩;exact ⟨i,⟨ab,ae⟩,rfl⟩
theorem Ni {U:List Int} {n i:Nat} (hi:i<U.length) (aQ:U.getD i 0=0):rH (U.set i 1) n=(rH U n).erase (i:Int):=by
 rw [(ad8 U n).erase_eq_filter];unfold rH;rw [List.filter_map,uU];congr 1;refine ui fun x _=>?_;by_cases e:x=i
 ·subst e;simp [hi]
 ·have:((x:Int) != (i:Int))=true:=by simp;omega
  simp only [Function.comp,this,Bool.true_and];congr 1;simp only [sx];rw [se (by omega)]
def Hi (k:Nat) (U:List Int) (n i:Nat):Nat:=((rH U i).flatMap fun x=>(ri k ((rH U n).erase x)).map (x::·)).length
theorem Pv (k:Nat) (U:List Int) (n i:Nat):Hi k U n (i+1)=Hi k U n i+if U.getD i 0=0 then (ri k ((rH U n).erase (i:Int))).length else 0:=by
 unfold Hi;rw [Sn,ug,sA];congr 1;by_cases h:U.getD i 0=0
 ·rw [if_pos h,if_pos h];simp
 ·rw [if_neg h,if_neg h];rfl
theorem ad9 {U:List Int} {n i:Nat} (hi:i≤n):∃ r,rH U n=rH U i++r:=by
 obtain ⟨d,rfl⟩:=Nat.exists_eq_add_of_le hi;clear hi
 induction d with
 | zero=>exact ⟨[],by simp⟩
 | succ d a8 =>
   obtain ⟨r,ai⟩:=a8;rw [←tb,Sn,ai];exact ⟨_,sy ..⟩
theorem Wz {k:Nat} {U:List Int} {n i j:Nat} {l:List Int} (hi:i<n) (aQ:U.getD i 0=0) (ao:(ri k ((rH U n).erase (i:Int)))[j]?=some l):(ri (k+1) (rH U n))[Hi k U n i+j]?=some ((i:Int)::l):=by
 obtain ⟨r,ai⟩:=ad9 (U:=U) (n:=n) (i:=i+1) hi;rw [Sn,if_pos aQ] at ai;show ((rH U n).flatMap fun x=>(ri k ((rH U n).erase x)).map (x::·))[Hi k U n i+j]?=_;have aw:=(sa.1 ao).1;conv=>lhs;arg 1;arg 2;rw [ai]
 rw [ug,ug,sy,ss (by unfold Hi;omega)];rw [show Hi k U n i+j-((rH U i).flatMap fun x=>(ri k ((rH U n).erase x)).map (x::·)).length=j by unfold Hi;omega];rw [List.getElem?_append_left (by simp;exact aw)];simp [ao]
theorem Ps {α:Type} (P:Nat→α→α→Prop) (h3:α) (h:∀ i a,∃ b,P i a b):∃ f:Nat→α,f 0=h3∧∀ i,P i (f i) (f (i+1)):=by
 classical
 exact ⟨fun n=>Nat.rec h3 (fun i a=>Classical.choose (h i a)) n,rfl,fun i=>uz (h i _)⟩
theorem Yx {U:List Int} {i:Nat} (h:∀ i,0≤U.getD i 0):∀ j,0≤(U.set i 1).getD j 0:=fun j=>by
 have:=h j;simp only [sx,List.getElem?_set] at this ⊢;split
 ·split <;> simp
 ·exact this
theorem Yv {U:List Int} {i:Nat} (hi:i<U.length) (h:U.getD i 0=0):U.set i 0=U:=by
 rw [sx,sj hi] at h;rw [←show U[i]=0 from h,vC]
def aaL (L:Nat) (qX:Nat→List ar) (c:Nat) (begun:List Int) (E:List (List Int)):Prop :=
 ∀ (j:Nat) (l:List Int),E[j]?=some l→∀ Y:List ar,∃ Z,Sem Tryz.prog (.yield L) [Hk (begun++l)] (qX (c+j)++Y) 0 (.bool true) (qX (c+j+1)++(Y++Z))
theorem VQ {b:((List (Int×Int))×(Int×Int))×Unit} (qP:b.1.1.length≤7) (iS:0<b.1.1.length) {L N:Nat} {qX:Nat→List ar} (hlen:∀ i,(qX i).length=N) {Y0:List ar} {p:Nat} (aB:N+Y0.length=p) :
  ∀ (k:Nat) (begun:List Int) (Hy:hE) (U:List Int) (c:Nat),U.length=7→(∀ i,0≤U.getD i 0)→begun.length+k=b.1.1.length→(rH U b.1.1.length).length=k→((Hy=.full∧begun=[])∨Hy=.uniq 1∧begun≠[])→aaL L qX c begun (ri k (rH U b.1.1.length)) →
  ∀ Y,∃ Z,Sem Tryz.prog (.fn 71) [.av (begun.map h0) begun.length Hy,.bS [lp b],.ptr p 0,.ptr (p+1) 0,.ptr (p+2) 0] (rR (qX c) Y0 L (.bS [lp b]) p U Y) 0 (.bool true) (rR (qX (c+(ri k (rH U b.1.1.length)).length)) Y0 L (.bS [lp b]) p U (Y++Z))
 | 0,begun,Hy,U,c,HA,_,al,ao,CM,ai,Y=>by
   obtain ⟨Z,cp⟩:=ai 0 [] rfl (Y0++([.cells [.yield L],.cells (U.map h0),.cells [I9 (.bS [lp b]) p]]++Y));(have Kv:(qX c).length+Y0.length=p:=by rw [hlen];exact aB);(have bJ:begun≠[]:=fun e=>by subst e;simp at al;omega);have CM:Hy=.uniq 1:=by
    rcases CM with ⟨_,h⟩ | ⟨h,_⟩
    ·exact absurd h bJ
    ·exact h
   subst CM;obtain ⟨a,l,rfl⟩:=tL bJ;refine ⟨Z,?_⟩;(have e1:qX (c+0)++(Y0++([.cells [.yield L],.cells (U.map h0),.cells [I9 (.bS [lp b]) p]]++Y))=rR (qX c) Y0 L (.bS [lp b]) p U Y:=by unfold rR;rfl);(have b':qX (c+0+1)++((Y0++([.cells [.yield L],.cells (U.map h0),.cells [I9 (.bS [lp b]) p]]++Y))++Z)=rR (qX (c+1)) Y0 L (.bS [lp b]) p U (Y++Z):=by unfold rR;simp);rw [e1,b',sN] at cp;show Sem _ _ _ _ _ _ (rR (qX (c+1)) _ _ _ _ _ _);refine rI eG PK rfl cp.1 fun Q bp=>?_;unfold Mz MB;obtain ⟨f',Hv⟩:∃ c,Kb=c:=⟨_,rfl⟩;rw [Hv];(conv=>whnf);rw [decide_eq_true (show (((a::l).length:Nat):Int)=(b.1.1.length:Int) by omega)];(conv=>whnf);refine Ew (ahF Kv) ?_;(conv=>whnf);refine ⟨_,_,rF cp,?_⟩;(conv=>whnf);exact bp _ _ _ ⟨.inr rfl,lI.refl _,rfl⟩
 | k+1,begun,Hy,U,c,HA,Ol,al,ao,CM,ai,Y=>by
   obtain ⟨n,aI⟩:∃ n,n=b.1.1.length:=⟨_,rfl⟩;have N7:=VQ (L:=L) qP iS hlen aB k;rw [←aI] at qP iS al ao ai N7 ⊢;have Kv:∀ j,(qX j).length+Y0.length=p:=fun j=>by rw [hlen];exact aB
   obtain ⟨KG,LV,Lk⟩:=Ps (fun i Z Ra=>(i<n→U.getD i 0=0→∃ W,Ra=Z++W∧Sem Tryz.prog (.fn 71) [.av ((begun++[(i:Int)]).map h0) (begun++[(i:Int)]).length (.uniq 1),.bS [lp b],.ptr p 0,.ptr (p+1) 0,.ptr (p+2) 0] (rR (qX (c+Hi k U n i)) Y0 L (.bS [lp b]) p (U.set i 1) (Y++Z)) 0 (.bool true) (rR (qX (c+Hi k U n (i+1))) Y0 L (.bS [lp b]) p (U.set i 1) (Y++Ra)))∧(¬ (i<n∧U.getD i 0=0)→Ra=Z)) ([]:List ar) (fun i Z=>by
    by_cases h:i<n∧U.getD i 0=0
    ·obtain ⟨hi,aQ⟩:=h;have hm:(i:Int)∈rH U n:=WW.2 ⟨i,hi,aQ,rfl⟩
     obtain ⟨W,mb⟩:=N7 (begun++[(i:Int)]) (.uniq 1) (U.set i 1) (c+Hi k U n i) (by simpa using HA) (Yx Ol) (by simp;omega) (by rw [Ni (by omega) aQ,tT hm];omega) (.inr ⟨rfl,by simp⟩) (fun j l aw Y=>by
      rw [Ni (by omega) aQ] at aw;obtain ⟨Z,cp⟩:=ai _ _ (Wz hi aQ aw) Y;refine ⟨Z,?_⟩;rw [show c+Hi k U n i+j=c+(Hi k U n i+j) by omega,sy]
      exact cp) (Y++Z)
     refine ⟨Z++W,fun _ _=>⟨W,rfl,?_⟩,fun h=>absurd ⟨hi,aQ⟩ h⟩;rw [Ni (by omega) aQ] at mb;rw [Pv,if_pos aQ,←sy,←tb];exact mb
    ·exact ⟨Z,fun ab ae=>absurd ⟨ab,ae⟩ h,fun _=>rfl⟩)
   refine ⟨KG n,?_⟩;have Sa:Hi k U n n=(ri (k+1) (rH U n)).length:=rfl;rw [←Sa];refine rI eG PK rfl (I0 (by unfold rR;simp [hlen])) fun Q bp=>?_;have main:∀ T,T=qe 52 [(0,Hk begun),(1,.bS [lp b]),(2,.ptr p 0),(3,.ptr (p+1) 0),(4,.ptr (p+2) 0),(6,.bool false),(17,.bool false)]→dQ Tryz.prog Lf 71 0 none Kb T (rR (qX c) Y0 L (.bS [lp b]) p U Y) Q:=by
    rintro _ rfl;unfold Kb S6 S5;obtain ⟨bt,eS⟩:∃ c,MA=c:=⟨_,rfl⟩;rw [eS];(conv=>whnf);rw [←aI];refine .intro (fun m T H=>∃ i:Nat,i≤n∧m=n-i∧T=qe 52 [(0,Hk begun),(3,.ptr (p+1) 0),(4,.ptr (p+2) 0),(26,h0 n),(27,h0 i)]∧H=rR (qX (c+Hi k U n i)) Y0 L (.bS [lp b]) p U (Y++KG i)) n ⟨0,sE _,rfl,rfl,by rw [LV,sN];rfl⟩ ?_;rintro m T H ⟨i,hi,rfl,rfl,rfl⟩;(conv=>whnf);refine HL (fun aR=>?_) (fun aR=>?_)
    ·(have hg:i<n:=by omega);(conv=>whnf);refine ⟨by omega,?_⟩;(conv=>whnf);refine Ew (Ts (Kv _)) ?_;(conv=>whnf);rw [show 0+(i:Int).toNat*1=i by omega];refine Ew (x:=h0 (U.getD i 0)) (by rw [sm,sx,sj (show i<U.length by omega)];rfl) ?_;(conv=>whnf);(have rS:IntKind.i64.wrap ((i:Int)+1)=((i+1:Nat):Int):=by rw [HU _ (by omega) (by omega)];omega);refine HL (fun aQ=>?_) (fun aQ=>?_)
     ·(conv=>whnf);refine ⟨n-(i+1),by omega,i+1,by omega,rfl,by rw [rS];rfl,?_⟩;rw [Pv,if_neg (by omega),(Lk i).2 (by omega)];rfl
     ·(have Oi:U.getD i 0=0:=by have:=Ol i;omega);obtain ⟨W,mb,cp⟩:=(Lk i).1 hg Oi;(conv=>whnf);refine ⟨by omega,?_⟩;(conv=>whnf);refine Ew (Ts (Kv _)) ?_;(conv=>whnf);rw [show 0+(i:Int).toNat*1=i by omega];refine Gn (by simp;omega) ?_;(conv=>whnf);rw [show (List.map h0 U).set i (I.int IntKind.i64 1)=(U.set i 1).map h0 by rw [tG],YI (Kv _)];subst eS;refine ahE (Kv _) (by simpa using HA) (by omega) (by omega) ⟨qX (c+Hi k U n (i+1)),Y++KG (i+1),by rw [hlen,hlen],cp,?_⟩;(conv=>whnf);refine ⟨n-(i+1),by omega,i+1,by omega,rfl,by rw [rS];rfl,?_⟩;rw [sV,Yv (by omega) Oi]
    ·(obtain rfl:i=n:=by omega);(conv=>whnf);exact bp _ _ _ ⟨.inr rfl,lI.refl _,rfl⟩
   rcases CM with ⟨rfl,rfl⟩ | ⟨rfl,bJ⟩
   ·unfold Mz MB;obtain ⟨f',Hv⟩:∃ c,Kb=c:=⟨_,rfl⟩;rw [Hv];(conv=>whnf);rw [decide_eq_false (show ¬ (((([]:List Int).length:Nat):Int)=(b.1.1.length:Int)) by simp only [tV];omega)];(conv=>whnf);subst Hv;exact main _ rfl
   ·obtain ⟨a,l,rfl⟩:=tL bJ;unfold Mz MB;obtain ⟨f',Hv⟩:∃ c,Kb=c:=⟨_,rfl⟩;rw [Hv];(conv=>whnf);rw [decide_eq_false (show ¬ ((((a::l).length:Nat):Int)=(b.1.1.length:Int)) by omega)];(conv=>whnf);subst Hv;exact main _ rfl
def Pk (P:Program) (k:FuncId) (cap:List I) (E:List I):Prop :=
 ∀ (l N:Nat) (qX:Nat→List ar),(∀ i,(qX i).length=N)→l<N →
   (∀ (i:Nat) (h:i<E.length) (Y:List ar),∃ Z,Sem P (.yield l) [E[i]] (qX i++Y) 0 (.bool true) (qX (i+1)++(Y++Z))) →
   ∀ Y,∃ Z,Sem P (.fn k) (.yield l::cap) (qX 0++Y) 0 (.tuple []) (qX E.length++(Y++Z))
theorem Yl {α:Type} {P:Program} {A:dw} {fn:FuncId} {rl:Option Nat} {k:FuncId} {cap:List I} {t:Nat} {bq:List Nat} {gH ct:Code} {T:List I} {H Hn:List ar} {Q:cQ→List I→List ar→Prop} {f:α→I} {L:List α} (IH:Pk P k cap (L.map f))
  (Obj:Nat→List ar) (ax:df T t=.func k [] cap) (aQ:Obj 0=H) (hlen:∀ i,(Obj i).length=H.length)
  (Mo:∀ (i:Nat) (h:i<L.length) (Y:List ar),∃ Z,Sem P (.yield H.length) [f L[i]] ((Obj i++[.loop .ready none fn (T.map I.view) bq gH ct A])++Y) 0 (.bool true) ((Obj (i+1)++[.loop .ready none fn (T.map I.view) bq gH ct A])++(Y++Z)))
  (hg:inLoop H rl=true) (aI:Obj L.length=Hn) (bp:∀ qL,Q .normal (T.map I.settle) ((Hn++[.dead])++qL)):dQ P A fn 0 rl (.AM (.nc t) bq gH ct) T H Q:=by
 show hI T t _;rw [iQ,ax]
 obtain ⟨qL,cp⟩:=IH H.length (H.length+1) (fun i=>Obj i++[.loop .ready none fn (T.map I.view) bq gH ct A]) (fun i=>by simp [hlen]) (by omega) (fun i h Y=>by
  have aX:i<L.length:=by simpa using h
  obtain ⟨qL,ai⟩:=Mo i aX Y
  exact ⟨qL,by rw [tK];exact ai⟩) []
 subst aI;simp only [sN,tN,sX,aQ] at cp;have ao:(Obj L.length).length=H.length:=hlen _;refine ⟨hg,.tuple [],_,.ready,none,fn,T.map I.view,bq,gH,ct,A,cp,by rw [←ao];exact IW _ _ _,by decide,?_⟩;show Q .normal (T.map I.settle) (((Obj L.length++[ar.loop .ready none fn (T.map I.view) bq gH ct A])++qL).set H.length .dead);rw [←ao,Kd];exact bp qL
def ql (n:Nat):List Int:=(List.range n).map fun i:Nat=>(i:Int)
theorem Wx {n:Nat} (aI:n≤7):rH [0,0,0,0,0,0,0] n=ql n:=by
 unfold rH ql;rw [tH.2];intro a cu
 have:a<n:=sH.1 cu
 have cO:a<7:=by omega
 match a,cO with
 | 0,_ | 1,_ | 2,_ | 3,_ | 4,_ | 5,_ | 6,_=>rfl
theorem Yq {b:((List (Int×Int))×(Int×Int))×Unit} (qP:b.1.1.length≤7) (iS:0<b.1.1.length):Pk Tryz.prog 70 [.bS [lp b]] ((ri b.1.1.length (ql b.1.1.length)).map Hk):=by
 intro L N qX hlen fq ai Y;have jT:=Wx qP
 obtain ⟨Z,cp⟩:=VQ (b:=b) (L:=L) qP iS hlen (Y0:=Y) (p:=N+Y.length) rfl b.1.1.length [] .full [0,0,0,0,0,0,0] 0 rfl (fun i=>by
  rw [sx]
  match i with
  | 0 | 1 | 2 | 3 | 4 | 5 | 6 | i+7=>simp) (by simp) (by rw [jT];simp [ql]) (.inl ⟨rfl,rfl⟩) (fun j l aw Y=>by
    rw [jT] at aw;obtain ⟨ab,ae⟩:=sa.1 aw;obtain ⟨Z,h⟩:=ai j (by simpa using ab) Y;refine ⟨Z,?_⟩;rw [tK,ae] at h;rw [sC]
    exact h) []
 rw [jT,sC] at cp;rw [sX];have e1:rR (qX 0) Y L (.bS [lp b]) (N+Y.length) [0,0,0,0,0,0,0] []=((qX 0++Y)++[.cells [.yield L]])++[.cells [h0 0,h0 0,h0 0,h0 0,h0 0,h0 0,h0 0]]++[.cells [I9 (.bS [lp b]) (N+Y.length)]]:=by
  unfold rR;simp
 refine ⟨[.cells [.yield L],.cells [h0 0,h0 0,h0 0,h0 0,h0 0,h0 0,h0 0],.cells [I9 (.bS [lp b]) (N+Y.length)]]++Z,?_⟩;have b':rR (qX (ri b.1.1.length (ql b.1.1.length)).length) Y L (.bS [lp b]) (N+Y.length) [0,0,0,0,0,0,0] ([]++Z)=qX (ri b.1.1.length (ql b.1.1.length)).length++(Y++([.cells [.yield L],.cells [h0 0,h0 0,h0 0,h0 0,h0 0,h0 0,h0 0],.cells [I9 (.bS [lp b]) (N+Y.length)]]++Z)):=by
  unfold rR;simp
 rw [e1,b'] at cp;obtain ⟨Hn,VR⟩:∃ Hn,Hn=qX (ri b.1.1.length (ql b.1.1.length)).length++(Y++([.cells [.yield L],.cells [h0 0,h0 0,h0 0,h0 0,h0 0,h0 0,h0 0],.cells [I9 (.bS [lp b]) (N+Y.length)]]++Z)):=⟨_,rfl⟩;rw [←VR] at cp ⊢;have hle:(qX 0++Y).length=N+Y.length:=by simp [hlen]
 obtain ⟨HV,gL⟩:∃ HV,HV=qX 0++Y:=⟨_,rfl⟩;rw [←gL] at cp hle ⊢;refine rI eG WJ rfl (I0 (by rw [VR,hle];simp [hlen])) fun Q bp=>?_;rw [←hle] at cp;unfold S3 S4;conv=>whnf
 have l1:(HV++[ar.cells [I.yield L]]).length=HV.length+1:=by simp
 have l2:((HV++[ar.cells [I.yield L]])++[ar.cells [I.int IntKind.i64 0,I.int IntKind.i64 0,I.int IntKind.i64 0,I.int IntKind.i64 0,I.int IntKind.i64 0,I.int IntKind.i64 0,I.int IntKind.i64 0]]).length=HV.length+2:=by simp
 refine Ew (x:=.cells [.a0]) (by simp) ?_;conv=>whnf
 rw [rZ];refine Ew (x:=.cells [I9 (.bS [lp b]) HV.length]) (by rw [ss (sd _),l1,l2,Nat.sub_self];rfl) ?_;conv=>whnf
 refine ⟨_,_,rF (by rw [l1,l2];exact cp),?_⟩;conv=>whnf
 exact bp _ _ _ ⟨.inl rfl,lI.refl _,rfl⟩
end Go.Proofs.YtkoioidpbbbaiaaGreat.Ab


namespace Go.Proofs.YtkoioidpbbbaiaaGreat.Ab
open Go
noncomputable def XP:gE :=
 p2 [p0 2 [.cv (.av [] 0 .full)] (.nil 1)] (p2 [p1 3 0,p0 4 [.cv (.func 69 [] []),.cv (.av [] 0 .full),.nc 3] (.call 0),p1 2 4] .ret)
theorem aem:qt Go.Proofs.Tryz.prog UE 42=some (XP,5,[.tmp 2]):=by kernel_rfl
noncomputable def X4:gE :=
 p2 [p0 2 [.jq 0] .box,p0 4 [.cv (.av [] 0 .full)] (.nil 1)] (.seq (p2 [p1 6 1] (.block 0 (.AM (.nc 6) [7] (rB Go.Proofs.Tryz.prog 69 0) (rC Go.Proofs.Tryz.prog 69 0)))) (p2 [p0 12 [.Bs 2] .take,p1 4 12] .ret))
theorem aes:qt Go.Proofs.Tryz.prog Kr 69=some (X4,13,[.tmp 4]):=by kernel_rfl
noncomputable def SF:gE :=
 .seq (p2 [p0 16 [.nc 4] (.zE .one),p0 17 [.cv (.func 43 [] []),.nc 16] (.call 3)] (.block 0 (.AM (.nc 17) [18] (rB Go.Proofs.Tryz.prog 16 0) (rC Go.Proofs.Tryz.prog 16 0)))) (p2 [qi 25 6,p1 2 25,qh 3 0] .ret)
noncomputable def XB:gE :=
 .seq (p2 [p3 13 5,qE 14 13 0 .neq] (.cond (.nc 14) (p2 [p1 15 5,qh 2 0,p1 3 15] .ret) .skip)) (p2 [p0 6 [] (.alloc [.int .i64 0]),⟨none,[.nc 6,.cv (.int .i64 0)],none,none,.st 1⟩] SF)
noncomputable def XC:gE :=
 p2 [p0 9 [.Bs 1] (.zE (.str 3)),p0 10 [.cv (.func 40 [] []),.nc 9,.cv (.av [] 0 .full)] (.call 3),p1 8 10,qI 11 8 0,p0 12 [.Bs 8] (.ext 1),p0 4 [] (.alloc [.eI]),⟨none,[.nc 4,.jq 11],none,none,.st 1⟩,p1 5 12] XB
noncomputable def XA:gE :=
 p2 [p0 1 [.jq 0] .box,qh 2 0,qh 3 0] XC
theorem aeh:qt Go.Proofs.Tryz.prog Kp 16=some (XA,26,[.tmp 2,.tmp 3]):=by kernel_rfl
noncomputable def Xw:gE :=
 p2 [p1 21 7,p0 22 [.Bs 6] (.zY 45 0 1),p0 23 [.cv (.func 44 [] []),.nc 21,.nc 22] (.call 0),p1 2 23,qh 3 0] .ret
noncomputable def Xx:gE :=
 p2 [p1 18 4,p0 19 [.cv (.func 43 [] []),.nc 18] (.call 3),p0 20 [.cv (.func 42 [] []),.nc 19] (.call 3),p1 7 20] Xw
noncomputable def SE:gE :=
 p2 [p3 16 4,p0 17 [.Bs 16] (.zY 41 1 0),p0 6 [] (.alloc [.a0]),⟨none,[.nc 6,.jq 17],none,none,.st 1⟩] Xx
noncomputable def Xy:gE :=
 .seq (p2 [p3 13 5,qE 14 13 0 .neq] (.cond (.nc 14) (p2 [p1 15 5,p0 2 [.cv (.av [] 0 .full)] (.nil 1),p1 3 15] .ret) .skip)) SE
noncomputable def Xz:gE :=
 p2 [p0 9 [.Bs 1] (.zE (.str 3)),p0 10 [.cv (.func 40 [] []),.nc 9,.cv (.av [] 0 .full)] (.call 3),p1 8 10,qI 11 8 0,p0 12 [.Bs 8] (.ext 1),p1 4 11,p1 5 12] Xy
noncomputable def Xv:gE :=
 p2 [p0 1 [.jq 0] .box,p0 2 [.cv (.av [] 0 .full)] (.nil 1),qh 3 0] Xz
theorem aeg:qt Go.Proofs.Tryz.prog Up 14=some (Xv,24,[.tmp 2,.tmp 3]):=by kernel_rfl
noncomputable def XR:gE :=
 .seq (rA [p0 6 [.nc 2] (.zE .one),p1 7 0,p0 8 [.nc 6,.nc 7] (.call 3),p0 9 [.nc 2] (.zE .one),p1 10 1,p0 11 [.nc 9,.nc 10] (.call 3),qn 12 8 11 .lss,p1 5 12]) .ret
noncomputable def XQ:gE :=
 p2 [p0 5 [.cv (.bool false)] .mU] XR
theorem aen:qt Go.Proofs.Tryz.prog UG 45=some (XQ,13,[.tmp 5]):=by kernel_rfl
end Go.Proofs.YtkoioidpbbbaiaaGreat.Ab


namespace Go.Proofs.YtkoioidpbbbaiaaGreat.Ab
open Go
theorem Uc {k k':FuncId} {xs ys:List I} {v bo:I} {acc:c7} (h:k'=k→ys=xs→bo=v) (t:∀ p∈acc,p.1=k→p.2.1=xs→p.2.2=v):∀ p∈((k',ys,bo)::acc:c7),p.1=k→p.2.1=xs→p.2.2=v:=fun p aB=>by
 rcases sB.1 aB with rfl | aB
 ·exact h
 ·exact t p aB
end Go.Proofs.YtkoioidpbbbaiaaGreat.Ab


namespace Go.Proofs.YtkoioidpbbbaiaaGreat.Ab
open Go
set_option maxRecDepth 20000
set_option maxHeartbeats 4000000
noncomputable def Yf:gE :=
 .ov false [p0 5 [.jq 7] .mU]
theorem aez:ey Tryz.prog Kr (rB Tryz.prog 69 0) 0=some Yf:=by kernel_rfl
noncomputable def Yk:gE :=
 .block 1 (.ov false [p0 8 [.nc 2] .take,p0 9 [.jq 5] .mU,p0 10 [.Bs 9] (.yB 1 1 [.av [] 0 .full] [0]),p0 11 [.jq 8,.jq 10] (.app 1 24),⟨none,[.jq 2,.jq 11],none,none,.st 1⟩])
theorem aeD:ey Tryz.prog Kr (rC Tryz.prog 69 0) 0=some Yk:=by kernel_rfl
def Is (l:List (List Int)):I:=match l with | []=>.av [] 0 .full | _=>.av (l.map oX) l.length (.own 1)
theorem abG {l:List (List Int)} {e:List Int} (he:e≠[]) {yh fA Gi Gj r2 Jw HS u8 HT HP HQ HR:I} (ao:l.length≤100000) (Y:List ar) :
  ∃ Z,Sem Tryz.prog (.yield [ar.cells [Is l]].length) [Hk e] (([ar.cells [Is l]]++[ar.loop .ready none 69 [yh,fA,.ptr 0 0,Gi,Gj,r2,Jw,HS,u8,HT,HP,HQ,HR] [7] (rB Tryz.prog 69 0) (rC Tryz.prog 69 0) Kr])++Y) 0 (.bool true) (([ar.cells [Is (l++[e])]]++[ar.loop .ready none 69 [yh,fA,.ptr 0 0,Gi,Gj,r2,Jw,HS,u8,HT,HP,HQ,HR] [7] (rB Tryz.prog 69 0) (rC Tryz.prog 69 0) Kr])++(Y++Z)):=by
 refine ⟨[],?_⟩;rw [sN];obtain ⟨gb,e,rfl⟩:=tL he;refine Qi eG aez aeD (IW _ _ _) rfl (I0 (by simp)) ?_;unfold Yf;conv=>whnf
 refine ⟨rfl,IW _ _ _,?_⟩;rw [Kd];unfold Yk;cases l with
 | nil =>
   (conv=>whnf);refine ⟨rfl,by omega,?_⟩;(conv=>whnf);refine ⟨by decide,by decide,rfl,?_⟩;(conv=>whnf);show _∧(([ar.cells [Is ([]++[gb::e])]]++[ar.loop .busy none 69 [yh,fA,.ptr 0 0,Gi,Gj,r2,Jw,HS,u8,HT,HP,HQ,HR] [7] (rB Tryz.prog 69 0) (rC Tryz.prog 69 0) Kr])++Y)[[ar.cells [Is ([]++[gb::e])]].length]?=_∧lI ((([ar.cells [Is ([]++[gb::e])]]++[ar.loop .busy none 69 [yh,fA,.ptr 0 0,Gi,Gj,r2,Jw,HS,u8,HT,HP,HQ,HR] [7] (rB Tryz.prog 69 0) (rC Tryz.prog 69 0) Kr])++Y).set [ar.cells [Is ([]++[gb::e])]].length _) _;exact ⟨rfl,IW _ _ _,by rw [Kd];exact lI.refl _⟩
 | cons a l =>
   (conv=>whnf);refine ⟨rfl,by omega,?_⟩;(conv=>whnf);refine ⟨by decide,by simp only [sL] at ao ⊢;omega,by simp,?_⟩;(conv=>whnf);(have e1:List.map oX (a::l)++[I.av (List.map h0 (gb::e)) (gb::e).length .shared]=((a::l)++[gb::e]).map oX:=by rw [sJ];rfl);have dA:I.av (List.map oX (a::l)++[I.av (List.map h0 (gb::e)) (gb::e).length .shared]) ((a::l).length+1) (.own 1)=Is ((a::l)++[gb::e]):=by
    show _=I.av (((a::l)++[gb::e]).map oX) ((a::l)++[gb::e]).length (.own 1);rw [sJ,sA];rfl
   have l0:((([ar.cells [Is (a::l)]]++[ar.loop .busy none 69 [yh,fA,.ptr 0 0,Gi,Gj,r2,Jw,HS,u8,HT,HP,HQ,HR] [7] (rB Tryz.prog 69 0) (rC Tryz.prog 69 0) Kr])++Y).set 0 (ar.cells ([Is (a::l)].set 0 (I.av (List.map oX (a::l)) (a::l).length hE.shared)))).set 0 (ar.cells [I.av (List.map oX (a::l)++[I.av (List.map h0 (gb::e)) (gb::e).length .shared]) ((a::l).length+1) (.own 1)])=([ar.cells [Is ((a::l)++[gb::e])]]++[ar.loop .busy none 69 [yh,fA,.ptr 0 0,Gi,Gj,r2,Jw,HS,u8,HT,HP,HQ,HR] [7] (rB Tryz.prog 69 0) (rC Tryz.prog 69 0) Kr])++Y:=by
    rw [dA];rfl
   erw [l0];exact ⟨IW _ _ _,by erw [Kd];exact lI.refl _⟩
theorem PR (l:List (List Int)) (n:Nat) (c:hE):cr 8 (.av (l.map oX) n c)=true:=rU (d:=7) (f:=oX) (fun x=>rU (fun _=>rfl) _ _ _) l n c
theorem Xh (l:List (List Int)):cr 8 (Is l)=true:=by
 cases l with
 | nil=>rfl
 | cons a l=>exact PR _ _ _
theorem acj {k:FuncId} {cap:List I} {l:List (List Int)} (IH:Pk Tryz.prog k cap (l.map Hk)) (bJ:∀ e∈l,e≠[]) (ao:l.length≤100000):qB 69 [.av [] 0 .full,.func k [] cap] (Is l):=by
 refine Py eG aes rfl (Xh l) fun Q bp=>?_;unfold X4;obtain ⟨a7,cf⟩:∃ c,gE.AM (.nc 6) [7] (rB Tryz.prog 69 0) (rC Tryz.prog 69 0)=c:=⟨_,rfl⟩;rw [cf];conv=>whnf
 subst cf;refine Yl (f:=Hk) IH (fun i=>[ar.cells [Is (l.take i)]]) (by exact rfl) (by exact rfl) (fun _=>rfl) ?_ (rl:=none) (by exact rfl) (Hn:=[ar.cells [Is l]]) (by show [ar.cells [Is (l.take l.length)]]=_;rw [List.take_length]) ?_
 ·intro i hi Y;rw [show l.take (i+1)=l.take i++[l[i]] by rw [List.take_add_one,sj hi];rfl];exact abG (l:=l.take i) (e:=l[i]) (bJ _ (List.getElem_mem hi)) (by rw [List.length_take];omega) Y
 ·intro qL;cases l with
  | nil =>
    (conv=>whnf);exact bp _ _ _ (K4 (.inr rfl) (Xh _) rfl)
  | cons a l =>
    (conv=>whnf);exact bp _ _ _ (ahe (.inr rfl) (PR _ _ _) (.inl rfl))
theorem aci {k:FuncId} {cap:List I} {l:List (List Int)} (pw:cap.all (cr 7)=true) (IH:Pk Tryz.prog k cap (l.map Hk)) (bJ:∀ e∈l,e≠[]) (ao:l.length≤100000):qB 42 [.func k [] cap] (.av (l.map oX) l.length .shared):=by
 refine qR eG aem rfl (PR _ _ _) fun Q bp=>?_;unfold XP;conv=>whnf
 refine ⟨_,_,Oc (p5 rfl (p5 (Jr rfl pw) rfl)) (acj IH bJ ao) _ _,?_⟩;cases l with
 | nil =>
   (conv=>whnf);exact bp _ _ _ ⟨.inr rfl,_,rfl,_,yW rfl,rfl⟩
 | cons a l =>
   (conv=>whnf);exact bp _ _ _ ⟨.inr rfl,_,rfl,_,yW (PR _ _ _),rfl⟩
theorem WS:∀ {x y:List Int},x.map h0=y.map h0→x=y
 | [],[],_=>rfl
 | [],_::_,h=>by cases h
 | _::_,[],h=>by cases h
 | a::x,c::y,h=>by
   obtain ⟨ab,ae⟩:=List.cons.inj h;(have ab:a=c:=by injection ab);rw [ab,WS ae]
def LB (b:((List (Int×Int))×(Int×Int))×Unit) (x y:List Int):Option Bool :=
 (K9 b x).bind fun n=>(K9 b y).bind fun m=>some (decide (n<m))
theorem aiU {b:((List (Int×Int))×(Int×Int))×Unit} {x y:List Int} {v:Bool} (h:LB b x y=some v):qB 45 [.av (x.map h0) x.length .shared,.av (y.map h0) y.length .shared,.bS [.func 41 [lp b] []]] (B v):=by
 unfold LB at h;obtain ⟨n,aI,h⟩:=p9 h;obtain ⟨m,hm,h⟩:=p9 h;obtain rfl:=Option.some.inj h;refine Py eG aen rfl rfl fun Q bp=>?_;unfold XQ XR;conv=>whnf
 refine ⟨qa.pl,_,O6 aI,Hj,?_⟩;conv=>whnf
 refine ⟨qa.pl,_,O6 hm,(Uc (fun _ e=>?_) Hj),?_⟩
 ·have b':x.map h0=y.map h0:=by
   have:=(List.cons.inj (List.cons.inj e).2).1;injection this
  obtain rfl:x=y:=WS b';rw [aI] at hm;rw [Option.some.inj hm]
 conv=>whnf
 exact bp _ _ _ (K4 (.inr rfl) rfl rfl)

noncomputable def QX:gE :=
 .loop (some (qc false [1,1,3,1,6,3,10])) (p2 [p0 15 [.nc 14,.nc 13] (.bin .lss)] (.seq (.cond (.nc 15) .skip (.exit 0)) (.seq (.block 1 (p2 [p0 16 [.nc 12,.nc 14] (.kY 1),qi 17 16,p1 7 17] (p2 [p3 18 1,p3 19 7,p3 20 5,p0 21 [.nc 18,.nc 19,.nc 20] (.call 6)] (.cond (.nc 21) (qV [p1 22 7,p1 5 22]) .skip)))) (qV [q2 23 14 1,p1 14 23]))))
noncomputable def aak:gE :=
 p2 [p0 4 [.cv (.av [] 0 .full)] (.nil 1)] (p2 [p3 8 0,p0 9 [.Bs 8,.cv (.int .i64 0)] (.kY 1),qi 10 9,p1 5 10] (.seq (p2 [p1 11 0,p0 12 [.jq 11,.cv (.int .i64 1)] (.Bh 1 true false false),p0 13 [.nc 12] .zJ,qh 14 0] (.block 0 QX)) (p2 [p1 24 5,p1 4 24] .ret)))
theorem ae5:qt Tryz.prog Rh 44=some (aak,25,[.tmp 4]):=by kernel_rfl
def LA (l:LK) (better:(p_→p_→Option Bool)) (p':p_→Option p_):Nat→p_→Int→Option p_
 | 0,_,_=>none
 | m+1,s1,s2 =>
   if (decide (s2<((l.drop (1:Int).toNat).length:Int)))=true then
    qk (0≤s2∧s2<((l.drop (1:Int).toNat).length:Int)) <|
    (better (ix (l.drop (1:Int).toNat) s2) s1).bind fun aS =>
    if aS=true then
     LA l better p' m (ix (l.drop (1:Int).toNat) s2) (w (s2+(1:Int)))
    else
     LA l better p' m s1 (w (s2+(1:Int)))
   else
    p' s1
def O7 (l:LK) (better:(p_→p_→Option Bool)):Option p_ :=
 qk (0≤(0:Int)∧(0:Int)<(l.length:Int)) <|
 qk (0≤(1:Int)∧(1:Int)≤(l.length:Int)) <|
 LA l better (fun yn =>
   some yn) qj (ix l (0:Int)) (0:Int)

noncomputable def aaj:gE :=
 p2 [p0 1 [.jq 0] .box,p0 2 [.cv .a0] .mU] (p2 [p0 3 [.Bs 1] (.zY 70 0 1),p1 2 3] .ret)
theorem ae4:qt Tryz.prog UF 43=some (aaj,4,[.tmp 2]):=by kernel_rfl
def Zy (b:((qd×(Int×Int))×Unit)):Option Unit :=
 some ()
theorem TH {b:((qd×(Int×Int))×Unit)} {v:Unit} (h:Zy b=some v):qB 43 [(.bS [(.av (b.1.1.flatMap p7) b.1.1.length .shared),(h0 b.1.2.1),(h0 b.1.2.2),Hr])] (.func 70 [] [(.bS [(.bS [(.av (b.1.1.flatMap p7) b.1.1.length .shared),(h0 b.1.2.1),(h0 b.1.2.2),Hr])])]):=by
 refine qR eG ae4 rfl (Jr rfl (p5 (Iv (p5 (Iv (p5 (HD (fun _=>(p5 rfl (p5 rfl rfl))) _ _ _) (p5 rfl (p5 rfl (p5 rfl rfl))))) rfl)) rfl)) fun Q bp=>?_;have jJ:∀ T H,H4 [.tmp 2] (.func 70 [] [(.bS [(.bS [(qv b.1.1 .shared),(h0 b.1.2.1),(h0 b.1.2.2),Hr])])]) .ret T H→Q .ret T H:=fun T H bE=>bp _ T H bE;unfold Zy at h;unfold aaj;conv=>whnf
 exact jJ _ _ ⟨.inr rfl,_,rfl,_,(Vy I2 (rM (VA (l:=[(.bS [(qv b.1.1 .shared),(h0 b.1.2.1),(h0 b.1.2.2),Hr])]) (by first | exact qp.h | rfl | (simp [sc,I.settle];done)) (p5 (Iv (p5 (HD (fun _=>(p5 rfl (p5 rfl rfl))) _ _ _) (p5 rfl (p5 rfl (p5 rfl rfl))))) rfl)) I2)),rfl⟩

theorem aiR {l:(List (List Int))} {better:((List Int)→(List Int)→Option Bool)} {p':(List Int)→Option (List Int)} {s1:(List Int)} {s2:Int} {kf_better oid lo:Nat} {HV:List ar} {cv:List I} (aE:HV[oid]?=some (.cells cv)) (hd:cv.map I.view=cv) (fg:cv.map (kh HV)=cv) (Kv:cv.all (cr 7)=true) (Sc:∀ (ry:(List Int)) (BD:(List Int)) (r:Bool),better ry BD=some r→qB kf_better [(.av (ry.map h0) ry.length .shared),(.av (BD.map h0) BD.length .shared),.bS cv] (B r)) {v:(List Int)} {Q:cQ→List I→List ar→Prop}   (rn:∀ (yn:(List Int)) (qb:List I),p' yn=some v→ra 25 [(5,(.av (yn.map h0) yn.length .shared))] qb→Q (.exit 0) qb HV) {T:List I} (b0:eZ [false,true,false,false,false,true,false,false,false,false,false,false,true,true,true,false,false,false,false,false,false,false,false,false,false] T=qe 25 [(1,(.func kf_better [] [.ptr oid 0])),(5,(.av (s1.map h0) s1.length .shared)),(12,(.av ((l.drop (1:Int).toNat).map oX) (l.drop (1:Int).toNat).length .shared)),(13,(h0 ((l.drop (1:Int).toNat).length:Int))),(14,(h0 s2))]) (h:LA l better p' qj s1 s2=some v) :
  dQ Tryz.prog Rh 44 lo none QX T HV Q:=by
 unfold QX;skip;refine wp_loop b0 ?_;refine .intro (fun m T H=>∃ (s1:(List Int)) (s2:Int),T=qe 25 [(1,(.func kf_better [] [.ptr oid 0])),(5,(.av (s1.map h0) s1.length .shared)),(12,(.av ((l.drop (1:Int).toNat).map oX) (l.drop (1:Int).toNat).length .shared)),(13,(h0 ((l.drop (1:Int).toNat).length:Int))),(14,(h0 s2))]∧H=HV∧LA l better p' m s1 s2=some v) qj ⟨s1,s2,rfl,rfl,h⟩ ?_;clear h b0;rintro m T H ⟨s1,s2,rfl,rfl,h⟩;cases m
 ·exact r0 h
 rename_i m;rw [LA.eq_2] at h;conv=>whnf
 refine bs h (fun qx h=>?_) fun qx h=>?_
 ·rw [qx];conv=>whnf
  refine qD h id fun qQ h=>?_;rw [rG oX (l.drop (1:Int).toNat) s2 qQ];conv=>whnf
  obtain ⟨aS,qA,h⟩:=p9 h;have Cn:hW H (.ptr oid 0)=.bS cv:=by
   show (match H[oid]? with | some (.cells l)=>I.bS (((l.drop 0).map I.view).map (kh H)) | _=>.ptr oid 0)=_;rw [aE];show I.bS ((cv.map I.view).map (kh H))=_;rw [hd,fg]
  refine ⟨_,_,call6 (bs:=[(.av ((ix (l.drop (1:Int).toNat) s2).map h0) (ix (l.drop (1:Int).toNat) s2).length .shared),(.av (s1.map h0) s1.length .shared),.bS cv]) (by show [_,_,(hW H (.ptr oid 0)).cc]=_;rw [Cn];rfl) (by show ([_,_,hW H (.ptr oid 0)]:List I).all (cr 8)=true;rw [Cn];exact (p5 (rU (fun _=>rfl) _ _ _) (p5 (rU (fun _=>rfl) _ _ _) (p5 (Iv Kv) rfl)))) (Sc _ _ _ qA) rfl,?_⟩;conv=>whnf
  cases aS
  ·(conv=>whnf);replace h:=rr rfl h;exact ⟨m,sv m,s1,(w (s2+(1:Int))),rfl,rfl,h⟩
  ·(conv=>whnf);replace h:=rq rfl h;exact ⟨m,sv m,(ix (l.drop (1:Int).toNat) s2),(w (s2+(1:Int))),rfl,rfl,h⟩
 ·rw [qx];conv=>whnf
  exact rn _ _ h ⟨rfl,rfl⟩
theorem aiS {l:(List (List Int))} {better:((List Int)→(List Int)→Option Bool)} {kf_better oid:Nat} {HV:List ar} {cv:List I} (aE:HV[oid]?=some (.cells cv)) (hd:cv.map I.view=cv) (fg:cv.map (kh HV)=cv) (Kv:cv.all (cr 7)=true) (Sc:∀ (ry:(List Int)) (BD:(List Int)) (r:Bool),better ry BD=some r→qB kf_better [(.av (ry.map h0) ry.length .shared),(.av (BD.map h0) BD.length .shared),.bS cv] (B r)) {v:(List Int)} (h:O7 l better=some v):Sem Tryz.prog (.fn 44) [(.av (l.map oX) l.length .shared),(.func kf_better [] [.ptr oid 0])] HV HV.length (.av (v.map h0) v.length .shared) HV:=by
 refine rI eG ae5 rfl (a'.refl _ _) fun Q bp=>?_;unfold O7 at h;unfold aak;obtain ⟨HK,qJ⟩:∃ c,QX=c:=⟨_,rfl⟩;rw [qJ];conv=>whnf
 refine qD h id fun gM h=>?_;rw [rG oX l (0:Int) gM];conv=>whnf
 refine qD h id fun gN h=>?_;erw [YB oX l (1:Int) gN];conv=>whnf
 subst qJ;refine aiR aE hd fg Kv Sc ?_ (by exact rfl) h;intro yn qb h qo;obtain ⟨re,rfl⟩:=qo.ex;conv=>whnf
 obtain rfl:=Option.some.inj h;exact bp _ _ _ ⟨.inr rfl,lI.refl _,rfl⟩
theorem ME (n:Nat):(ql n).length=n:=by simp [ql]
theorem So {n:Nat} (aI:0<n):∀ e∈ri n (ql n),e≠[]:=fun e he h=>by
 have:=aeb (ME n) he;rw [h] at this;simp at this;omega
def Pw:Nat→Nat
 | 0=>1
 | n+1=>(n+1)*Pw n
theorem Vr {α β:Type} {f:α→List β} {c:Nat}:∀ {l:List α},(∀ x∈l,(f x).length=c)→(l.flatMap f).length=l.length*c
 | [],_=>by simp
 | a::l,h=>by
   rw [List.flatMap_cons,sA,h a (by simp),Vr fun x aj=>h x (by simp [aj]),sL,Nat.succ_mul];omega
theorem WA:∀ (n:Nat) (left:List Int),left.length=n→(ri n left).length=Pw n
 | 0,_,_=>rfl
 | n+1,left,h=>by
   show (left.flatMap fun x=>(ri n (left.erase x)).map (x::·)).length=(n+1)*Pw n;rw [Vr (c:=Pw n) fun x aj=>by rw [sX];exact WA n _ (by rw [tT aj];omega),h]
theorem WC {n:Nat} (aI:n≤7):(ri n (ql n)).length≤100000:=by
 rw [WA n _ (ME n)]
 match n,aI with
 | 0,_ | 1,_ | 2,_ | 3,_ | 4,_ | 5,_ | 6,_ | 7,_=>decide
theorem abT {P:Program} {k:FuncId} {args:List I} {H H':List ar} {lo:Nat} {r:I} (h:Sem P (.fn k) args H H.length r H') (aB:cr 8 r=true):oV P 0 lo (.fn k) args H r H:=by
 refine ⟨_,EB h,?_⟩;simp only [eQ,EA,sb,yW aB,sf]
theorem Ii {d:Nat} (b:((List (Int×Int))×(Int×Int))×Unit):cr (d+3) (lp b)=true:=Iv (p5 (HD (fun _=>p5 rfl (p5 rfl rfl)) _ _ _) (p5 rfl (p5 rfl (p5 rfl rfl))))
def K6 (p:qf):Option (List Int×Int) :=
 (rV p []).bind fun r=>match r with
 | (none,q)=>if decide (q≠0)=true then some ([],q) else none
 | (some b,q)=>if decide (q≠0)=true then some ([],q) else
   qk (0<b.1.1.length∧b.1.1.length≤7) <|
   (O7 (ri b.1.1.length (ql b.1.1.length)) (LB b)).bind fun l=>some (l,0)
theorem Tx {p:qf} {v:List Int×Int} (h:K6 p=some v):qB 14 [.agg [.av (p.1.flatMap p7) p.1.length .shared,h0 p.2.1,h0 p.2.2]] (.tuple [.av (v.1.map h0) v.1.length .shared,h0 v.2]):=by
 unfold K6 at h;obtain ⟨⟨aS,bj⟩,ai,h⟩:=p9 h;refine qR eG aeg rfl (JG (p5 (rU (fun _=>rfl) _ _ _) (p5 rfl rfl))) fun Q bp=>?_;have jJ:∀ T H,H4 [.tmp 2,.tmp 3] (.tuple [(.av (v.1.map h0) v.1.length .shared),(h0 v.2)]) .ret T H→Q .ret T H:=fun T H bE=>bp _ T H bE;unfold Xv Xz Xy;obtain ⟨bt,eS⟩:∃ c,SE=c:=⟨_,rfl⟩;rw [eS];conv=>whnf
 refine ⟨qa.pl,_,N0 ai,?_⟩;rcases aS with _ | b
 ·conv=>whnf
  refine bs h (fun af h=>?_) fun af h=>?_
  ·rw [af];(conv=>whnf);obtain rfl:=Option.some.inj h;exact jJ _ _ (Ix rfl rfl)
  ·cases h
 ·conv=>whnf
  refine bs h (fun af h=>?_) fun af h=>?_
  ·rw [af];(conv=>whnf);obtain rfl:=Option.some.inj h;exact jJ _ _ (Ix rfl rfl)
  ·rw [af];(conv=>whnf);subst eS;unfold SE Xx Xw;obtain ⟨⟨Di,Ng⟩,h⟩:=q_ h;obtain ⟨l,ao,h⟩:=p9 h;obtain rfl:=Option.some.inj h;(conv=>whnf);refine ⟨p5 (Ii b) rfl,_,TH (b:=b) (v:=()) rfl,?_⟩;(conv=>whnf);have pw:[I.bS [lp b]].all (cr 7)=true:=p5 (Iv (p5 (Ii b) rfl)) rfl;refine ⟨p5 (Jr rfl pw) rfl,_,aci pw (Yq Ng Di) (So Di) (WC Ng),?_⟩;(conv=>whnf);refine ⟨_,_,abT (aiS (better:=LB b) (kf_better:=45) (cv:=[.func 41 [lp b] []]) (oid:=1) rfl rfl rfl (p5 (Jr (p5 (Ii b) rfl) rfl) rfl) (fun ry BD r aY=>aiU aY) ao) (rU (fun _=>rfl) _ _ _),?_⟩;(conv=>whnf);exact jJ _ _ (Ix rfl rfl)
end Go.Proofs.YtkoioidpbbbaiaaGreat.Ab


namespace Go.Proofs.YtkoioidpbbbaiaaGreat.Ab
open Go
noncomputable def SG:gE :=
 .ov true [p3 54 8, p0 55 [.Bs 54] .z4, qz 56 55 0, qz 57 56 0, qi 58 57, p0 59 [.nc 12] (.yM 0), qi 60 59, p0 61 [.nc 12] (.yM 1), p0 62 [.Bs 61] (.zE (.str 2)), p0 63 [.nc 12] (.yM 0), p0 64 [.Bs 63] (.other (Oper.mk (some 64) (Op.load 3 (Operand.tmp 63)) 3 "curl.go:119" (Array.mk [Edge.mk 9 Ground.data, Edge.mk 13 (Ground.gcOnly Departure.lateStores)]) none) 13), q2 65 64 1, rv 66 58 60 2, ⟨none, [.jq 66, .jq 62], none, none, .other (Oper.mk none (Op.store 54 (Operand.tmp 66) (Operand.tmp 62)) 0 "curl.go:119" (Array.mk [Edge.mk 12 Ground.data, Edge.mk 8 Ground.data, Edge.mk 0 Ground.phase, Edge.mk 1 Ground.phase, Edge.mk 2 Ground.phase, Edge.mk 3 Ground.phase, Edge.mk 4 Ground.phase, Edge.mk 5 Ground.phase, Edge.mk 6 Ground.phase, Edge.mk 7 Ground.phase, Edge.mk 8 Ground.phase, Edge.mk 9 (Ground.textOnly Departure.lateStores), Edge.mk 10 (Ground.textOnly Departure.lateStores), Edge.mk 11 (Ground.textOnly Departure.lateStores)]) none) 13⟩, p1 10 65]
noncomputable def XE:gE :=
 .seq (p2 [p1 39 10,p0 40 [.nc 3] (.yM 0),qi 41 40,q3 42 41,qE 43 42 1 .sub,p0 44 [.nc 12] (.yM 0),qi 45 44,p0 46 [.Bs 45] (.yB 1 1 [.int .i64 0] [0]),p0 47 [.cv (.func 50 [] []),.nc 39,.nc 43,.nc 46] (.call 3),p0 48 [.Bs 47] (.un .not),p1 49 48,cl 50 [.nc 12] 49 false (.yM 1),cl 51 [.Bs 50] 49 false (.zE (.str 2)),⟨some 52,[.cv (.func 51 [] []),.nc 51],some (49,false),none,.call 3⟩,p0 53 [.Bs 49,.cv (.bool true),.Bs 52] .pick] (.cond (.nc 53) (p2 [qh 6 0,qh 7 3] .ret) .skip)) SG
noncomputable def SH:gE :=
 .block 1 (p2 [p0 37 [.nc 33,.nc 35] (.kY 3),p0 38 [.Bs 37] (.zE (.str 3)),p0 12 [] (.alloc [.int .i64 0,.int .i64 0,.int .i64 0]),⟨none,[.nc 12,.jq 38],none,none,.st 3⟩] XE)
noncomputable def XF:gE :=
 p2 [p1 72 2,q3 73 72,p1 6 73,qh 7 0] .ret
noncomputable def SI:gE :=
 .seq (p2 [p1 68 8,p1 69 1,p0 70 [.cv (.func 41 [] []),.nc 68,.nc 69] (.call 6),qE 71 70 0 .gtr] (.cond (.nc 71) (p2 [qh 6 0,qh 7 23] .ret) .skip)) XF
noncomputable def XG:gE :=
 .seq (p2 [p3 33 2,p0 34 [.nc 33] .zJ,qh 35 0] (.block 0 (.loop (some (qc false [1,3,4,1,1,1,22,3,38])) (p2 [p0 36 [.nc 35,.nc 34] (.bin .lss)] (.seq (.cond (.nc 36) .skip (.exit 0)) (.seq SH (qV [q2 67 35 1,p1 35 67]))))))) SI
noncomputable def SJ:gE :=
 p2 [p3 23 8,p3 24 8,p0 25 [.Bs 24] .z4,qz 26 25 0,qz 27 26 0,qi 28 27,p0 29 [.cv (.func 49 [] []),.nc 28] (.call 2),p0 30 [.Bs 23] .z4,qz 31 30 0,qz 32 31 0,⟨none,[.jq 32,.jq 29],none,none,.st 1⟩] XG
noncomputable def XH:gE :=
 .seq (p2 [p3 20 9,qE 21 20 0 .neq] (.cond (.nc 21) (p2 [p1 22 9,qh 6 0,p1 7 22] .ret) .skip)) (p2 [qh 10 0] SJ)
noncomputable def XI:gE :=
 p2 [p0 14 [.nc 3] (.zE (.str 3)),p3 15 1,p0 16 [.Bs 15] (.yB 1 1 [.av [] 0 .full] [0]),p0 17 [.cv (.func 40 [] []),.nc 14,.nc 16] (.call 2),p1 13 17,qI 18 13 0,p0 19 [.Bs 13] (.ext 1),p1 8 18,p1 9 19] XH
noncomputable def XD:gE :=
 p2 [p0 3 [.jq 0] .yy,qh 6 0,qh 7 0] XI
theorem aei:qt Go.Proofs.Tryz.prog Uq 19=some (XD,74,[.tmp 6,.tmp 7]):=by kernel_rfl
noncomputable def agB:gE :=
 p2 [p0 5 [] (.yB 0 2 [.int .i64 0,.int .i64 0] []),p1 6 0,p0 7 [.jq 5,.jq 6] (.app 2 16),⟨some 2,[.jq 7],none,some 7,.Bq⟩] .ret
noncomputable def XS:gE :=
 p2 [p0 2 [.cv (.av [] 0 .full)] (.nil 2)] (.seq (p2 [p3 3 0, p0 4 [.Bs 3, .cv (.av [] 0 .full)] (.other (Oper.mk (some 4) (Op.binOp .eql 22 (Operand.tmp 3) (Operand.const (Value.slice none 0 0)) 22) 4 "slices.go:357" (Array.mk [Edge.mk 0 Ground.data]) none) 0)] (.cond (.nc 4) (p2 [p0 2 [.cv (.av [] 0 .full)] (.nil 2)] .ret) .skip)) agB)
theorem aeo:qt Go.Proofs.Tryz.prog UH 49=some (XS,8,[.tmp 2]):=by kernel_rfl
end Go.Proofs.YtkoioidpbbbaiaaGreat.Ab


namespace Go.Proofs.YtkoioidpbbbaiaaGreat.Ab
open Go
set_option maxRecDepth 20000
set_option maxHeartbeats 4000000
theorem acg {l:List (Int×Int)} (ao:l≠[]) (ab:l.length≤1000) (H:List ar):Sem Tryz.prog (.fn 49) [.av (l.flatMap p7) l.length .shared] H H.length (.ref H.length 0 l.length none 2) (H++[.cells (l.flatMap p7)]):=by
 obtain ⟨a,l,rfl⟩:=tL ao;refine rI eG aeo rfl (a'.append _ _ _) fun Q bp=>?_;unfold XS;conv=>whnf
 refine ⟨.bool false,H,fun C=>rfl,?_⟩;conv=>whnf
 refine ⟨rf p7 2 (fun _=>rfl) _,by simp only [sL] at ab ⊢;omega,?_⟩;conv=>whnf
 refine ⟨rfl,by simp only [sL] at ab ⊢;omega,?_⟩;conv=>whnf
 refine .inl ⟨by simp,?_⟩;conv=>whnf
 rw [sC];exact bp _ _ _ ⟨.inr rfl,lI.refl _,rfl⟩
theorem afY {d:Nat} (l:List (Int×Int)) (n:Nat) (c:hE):cr (d+2) (.av (l.flatMap p7) n c)=true:=HD (fun _=>p5 rfl (p5 rfl rfl)) _ _ _
theorem acf {l:List (Int×Int)} (ao:l≠[]) (ab:l.length≤1000) (H:List ar) (lo:Nat):oV Tryz.prog 2 lo (.fn 49) [.av (l.flatMap p7) l.length .shared] H (.ref H.length 0 l.length none 2) (H++[.cells (l.flatMap p7)]):=by
 refine ⟨_,EB (acg ao ab H),?_⟩;have e1:DM 2 H.length (H++[ar.cells (l.flatMap p7)]) (.ref H.length 0 l.length none 2)=some H.length:=by simp [DM,Co,yU]
 have b':(H++[ar.cells (l.flatMap p7)])[H.length]?=some (.cells (l.flatMap p7)):=by simp
 have dA:bM (H++[ar.cells (l.flatMap p7)]) H.length H.length H.length 8 (.ref H.length 0 l.length none 2)=some (.ref H.length 0 l.length none 2):=by simp [bM]
 have l0:ea (bM (H++[ar.cells (l.flatMap p7)]) H.length H.length H.length 8) (l.flatMap p7)=some (l.flatMap p7):=zU fun u hu=>by
  obtain ⟨x,_,aj⟩:=tJ.1 hu;simp only [p7,sB,tQ,or_false] at aj;rcases aj with rfl | rfl <;> rfl
 simp only [eQ,EA,sb,e1,b',dA,l0,sd,if_true]
theorem ad1 {P:Program} {C:b8} {lo id:Nat} {o:Oper} {t:TypeId} {e:Operand} {x y z:I} {H:List ar} (aq:o.op=.load t e) (cu:iL P t=some .one) (ag:H[id]?=some (.cells [x,y,z])):a3 P C lo o 13 [.ptr id 0] H=some (x.view,H):=by
 unfold a3;rw [aq];show dF P lo 13 t H [.ptr id 0]=_;unfold dF;simp only [ag,sL,tV,if_true];rw [U9 cu];simp only [Pn,ag,Mq];rfl
theorem Tm:∀ (S:List (Int×Int)) (i:Nat) (a b:Int),i<S.length→((S.flatMap p7).set (i*2) (h0 a)).set (i*2+1) (h0 b)=(S.set i (a,b)).flatMap p7
 | [],i,a,b,h=>absurd h (by simp)
 | s::S,0,a,b,_=>rfl
 | s::S,i+1,a,b,h=>by
   have a8:=Tm S i a b (by simpa using h);show ((h0 s.1::h0 s.2::S.flatMap p7).set ((i+1)*2) (h0 a)).set ((i+1)*2+1) (h0 b)=h0 s.1::h0 s.2::(S.set i (a,b)).flatMap p7;rw [←a8,show (i+1)*2=i*2+1+1 by omega,show i*2+1+1+1=(i*2+1)+1+1 by omega];rfl
theorem ahD {P:Program} {C:b8} {lo id i:Nat} {o:Oper} {t:TypeId} {e1 b':Operand} {S:List (Int×Int)} {a b:Int} {H:List ar} (aq:o.op=.store t e1 b') (ah:bF P t=some 2) (bD:lo≤id) (hi:i<S.length) (ag:H[id]?=some (.cells (S.flatMap p7))) :
  a3 P C lo o 13 [.ptr id (i*2),.agg [h0 a,h0 b]] H=some (.a0,H.set id (.cells ((S.set i (a,b)).flatMap p7))):=by
 have ao:(S.flatMap p7).length=S.length*2:=rf p7 2 (fun _=>rfl) S;unfold a3;rw [aq];show gm P lo 13 t H [.ptr id (i*2),.agg [h0 a,h0 b]]=_;unfold gm;simp only [ag];rw [if_neg (by omega)];unfold g8;simp only [ah,I.cells,gT,ag,if_pos bD];rw [if_pos ⟨rfl,by omega⟩,←Tm S i a b hi];rfl
theorem St {α:Type} {f:α→α} {l:List α} (h:∀ u∈l,f u=u):l.map f=l:=by
 conv=>rhs;rw [←List.map_id l]
 exact List.map_congr_left fun u hu=>h u hu
theorem Yn {S:List (Int×Int)} {H:List ar} {id n:Nat} {cap:Option Nat} (ag:H[id]?=some (.cells (S.flatMap p7))) (aI:S.length=n):rowOf H (.ref id 0 n cap 2)=some (S.flatMap p7):=by
 have ao:(S.flatMap p7).length=S.length*2:=rf p7 2 (fun _=>rfl) S;simp only [rowOf,ag,sC,List.drop_zero];rw [if_pos (by omega),td (by omega),St (Zc (f:=p7) (fun _=>O0 rfl (O0 rfl Zd)) S)]
abbrev qy:=Int×(Int×Int)
def M' (n:Int):List qy→List (Int×Int)→Int→Option (Option (List (Int×Int)))
 | [],S,_=>some (some S)
 | c::r,S,next=>(I5 next (w (n-1)) [c.1]).bind fun a =>
   if a=true then (LD c.2).bind fun bad=>if bad=true then some none else qk (0≤c.1∧c.1<(S.length:Int)) <| M' n r (S.set c.1.toNat c.2) (w (c.1+1))
   else some none
def Kh (p:qf) (order:List Int) (l:List qy):Option (Int×Int) :=
 (rV p [order]).bind fun r=>match r with
 | (none,q)=>if decide (q≠0)=true then some (0,q) else none
 | (some b,q)=>if decide (q≠0)=true then some (0,q) else
   qk (p.1≠[]∧p.1.length≤1000∧l.length≤1000) <|
   (M' p.1.length l p.1 0).bind fun o=>match o with
   | none=>some (0,3)
   | some S=>(K9 ((S,p.2),()) order).bind fun c=>if decide (0<c)=true then some (0,23) else some (l.length,0)
theorem TB {p:qf} {order:List Int} {l:List qy} {v:Int×Int} (h:Kh p order l=some v):qB 19 [.agg [.av (p.1.flatMap p7) p.1.length .shared,h0 p.2.1,h0 p.2.2],.av (order.map h0) order.length .shared,.av (l.flatMap qw) l.length .shared] (.tuple [h0 v.1,h0 v.2]):=by
 unfold Kh at h;obtain ⟨⟨aS,bj⟩,ai,h⟩:=p9 h;refine qR eG aei rfl (JG (p5 rfl (p5 rfl rfl))) fun Q bp=>?_;have jJ:∀ T H,H4 [.tmp 6,.tmp 7] (.tuple [h0 v.1,h0 v.2]) .ret T H→Q .ret T H:=fun T H bE=>bp _ T H bE;unfold XD XI XH;obtain ⟨nu,Nb⟩:∃ c,SJ=c:=⟨_,rfl⟩;rw [Nb];conv=>whnf
 refine ⟨rfl,?_⟩;conv=>whnf
 rcases aS with _ | b
 ·refine ⟨_,_,abW ai,?_⟩;conv=>whnf
  refine bs h (fun af h=>?_) fun af h=>?_
  ·rw [af];(conv=>whnf);obtain rfl:=Option.some.inj h;exact jJ _ _ (Ix rfl rfl)
  ·cases h
 ·obtain ⟨rfl,rfl,_⟩:=O4 ai;refine ⟨_,_,abV ai,?_⟩;conv=>whnf
  refine bs h (fun af h=>?_) fun af h=>?_
  ·exact absurd af (by decide)
  subst Nb;unfold SJ;obtain ⟨⟨bJ,aB,ao⟩,h⟩:=q_ h;obtain ⟨o,ak,h⟩:=p9 h;obtain ⟨bt,eS⟩:∃ c,SH=c:=⟨_,rfl⟩;obtain ⟨dV,Cr⟩:∃ c,SI=c:=⟨_,rfl⟩;unfold XG;rw [eS,Cr];conv=>whnf
  refine ⟨_,_,acf bJ aB _ _,?_⟩;conv=>whnf
  have el:(l.flatMap qw).length=l.length*3:=rf qw 3 (fun _=>rfl) _
  refine .intro (fun m T H=>∃ (i:Nat) (S:List (Int×Int)) (next:Int) (Y:List ar),i≤l.length∧m=l.length-i∧S.length=p.1.length∧M' p.1.length (l.drop i) S next=some o ∧
   T=qe 74 [(1,.av (order.map h0) order.length .shared),(2,.av (l.flatMap qw) l.length .shared),(3,.bS [.av (p.1.flatMap p7) p.1.length .shared,h0 p.2.1,h0 p.2.2]),(8,.ptr 0 0),(10,h0 next),(33,.av (l.flatMap qw) l.length .shared),(34,h0 l.length),(35,h0 i)] ∧
   H=ar.cells [.ref 1 0 p.1.length none 2,h0 p.2.1,h0 p.2.2,Hr]::ar.cells (S.flatMap p7)::Y) l.length ⟨0,p.1,0,[],sE _,rfl,rfl,ak,rfl,rfl⟩ ?_
  rintro m T H ⟨i,S,next,Y,hi,rfl,cp,al,rfl,rfl⟩;conv=>whnf
  refine HL (fun aR=>?_) (fun aR=>?_)
  ·(have HN:i<l.length:=by omega);rw [s0 HN] at al;unfold M' at al;obtain ⟨a,cu,al⟩:=p9 al;subst eS;unfold SH XE;obtain ⟨a7,cf⟩:∃ c,SG=c:=⟨_,rfl⟩;rw [cf];(conv=>whnf);(have IG:0≤(i:Int)∧(i:Int)<(l.length:Int):=by omega);refine ⟨IG,?_⟩;rw [r6 qw 3 H8 l (i:Int) IG];rw [rJ HN];obtain ⟨c,R_⟩:∃ c,c=l[i]:=⟨_,rfl⟩;rw [←R_] at cu al ⊢;(conv=>whnf);refine Ew (x:=ar.cells [h0 0,h0 0,h0 0]) (by first | exact qp.h | rfl | (simp [sc,I.settle];done)) ?_
   (conv=>whnf);rw [rZ];refine Ew (x:=ar.cells [h0 c.1,h0 c.2.1,h0 c.2.2]) (by first | exact qp.h | rfl | (simp [sc,I.settle];done)) ?_
   (conv=>whnf);refine ⟨p5 rfl (p5 rfl (p5 rfl rfl)),_,LC cu,?_⟩;(conv=>whnf);cases a with
   | false =>
     obtain rfl:=Option.some.inj (rr rfl al);(conv=>whnf);obtain rfl:=Option.some.inj h;exact jJ _ _ (Ix rfl rfl)
   | true =>
     obtain ⟨bad,gN,al⟩:=p9 (rq rfl al);(conv=>whnf);refine Ew (x:=ar.cells [h0 c.1,h0 c.2.1,h0 c.2.2]) (by first | exact qp.h | rfl | (simp [sc,I.settle];done)) ?_
     (conv=>whnf);refine ⟨p5 rfl rfl,_,ZC gN,?_⟩;(conv=>whnf);cases bad with
     | true =>
       obtain rfl:=Option.some.inj (rq rfl al);(conv=>whnf);obtain rfl:=Option.some.inj h;exact jJ _ _ (Ix rfl rfl)
     | false =>
       obtain ⟨jM,al⟩:=q_ (rr rfl al);(conv=>whnf);subst cf;unfold SG;(conv=>whnf);refine Ew (x:=ar.cells [h0 c.1,h0 c.2.1,h0 c.2.2]) (by first | exact qp.h | rfl | (simp [sc,I.settle];done)) ?_
       (conv=>whnf);refine Ew (x:=ar.cells [h0 c.1,h0 c.2.1,h0 c.2.2]) (by first | exact qp.h | rfl | (simp [sc,I.settle];done)) ?_
       (conv=>whnf);refine ⟨_,_,fun C=>ad1 (x:=h0 c.1) rfl (by kernel_rfl) (by first | exact qp.h | rfl | (simp [sc,I.settle];done)),?_⟩
       (conv=>whnf);refine ⟨by omega,?_⟩;(conv=>whnf);refine ⟨.a0,ar.cells [.ref 1 0 p.1.length none 2,h0 p.2.1,h0 p.2.2,Hr]::ar.cells ((S.set c.1.toNat c.2).flatMap p7)::(Y++[ar.cells [h0 c.1,h0 c.2.1,h0 c.2.2]]),fun C=>Eq.trans (by rw [sC];exact ahD (S:=S) (i:=c.1.toNat) (id:=1) rfl (by kernel_rfl) (sE _) (by omega) rfl) rfl,?_⟩;(conv=>whnf);(have rS:IntKind.i64.wrap ((i:Int)+1)=((i+1:Nat):Int):=by rw [HU _ (by omega) (by omega)];omega);exact ⟨l.length-(i+1),by omega,i+1,S.set c.1.toNat c.2,w (c.1+1),_,by omega,rfl,by simpa using cp,al,by rw [rS];rfl,rfl⟩
  ·(obtain rfl:i=l.length:=by omega);rw [vb] at al;obtain rfl:=Option.some.inj al;obtain ⟨c,adi,h⟩:=p9 h;(conv=>whnf);subst Cr;unfold SI XF;have cI:rowOf (ar.cells [.ref 1 0 p.1.length none 2,h0 p.2.1,h0 p.2.2,Hr]::ar.cells (S.flatMap p7)::Y) (.ref 1 0 p.1.length none 2)=some (S.flatMap p7):=Yn rfl cp;have Cn:iD (ar.cells [.ref 1 0 p.1.length none 2,h0 p.2.1,h0 p.2.2,Hr]::ar.cells (S.flatMap p7)::Y) (.ptr 0 0)=lp ((S,p.2),()):=by
    show I.bS [kh _ (.ref 1 0 p.1.length none 2),h0 p.2.1,h0 p.2.2,Hr]=_;have gb:kh (ar.cells [.ref 1 0 p.1.length none 2,h0 p.2.1,h0 p.2.2,Hr]::ar.cells (S.flatMap p7)::Y) (.ref 1 0 p.1.length none 2)=.av (S.flatMap p7) p.1.length .shared:=by
     show (match rowOf _ (.ref 1 0 p.1.length none 2) with | some row=>I.av row p.1.length .shared | none=>.ref 1 0 p.1.length none 2)=_;rw [cI]
    rw [gb,←cp]
   (conv=>whnf);refine ⟨_,_,call6 (bs:=[lp ((S,p.2),()),.av (order.map h0) order.length .shared]) (by rw [sG,Cn];rfl) (by rw [sG,Cn];exact p5 (Ii _) (p5 (rU (fun _=>rfl) _ _ _) rfl)) (O6 adi) rfl,?_⟩;(conv=>whnf);refine bs h (fun af h=>?_) fun af h=>?_
   ·rw [af];(conv=>whnf);obtain rfl:=Option.some.inj h;exact jJ _ _ (Ix rfl rfl)
   ·rw [af];(conv=>whnf);obtain rfl:=Option.some.inj h;exact jJ _ _ (Ix rfl rfl)
end Go.Proofs.YtkoioidpbbbaiaaGreat.Ab


namespace Go.Proofs.YtkoioidpbbbaiaaGreat.Ab
open Go
noncomputable def SQ:gE :=
 .block 1 (rA [p0 20 [.nc 5] (.yM 0),qi 21 20,p3 22 1,p3 23 6,rv 24 22 23 3,qz 25 24 0,qi 26 25,p3 27 1,p3 28 6,rv 29 27 28 3,qz 30 29 1,p0 31 [.Bs 30] (.zE (.str 2)),rv 32 21 26 2,⟨none,[.jq 32,.jq 31],none,none,.st 2⟩])
noncomputable def XU:gE :=
 .seq (p2 [p3 14 6,p3 15 1,q3 16 15,qn 17 14 16 .lss] (.cond (.nc 17) .skip (.exit 0))) (.seq SQ (qV [p1 18 6,q2 19 18 1,p1 6 19]))
noncomputable def P0:gE :=
 .seq (p2 [qh 6 0] (.block 0 (.loop (some (qc false [1,1,2,3,27])) XU))) (p2 [p0 33 [.Bs 5] (.zE (.str 3)),⟨none,[.nc 4,.jq 33],none,none,.st 3⟩] .ret)
noncomputable def XV:gE :=
 .seq (.two [p0 7 [] (.yB 0 2 [.int .i64 0,.int .i64 0] []),p0 8 [.nc 2] (.yM 0),p0 9 [.Bs 8] (.zF .one),p0 10 [.jq 7,.jq 9] (.yt 2 16),p0 11 [.nc 2] (.yM 1),p0 12 [.Bs 11] (.zF (.str 2)),p0 13 [.Bs 10,.Bs 12] (.build [.av [] 0 .full,.int .i64 0,.int .i64 0] [(0,1),(1,2)]),p0 5 [] (.alloc [.av [] 0 .full,.int .i64 0,.int .i64 0]),⟨none,[.nc 5,.jq 13],none,none,.st 3⟩] [p0 7 [] (.yB 0 2 [.int .i64 0,.int .i64 0] []),p0 8 [.nc 2] (.yM 0),p0 9 [.Bs 8] (.zF .one),p0 5 [] (.alloc [.av [] 0 .full,.int .i64 0,.int .i64 0]),p0 10 [.jq 7,.jq 9] (.yt 2 16),p0 11 [.nc 2] (.yM 1),p0 12 [.Bs 11] (.zF (.str 2)),p0 13 [.Bs 10,.Bs 12] (.build [.av [] 0 .full,.int .i64 0,.int .i64 0] [(0,1),(1,2)]),⟨none,[.nc 5,.jq 13],none,none,.st 3⟩]) P0
noncomputable def XT:gE :=
 p2 [p0 2 [.jq 0] .yy,p0 4 [] (.alloc [.av [] 0 .full,.int .i64 0,.int .i64 0])] XV
theorem aep:qt Go.Proofs.Tryz.prog Rj 54=some (XT,34,[.cell 4 (.str 3)]):=by kernel_rfl
end Go.Proofs.YtkoioidpbbbaiaaGreat.Ab


namespace Go.Proofs.YtkoioidpbbbaiaaGreat.Ab
open Go
set_option maxRecDepth 20000
set_option maxHeartbeats 4000000
def LQ:List qy→List (Int×Int)→Option (List (Int×Int))
 | [],S=>some S
 | c::r,S=>qk (0≤c.1∧c.1<(S.length:Int)) <| LQ r (S.set c.1.toNat c.2)
def O_ (p:qf) (l:List qy):Option qf :=
 qk (p.1≠[]∧p.1.length≤1000∧l.length≤1000) <| (LQ l p.1).bind fun S=>some (S,p.2)
theorem WN {p:qf} {l:List qy} {S':List (Int×Int)} (ao:l.length≤1000) (C':LQ l p.1=some S') {vid rid:Nat} {Hs:List (Int×Int)→List ar} (aQ:∀ S,∃ x,(Hs S)[0]?=some (.cells [x,h0 0,h0 0])) (ad:∀ S,(Hs S)[vid]?=some (.cells [.ref rid 0 p.1.length none 2,h0 p.2.1,h0 p.2.2])) (ai:∀ S,(Hs S)[rid]?=some (.cells (S.flatMap p7))) (ah:∀ S bL,(Hs S).set rid (.cells (bL.flatMap p7))=Hs bL)
  (nJ:∀ (S:List (Int×Int)) (T:List I),S.length=p.1.length→df T 4=.ptr 0 0→H4 [.cell 4 (.str 3)] (.agg [.av (S.flatMap p7) S.length .shared,h0 p.2.1,h0 p.2.2]) .ret T ((Hs S).set 0 (.cells [.ref rid 0 p.1.length none 2,h0 p.2.1,h0 p.2.2])))
  {Q:cQ→List I→List ar→Prop} (bp:∀ T H,H4 [.cell 4 (.str 3)] (.agg [.av (S'.flatMap p7) S'.length .shared,h0 p.2.1,h0 p.2.2]) .ret T H→Q .ret T H) {T:List I} {v2:I} (b0:T=qe 34 [(1,.av (l.flatMap qw) l.length .shared),(2,v2),(4,.ptr 0 0),(5,.ptr vid 0)]) :
  dQ Tryz.prog Rj 54 0 none P0 T (Hs p.1) Q:=by
 subst b0;unfold P0 XU;obtain ⟨a7,cf⟩:∃ c,SQ=c:=⟨_,rfl⟩;rw [cf];conv=>whnf
 refine .intro (fun m T H=>∃ (i:Nat) (S:List (Int×Int)),i≤l.length∧m=l.length-i∧S.length=p.1.length∧LQ (l.drop i) S=some S'∧T=qe 34 [(1,.av (l.flatMap qw) l.length .shared),(4,.ptr 0 0),(5,.ptr vid 0),(6,h0 i)]∧H=Hs S) l.length ⟨0,p.1,sE _,rfl,rfl,C',rfl,rfl⟩ ?_;rintro m T H ⟨i,S,hi,rfl,cp,al,rfl,rfl⟩;conv=>whnf
 refine HL (fun aR=>?_) (fun aR=>?_)
 ·have HN:i<l.length:=by omega
  rw [s0 HN] at al;unfold LQ at al;obtain ⟨jM,al⟩:=q_ al;subst cf;unfold SQ;conv=>whnf
  refine Ew (ad S) ?_;conv=>whnf
  have IG:0≤(i:Int)∧(i:Int)<(l.length:Int):=by omega
  refine ⟨IG,?_⟩;rw [r6 qw 3 H8 l (i:Int) IG];rw [rJ HN];conv=>whnf
  refine ⟨IG,?_⟩;rw [r6 qw 3 H8 l (i:Int) IG];rw [rJ HN];obtain ⟨c,R_⟩:∃ c,c=l[i]:=⟨_,rfl⟩;rw [←R_] at al jM ⊢;conv=>whnf
  refine ⟨by omega,?_⟩;conv=>whnf
  refine Ew (ai S) ?_;conv=>whnf
  rw [show 0+c.1.toNat*2=c.1.toNat*2 by omega];have pE:(S.flatMap p7).length=S.length*2:=rf p7 2 (fun _=>rfl) S;refine Gn (by omega) ?_;conv=>whnf
  refine Gn (by rw [List.length_set];omega) ?_;conv=>whnf
  erw [Tm S c.1.toNat c.2.1 c.2.2 (by omega),ah];have rS:IntKind.i64.wrap ((i:Int)+1)=((i+1:Nat):Int):=by rw [HU _ (by omega) (by omega)];omega
  exact ⟨l.length-(i+1),by omega,i+1,S.set c.1.toNat c.2,by omega,rfl,by simpa using cp,al,by rw [rS];rfl,rfl⟩
 ·obtain rfl:i=l.length:=by omega
  rw [vb] at al;obtain rfl:=Option.some.inj al;conv=>whnf
  refine Ew (ad S) ?_;conv=>whnf
  obtain ⟨x,aj⟩:=aQ S;refine Ew aj ?_;conv=>whnf
  exact bp _ _ (nJ S _ cp rfl)
theorem VB {S:List (Int×Int)} {H:List ar} {id n d:Nat} {x y:Int} (aE:id<H.length) (ag:H[id]?=some (.cells (S.flatMap p7))) (aI:S.length=n):bM H 0 H.length 0 (d+3) (.agg [.ref id 0 n none 2,h0 x,h0 y])=some (.agg [.av (S.flatMap p7) n .shared,h0 x,h0 y]):=by
 have e1:bM H 0 H.length 0 (d+2) (.ref id 0 n none 2)=some (.av (S.flatMap p7) n .shared):=by
  show (if id<0 then some (I.ref id 0 n none 2) else if id=H.length then some (.ref 0 0 n none 2) else match rowOf H (.ref id 0 n none 2) with | some row=>(ea (bM H 0 H.length 0 (d+1)) row).map fun cs=>.av cs n (e3 none n) | none=>none)=_;rw [if_neg (by omega),if_neg (by omega),Yn ag aI];have l0:ea (bM H 0 H.length 0 (d+1)) (S.flatMap p7)=some (S.flatMap p7):=zU fun u hu=>by
   obtain ⟨x,_,aj⟩:=tJ.1 hu;simp only [p7,sB,tQ,or_false] at aj;rcases aj with rfl | rfl <;> rfl
  simp only [l0,sf];rfl
 show (ea (bM H 0 H.length 0 (d+2)) [.ref id 0 n none 2,h0 x,h0 y]).map I.agg=_;rw [rM e1 (rM rfl (rM rfl I2))];rfl
theorem aiZ {p:qf} {l:List qy} {v:qf} (h:O_ p l=some v):qB 54 [.agg [.av (p.1.flatMap p7) p.1.length .shared,h0 p.2.1,h0 p.2.2],.av (l.flatMap qw) l.length .shared] (.agg [.av (v.1.flatMap p7) v.1.length .shared,h0 v.2.1,h0 v.2.2]):=by
 unfold O_ at h;obtain ⟨⟨bJ,aB,ao⟩,h⟩:=q_ h;obtain ⟨S',ak,h⟩:=p9 h;obtain rfl:=Option.some.inj h;refine qR eG aep rfl (H6 (p5 (afY _ _ _) (p5 rfl (p5 rfl rfl)))) fun Q bp=>?_;have jJ:∀ T H,H4 [.cell 4 (.str 3)] (.agg [.av (S'.flatMap p7) S'.length .shared,h0 p.2.1,h0 p.2.2]) .ret T H→Q .ret T H:=fun T H bE=>bp _ T H bE;have pE:(p.1.flatMap p7).length=p.1.length*2:=rf p7 2 (fun _=>rfl) p.1;have V4:p.1.length≠0:=fun e=>bJ (sP.1 e);have e1:∀ S:List (Int×Int),S.length=p.1.length→∀ T:List I,df T 4=.ptr 0 0→H4 [.cell 4 (.str 3)] (.agg [.av (S.flatMap p7) S.length .shared,h0 p.2.1,h0 p.2.2]) .ret T [.cells [.ref 1 0 p.1.length none 2,h0 p.2.1,h0 p.2.2],.cells (S.flatMap p7),.cells [.ref 1 0 p.1.length none 2,h0 p.2.1,h0 p.2.2]]:=fun S cp T b0=>by
  refine ⟨.inr rfl,[.agg [.ref 1 0 p.1.length none 2,h0 p.2.1,h0 p.2.2]],by simp only [rX,b0];rfl,_,VB (S:=S) (by simp) rfl cp,by rw [cp];rfl⟩
 have b':∀ S:List (Int×Int),S.length=p.1.length→∀ T:List I,df T 4=.ptr 0 0→H4 [.cell 4 (.str 3)] (.agg [.av (S.flatMap p7) S.length .shared,h0 p.2.1,h0 p.2.2]) .ret T [.cells [.ref 2 0 p.1.length none 2,h0 p.2.1,h0 p.2.2],.cells [.ref 2 0 p.1.length none 2,h0 p.2.1,h0 p.2.2],.cells (S.flatMap p7)]:=fun S cp T b0=>by
  refine ⟨.inr rfl,[.agg [.ref 2 0 p.1.length none 2,h0 p.2.1,h0 p.2.2]],by simp only [rX,b0];rfl,_,VB (S:=S) (by simp) rfl cp,by rw [cp];rfl⟩
 unfold XT XV;obtain ⟨ajF,RL⟩:∃ c,P0=c:=⟨_,rfl⟩;rw [RL];conv=>whnf
 refine ⟨rfl,?_⟩;conv=>whnf
 refine ⟨?_,?_⟩
 ·conv=>whnf
  refine ⟨pE,by omega,?_⟩;conv=>whnf
  refine ⟨rfl,by omega,?_⟩;conv=>whnf
  refine ⟨by omega,?_⟩;conv=>whnf
  rw [sC];subst RL;refine WN ao ak (vid:=2) (rid:=1) (Hs:=fun S=>[.cells [.av [] 0 .full,h0 0,h0 0],.cells (S.flatMap p7),.cells [.ref 1 0 p.1.length none 2,h0 p.2.1,h0 p.2.2]]) (fun _=>⟨_,rfl⟩) (fun _=>rfl) (fun _=>rfl) (fun _ _=>rfl) (fun S T cp b0=>e1 S cp T b0) jJ rfl
 ·conv=>whnf
  refine ⟨pE,by omega,?_⟩;conv=>whnf
  refine ⟨rfl,by omega,?_⟩;conv=>whnf
  refine ⟨by omega,?_⟩;conv=>whnf
  rw [sC];subst RL;refine WN ao ak (vid:=1) (rid:=2) (Hs:=fun S=>[.cells [.av [] 0 .full,h0 0,h0 0],.cells [.ref 2 0 p.1.length none 2,h0 p.2.1,h0 p.2.2],.cells (S.flatMap p7)]) (fun _=>⟨_,rfl⟩) (fun _=>rfl) (fun _=>rfl) (fun _ _=>rfl) (fun S T cp b0=>b' S cp T b0) jJ rfl

abbrev q9:=Int×Int
abbrev rp:=List (Nat×q9×q9)
def ru (A:rp):List (Nat×I×I):=A.map fun a=>(a.1,.agg (p7 a.2.1),.agg (p7 a.2.2))
theorem RB (a b:q9):gK (.agg (p7 a)) (.agg (p7 b))=some (decide (a=b)):=by
 simp only [gK,p7,dL,if_true,sf,tt,Option.some.injEq];rw [Bool.eq_iff_iff];simp only [beq_iff_eq,decide_eq_true_eq,sq];exact ⟨fun h=>Prod.ext h.1 h.2,fun h=>by rw [h];exact ⟨rfl,rfl⟩⟩
theorem RE {k:q9}:∀ {A:rp} {n:Nat},(∀ x∈A,k≠x.2.1)→fH (.agg (p7 k)) (ru A) n=some none
 | [],n,_=>rfl
 | a::A,n,h=>by
   simp only [ru,sG,fH,RB];rw [decide_eq_false (h a (by simp))];exact RE (n:=n+1) fun x aj=>h x (by simp [aj])
theorem Px {k:q9} {a:Nat×q9×q9} {R:rp} (cu:a.2.1=k):∀ {A:rp} {n:Nat},(∀ x∈A,k≠x.2.1)→fH (.agg (p7 k)) (ru (A++a::R)) n=some (some (n+A.length))
 | [],n,_=>by
   simp only [tN,ru,sG,fH,RB];rw [decide_eq_true cu.symm];rfl
 | b::A,n,h=>by
   simp only [List.cons_append,ru,sG,fH,RB];rw [decide_eq_false (h b (by simp))];have:=Px (R:=R) cu (A:=A) (n:=n+1) fun x aj=>h x (by simp [aj]);simp only [ru] at this;show fH (.agg (p7 k)) _ (n+1)=_;rw [this,sL];congr 2;omega
theorem OV (k:q9):∀ (A:rp),(∀ x∈A,k≠x.2.1)∨∃ L a R,A=L++a::R∧a.2.1=k∧∀ x∈L,k≠x.2.1
 | []=>.inl (by simp)
 | b::A=>by
   by_cases h:b.2.1=k
   ·exact .inr ⟨[],b,A,rfl,h,by simp⟩
   ·rcases OV k A with ab | ⟨L,a,R,ab,ae,aF⟩
    ·refine .inl fun x aj=>?_;rcases sB.1 aj with rfl | aj
     ·exact fun e=>h e.symm
     ·exact ab x aj
    ·refine .inr ⟨b::L,a,R,by rw [ab];rfl,ae,fun x aj=>?_⟩;rcases sB.1 aj with rfl | aj
     ·exact fun e=>h e.symm
     ·exact aF x aj
def HX (s:rp×Nat) (k v:q9):rp×Nat :=
 if s.1.any (fun a=>decide (k=a.2.1))=true then (s.1.map fun a=>if k=a.2.1 then (a.1,k,v) else a,s.2) else (s.1++[(s.2,k,v)],s.2+1)
structure Kn (s:rp×Nat):Prop where
 ids:(s.1.map (·.1)).Nodup
 low:∀ a∈s.1,a.1<s.2
 keys:(s.1.map (·.2.1)).Nodup
theorem Wd {L R:rp} {a:Nat×q9×q9} (h:((L++a::R).map (·.2.1)).Nodup):(∀ x∈L,a.2.1≠x.2.1)∧∀ x∈R,a.2.1≠x.2.1:=by
 rw [sJ,sG] at h;obtain ⟨_,ae,aF⟩:=uj.1 h;refine ⟨fun x aj e=>aF _ (tc aj) _ (by simp) e.symm,fun x aj e=>?_⟩;exact (tU.1 ae).1 (by rw [e];exact tc aj)
theorem W2 {s:rp×Nat} {k v:q9} (h:∀ x∈s.1,k≠x.2.1):HX s k v=(s.1++[(s.2,k,v)],s.2+1):=by
 unfold HX;rw [if_neg];rw [vF];rintro ⟨x,aj,e⟩;exact h x aj (of_decide_eq_true e)
theorem W3 {L R:rp} {a:Nat×q9×q9} {c:Nat} {v:q9} (al:((L++a::R).map (·.2.1)).Nodup):HX (L++a::R,c) a.2.1 v=(L++(a.1,a.2.1,v)::R,c):=by
 obtain ⟨ab,ae⟩:=Wd al;unfold HX;rw [if_pos (by rw [vF];exact ⟨a,by simp,decide_eq_true rfl⟩)];have key:∀ l:rp,(∀ x∈l,a.2.1≠x.2.1)→l.map (fun x=>if a.2.1=x.2.1 then (x.1,a.2.1,v) else x)=l:=fun l ao=>St fun x aj=>if_neg (ao x aj);show (List.map _ (L++a::R),c)=_;rw [sJ,sG,key L ab,key R ae,if_pos rfl]
theorem Kn.put {s:rp×Nat} (h:Kn s) (k v:q9):Kn (HX s k v):=by
 rcases OV k s.1 with ab | ⟨L,a,R,ab,ae,aF⟩
 ·rw [W2 ab];refine ⟨?_,?_,?_⟩
  ·rw [sJ,uj];refine ⟨h.ids,by simp,fun x aj y aY e=>?_⟩;obtain ⟨z,bk,rfl⟩:=sD.1 aj;have:=h.low z bk;simp at aY;omega
  ·intro z bk;rcases te.1 bk with bk | bk
   ·have:=h.low z bk;show z.1<s.2+1;omega
   ·simp at bk;subst bk;show s.2<s.2+1;omega
  ·rw [sJ,uj];refine ⟨h.keys,by simp,fun x aj y aY e=>?_⟩;obtain ⟨z,bk,rfl⟩:=sD.1 aj;simp at aY;exact ab z bk (by rw [e,aY])
 ·obtain ⟨s1,c⟩:=s;simp only at ab;subst ab ae;rw [W3 h.keys];refine ⟨?_,?_,?_⟩
  ·have:=h.ids;simpa using this
  ·intro z bk;rcases te.1 bk with bk | bk
   ·exact h.low z (by simp [bk])
   ·rcases sB.1 bk with rfl | bk
    ·exact h.low a (by simp)
    ·exact h.low z (by simp [bk])
  ·have:=h.keys;simpa using this
theorem W0 {α:Type} (f:α→α) (x:α) (R:List α):∀ L:List α,(L++x::R).modify L.length f=L++f x::R
 | []=>rfl
 | a::L=>by
   show (a::(L++x::R)).modify (L.length+1) f=a::(L++f x::R);rw [List.modify_succ_cons,W0 f x R L]
theorem Xo {k v:q9} {s:rp×Nat} (ah:Kn s) :
  (∃ i,fH (.agg (p7 k)) (ru s.1) 0=some (some i)∧(ru s.1).modify i (fun e=>(e.1,.agg (p7 k),.agg (p7 v)))=ru (HX s k v).1∧s.2=(HX s k v).2) ∨
  (fH (.agg (p7 k)) (ru s.1) 0=some none∧ru s.1++[(s.2,.agg (p7 k),.agg (p7 v))]=ru (HX s k v).1∧s.2+1=(HX s k v).2):=by
 rcases OV k s.1 with ab | ⟨L,a,R,ab,ae,aF⟩
 ·refine .inr ⟨RE ab,?_⟩;rw [W2 ab];exact ⟨by simp [ru],rfl⟩
 ·obtain ⟨s1,c⟩:=s;simp only at ab;subst ab ae;refine .inl ⟨_,Px rfl aF,?_⟩;rw [W3 ah.keys];refine ⟨?_,rfl⟩;rw [sC];simp only [ru,sJ,sG];have:=W0 (fun e:Nat×I×I=>(e.1,I.agg (p7 a.2.1),I.agg (p7 v))) (a.1,I.agg (p7 a.2.1),I.agg (p7 a.2.2)) (R.map fun a=>(a.1,I.agg (p7 a.2.1),I.agg (p7 a.2.2))) (L.map fun a=>(a.1,I.agg (p7 a.2.1),I.agg (p7 a.2.2)));rw [sX] at this;exact this
def J9 (A:rp) (k:q9):Option q9:=(A.find? fun a=>decide (k=a.2.1)).map (·.2.2)
theorem aeH (k:q9) (A:rp) :
  (∃ v i e,J9 A k=some v∧fH (.agg (p7 k)) (ru A) 0=some (some i)∧(ru A)[i]?=some e∧e.2.2=.agg (p7 v))∨(J9 A k=none∧fH (.agg (p7 k)) (ru A) 0=some none):=by
 rcases OV k A with ab | ⟨L,a,R,ab,ae,aF⟩
 ·refine .inr ⟨?_,RE ab⟩;unfold J9;rw [vG.2 fun x aj=>by simpa using ab x aj];rfl
 ·subst ab ae;refine .inl ⟨a.2.2,_,(a.1,.agg (p7 a.2.1),.agg (p7 a.2.2)),?_,Px rfl aF,?_,rfl⟩
  ·unfold J9;rw [List.find?_append,vG.2 fun x aj=>by simpa using aF x aj];simp
  ·simp only [ru,sJ,sG,sC];rw [ss (by simp)];simp
theorem acB {A:rp} {a:Nat×q9×q9} (al:(A.map (·.2.1)).Nodup) (cu:a∈A):∃ i,fH (.agg (p7 a.2.1)) (ru A) 0=some (some i)∧(ru A).eraseIdx i=ru (A.filter fun x=>decide (a.2.1≠x.2.1)):=by
 obtain ⟨k,V0⟩:∃ k,k=a.2.1:=⟨_,rfl⟩;rw [←V0];rcases OV k A with ab | ⟨L,b,R,ab,ae,aF⟩
 ·exact absurd V0 (ab a cu)
 ·subst ab ae;refine ⟨_,Px rfl aF,?_⟩;obtain ⟨aJ,aN⟩:=Wd al;have e1:(L++b::R).filter (fun x=>decide (b.2.1≠x.2.1))=L++R:=by
   rw [t_,uD (by simp),tH.2 fun x aj=>decide_eq_true (aJ x aj),tH.2 fun x aj=>decide_eq_true (aN x aj)]
  rw [e1,sC];simp only [ru,sJ,sG];rw [List.eraseIdx_append_of_length_le (by simp)];simp
end Go.Proofs.YtkoioidpbbbaiaaGreat.Ab


namespace Go.Proofs.YtkoioidpbbbaiaaGreat.Ab
open Go
noncomputable def S9:gE :=
 .ov false [p3 44 1,p3 45 7,p3 46 6,p3 47 0,p0 48 [.Bs 47] .z4,qz 49 48 0,qz 50 49 1,qz 51 50 0,qi 52 51,qn 53 46 52 .mul,qn 54 45 53 .add,qn 55 44 54 .mul,p0 56 [.Bs 55,.cv (.int .i64 0)] (.build [.int .i64 0,.int .i64 0] [(0,1),(1,1)]),⟨none,[.nc 8,.jq 56],none,none,.st 2⟩]
noncomputable def P_:gE :=
 p2 [p3 57 5,p0 58 [.Bs 8] (.zE (.str 2)),p3 59 7,p3 60 6,p0 61 [.Bs 59,.Bs 60] (.build [.int .i64 0,.int .i64 0] [(0,1),(1,1)]),⟨none,[.Bs 57,.Bs 58,.Bs 61],none,none,.zR (.str 2)⟩] (p2 [p3 62 1,qE 63 62 0 .eql] (.cond (.nc 63) (.exit 0) .skip))
noncomputable def Tc:gE :=
 .seq (.seq (rA [p3 31 0,p0 32 [.Bs 31] .z4,qz 33 32 0,qz 34 33 1,qz 35 34 0,qi 36 35,p3 37 0,p0 38 [.Bs 37] .z4,qz 39 38 0,qz 40 39 1,qz 41 40 1,qi 42 41,qn 43 36 42 .eql]) (.cond (.nc 43) S9 .skip)) P_
noncomputable def P':gE :=
 .block 3 (p2 [p3 24 1,p3 25 7,qn 26 24 25 .mul,p3 27 1,p3 28 6,qn 29 27 28 .mul,p0 30 [.Bs 26,.Bs 29] (.build [.int .i64 0,.int .i64 0] [(0,1),(1,1)]),p0 8 [] (.alloc [.int .i64 0,.int .i64 0]),⟨none,[.nc 8,.jq 30],none,none,.st 2⟩] Tc)
noncomputable def X8:gE :=
 .seq (p2 [p3 20 7,qE 21 20 100 .leq] (.cond (.nc 21) .skip (.exit 2))) (.seq P' (qV [p1 22 7,q2 23 22 1,p1 7 23]))
noncomputable def Qa:gE :=
 .loop (some (qc false [0,2,3,3,115])) X8
noncomputable def X9:gE :=
 .block 1 (p2 [qh 7 0] (.block 2 Qa))
noncomputable def X_:gE :=
 .seq (p2 [p3 16 6,qE 17 16 10 .leq] (.cond (.nc 17) .skip (.exit 0))) (.seq X9 (qV [p1 18 6,q2 19 18 1,p1 6 19]))
noncomputable def Td:gE :=
 .ov false [p1 95 10,p3 96 9,qz 97 12 0,qi 98 97,p3 99 13,p1 100 13,p0 101 [.Bs 100] (.un .neg),p0 102 [.jq 98,.jq 99,.jq 101] .max,qn 103 96 102 .mul,qn 104 95 103 .add,p1 10 104]
noncomputable def Te:gE :=
 .seq (rA [p0 83 [.nc 12] (.yM 0),qi 84 83,p0 85 [.nc 12] (.yM 1),qi 86 85,p3 87 0,p0 88 [.Bs 87] .z4,qz 89 88 0,qz 90 89 1,qz 91 90 0,qi 92 91,qn 93 86 92 .mul,qn 94 84 93 .add,p1 13 94]) Td
noncomputable def X6:gE :=
 .block 5 (p2 [p0 81 [.nc 77,.nc 79] (.kY 2),p0 82 [.Bs 81] (.zE (.str 2)),p0 12 [] (.alloc [.int .i64 0,.int .i64 0]),⟨none,[.nc 12,.jq 82],none,none,.st 2⟩] Te)
noncomputable def S_:gE :=
 p2 [p3 112 10,p0 113 [.Bs 112] (.un .neg),p3 114 10,p0 115 [.nc 14] (.yM 0),qi 116 115,p0 117 [.Bs 116] (.yB 1 1 [.int .i64 0] [0]),p0 118 [.cv (.func 50 [] []),.nc 113,.nc 114,.nc 117] (.call 3),p0 119 [.Bs 118] (.un .not)] (.cond (.nc 119) (qV [p3 120 5,p0 121 [.Bs 14] (.zE (.str 2)),⟨none,[.jq 120,.jq 121],none,none,.zP (.str 2)⟩]) .skip)
noncomputable def Ta:gE :=
 .block 7 (p2 [p0 110 [.nc 107] .yH,p0 111 [.Bs 110] (.ext 0),p0 14 [] (.alloc [.int .i64 0,.int .i64 0]),⟨none,[.nc 14,.jq 111],none,none,.st 2⟩] S_)
noncomputable def X':gE :=
 .loop (some (qc false [5,1,4,1,96,1,15])) (.seq (.z6 107 (some 108) [p0 109 [.Bs 108] (.ext 0)]) (.seq (.cond (.nc 109) .skip (.exit 6)) Ta))
noncomputable def P9:gE :=
 .seq (p2 [p3 106 5,p0 107 [.Bs 106] .AN] (.block 6 X')) (p2 [p1 122 5,p1 4 122] .ret)
noncomputable def Qb:gE :=
 .loop (some (qc false [0,1,4,1,3,2,66,3,43])) (p2 [p0 80 [.nc 79,.nc 78] (.bin .lss)] (.seq (.cond (.nc 80) .skip (.exit 4)) (.seq X6 (qV [q2 105 79 1,p1 79 105]))))
noncomputable def X7:gE :=
 .seq (p2 [p3 73 0,p0 74 [.Bs 73] .z4,qz 75 74 0,qz 76 75 0,qi 77 76,p0 78 [.nc 77] .zJ,qh 79 0] (.block 4 Qb)) P9
noncomputable def Tb:gE :=
 p2 [p3 64 0,p3 65 0,p0 66 [.Bs 65] .z4,qz 67 66 0,qz 68 67 0,qi 69 68,q3 70 69,qE 71 70 1 .sub,p0 72 [.cv (.func 77 [] []),.nc 64,.nc 71] (.call 3),p1 9 72] (p2 [qh 10 0] X7)
noncomputable def Qc:gE :=
 .loop (some (qc false [0,2,3,2,116])) X_
noncomputable def X5:gE :=
 p2 [p0 4 [.cv .a0] .mU] (p2 [p0 15 [] .zZ,p1 5 15] (.seq .skip (.seq (p2 [qh 6 (-10)] (.block 0 Qc)) Tb)))
theorem aet:qt Go.Proofs.Tryz.prog LN 81=some (X5,123,[.tmp 4]):=by kernel_rfl
end Go.Proofs.YtkoioidpbbbaiaaGreat.Ab


namespace Go.Proofs.YtkoioidpbbbaiaaGreat.Ab
open Go
set_option maxRecDepth 20000
set_option maxHeartbeats 4000000
def IZ (f:Int→Bool) (A:rp) (seen:List Nat):rp:=A.filter fun a=>!(decide (a.1∈seen)) || f a.2.1.1
theorem ad7 (f:Int→Bool) (A:rp):IZ f A []=A:=by
 unfold IZ;exact tH.2 fun a _=>by simp
theorem ad3 {f:Int→Bool} {A:rp} {seen:List Nat} (h:∀ a∈IZ f A seen,a.1∈seen):IZ f A seen=A.filter fun a=>f a.2.1.1:=by
 unfold IZ;refine ui fun a cu=>?_;by_cases ah:a.1∈seen
 ·simp [ah]
 ·cases aP:f a.2.1.1 with
  | true=>simp
  | false =>
    exfalso;exact ah (h a (tf.2 ⟨cu,by simp [ah]⟩))
theorem Ou {α β:Type} {g:α→β}:∀ {l:List α},(l.map g).Nodup→∀ {x y:α},x∈l→y∈l→g x=g y→x=y
 | [],_,x,y,aj,_,_=>absurd aj (by simp)
 | a::l,h,x,y,aj,aY,e=>by
   obtain ⟨ab,ae⟩:=tU.1 h;rcases sB.1 aj with aF | aF
   ·rcases sB.1 aY with ba | ba
    ·rw [aF,ba]
    ·exact absurd (by rw [←aF,e];exact tc ba) ab
   ·rcases sB.1 aY with ba | ba
    ·exact absurd (by rw [←ba,←e];exact tc aF) ab
    ·exact Ou ae aF ba e
theorem ad5 {f:Int→Bool} {A:rp} {c:Nat} {seen:List Nat} {a:Nat×q9×q9} (aL:Kn (A,c)) (cu:a∈A) (aP:f a.2.1.1=true):IZ f A (seen++[a.1])=IZ f A seen:=by
 unfold IZ;refine ui fun x aj=>?_;by_cases e:x.1=a.1
 ·have:=Ou aL.ids aj cu e;subst this;simp [aP]
 ·simp [e]
theorem ad4 {f:Int→Bool} {A:rp} {c:Nat} {seen:List Nat} {a:Nat×q9×q9} (aL:Kn (A,c)) (cu:a∈A) (aP:f a.2.1.1=false):IZ f A (seen++[a.1])=(IZ f A seen).filter fun x=>decide (a.2.1≠x.2.1):=by
 unfold IZ;rw [uU];refine ui fun x aj=>?_;by_cases e:x.1=a.1
 ·have:=Ou aL.ids aj cu e;subst this;simp [aP]
 ·have:a.2.1≠x.2.1:=fun b'=>e (by rw [Ou aL.keys aj cu b'.symm])
  simp [e,this]
theorem ad6 {f:Int→Bool} {A:rp} {c:Nat} {seen:List Nat} (aL:Kn (A,c)):((IZ f A seen).map (·.2.1)).Nodup:=aL.keys.sublist (List.filter_sublist.map _)
theorem Vp:∀ {A:rp} {a:Nat×q9×q9},(A.map (·.1)).Nodup→a∈A→(ru A).find? (fun e=>e.1 == a.1)=some (a.1,.agg (p7 a.2.1),.agg (p7 a.2.2))
 | [],a,_,h=>absurd h (by simp)
 | b::A,a,aI,h=>by
   obtain ⟨ab,ae⟩:=tU.1 aI;simp only [ru,sG,List.find?_cons];by_cases e:b.1=a.1
   ·rw [Ou aI (by simp) h e];simp
   ·have:(b.1 == a.1)=false:=by simpa using e
    rw [this];rcases sB.1 h with aF | aF
    ·exact absurd (by rw [aF]) e
    ·exact Vp ae aF
theorem Vi:∀ {A:rp} {seen:List Nat} {a:Nat×q9×q9},(A.map (·.1)).Nodup→a∈A→a.1 ∉ seen→(A.filter fun x=>!(decide (x.1∈seen++[a.1]))).length+1=(A.filter fun x=>!(decide (x.1∈seen))).length
 | [],_,_,_,h,_=>absurd h (by simp)
 | b::A,seen,a,aI,cu,ah=>by
   obtain ⟨ab,ae⟩:=tU.1 aI;by_cases e:b.1=a.1
   ·have b':A.filter (fun x=>!(decide (x.1∈seen++[a.1])))=A.filter fun x=>!(decide (x.1∈seen)):=ui fun x aj=>by
     have:x.1≠a.1:=fun h=>ab (show b.1∈A.map (·.1) by rw [e,←h];exact tc aj)
     simp [this]
    rw [uD (by simp [e]),u_ (by simp [e,ah]),b',sL]
   ·have ada:a∈A:=by
     rcases sB.1 cu with h | h
     ·exact absurd (by rw [h]) e
     ·exact h
    have a8:=Vi ae ada ah;by_cases af:b.1∈seen
    ·rw [uD (by simp [af]),uD (by simp [af])];exact a8
    ·rw [u_ (by simp [af,e]),u_ (by simp [af]),sL,sL];omega
theorem ahi {A:rp} {c:Nat} (aL:Kn (A,c)) {f:Int→Bool} {most:Int} (aP:∀ a∈A,I5 (w (-most)) most [a.2.1.1]=some (f a.2.1.1)) {Y:List ar} {v0 v1 Qs ahV Qq ahW Qr:I} {Q:cQ→List I→List ar→Prop}
  (bp:∀ T qL,qL.length=Y.length+1+A.length→df T 4=.map 0→Q .ret T (.map (ru (A.filter fun a=>f a.2.1.1)) c::qL)):dQ Tryz.prog LN 81 0 none P9 (qe 123 [(0,v0),(1,v1),(5,.map 0),(9,Qs),(10,h0 most),(77,ahV),(78,Qq),(79,ahW),(80,Qr)]) (.map (ru A) c::Y) Q:=by
 unfold P9 X';obtain ⟨ajC,VD⟩:∃ c,Ta=c:=⟨_,rfl⟩;rw [VD];conv=>whnf
 refine ⟨_,_,rfl,?_⟩;conv=>whnf
 refine .intro (fun m T H=>∃ (seen:List Nat) (Z:List ar),Z.length+(A.filter fun a=>!(decide (a.1∈seen))).length=A.length∧m=(A.filter fun a=>!(decide (a.1∈seen))).length∧T=qe 123 [(5,.map 0),(10,h0 most),(107,.ptr (Y.length+1) 0)]∧H=(.map (ru (IZ f A seen)) c::Y)++(.iter 0 c seen c::Z)) _ ⟨[],[],by simp [tH.2],rfl,rfl,by rw [ad7]⟩ ?_;rintro m T H ⟨seen,Z,Lk,rfl,rfl,rfl⟩;conv=>whnf
 have ai:∀ (e:ar) (s:List Nat) (Z:List ar),((e::Y)++(.iter 0 c s c::Z))[Y.length+1]?=some (.iter 0 c s c):=fun e s Z=>by
  rw [ss (by simp)];simp
 refine ⟨0,c,seen,c,_,ai _ _ _,rfl,sd _,?_,?_,?_⟩
 ·intro e he;obtain ⟨a,cu,rfl⟩:=sD.1 he;exact aL.low a (tf.1 cu).1
 ·intro c1;conv=>whnf
  rw [ad3 fun a cu=>c1 _ (tc cu)];refine bp _ (Y++(.iter 0 c seen c::Z)) ?_ rfl
  have gb:(A.filter fun a=>!(decide (a.1∈seen))).length=0:=sP.2 (List.filter_eq_nil_iff.2 fun a cu ah=>by
   have hl:a.1 ∉ seen:=by simpa using ah
   exact hl (c1 _ (tc (f:=fun a:Nat×q9×q9=>(a.1,I.agg (p7 a.2.1),I.agg (p7 a.2.2))) (tf.2 ⟨cu,by simp [hl]⟩))))
  simp;omega
 ·intro e he adF;obtain ⟨a,cu,rfl⟩:=sD.1 he;have hg:a∈A:=(tf.1 cu).1;have eH:∀ (e:ar) (x y:ar),((e::Y)++(x::Z)).set (Y.length+1) y=(e::Y)++(y::Z):=fun e x y=>by
   rw [uY _ _ (by simp)];simp
  conv=>whnf
  rw [eH];subst VD;unfold Ta;obtain ⟨ajB,VC⟩:∃ c,S_=c:=⟨_,rfl⟩;rw [VC];conv=>whnf
  have adq:(ru (IZ f A seen)).find? (fun e=>e.1 == a.1)=some (a.1,.agg (p7 a.2.1),.agg (p7 a.2.2)):=Vp (aL.ids.sublist (List.filter_sublist.map _)) cu;refine ⟨0,c,seen++[a.1],c,a.1,_,_,ai _ _ _,by simp,rfl,adq,?_⟩;conv=>whnf
  refine Ew (x:=ar.cells [h0 0,h0 0]) (by first | exact qp.h | rfl | (simp [sc,I.settle];done)) ?_
  conv=>whnf
  rw [rZ];subst VC;unfold S_;conv=>whnf
  refine Ew (x:=ar.cells [h0 a.2.1.1,h0 a.2.1.2]) (by first | exact qp.h | rfl | (simp [sc,I.settle];done)) ?_
  conv=>whnf
  refine ⟨p5 rfl (p5 rfl (p5 rfl rfl)),_,LC (aP a hg),?_⟩;conv=>whnf
  have ajX:(A.filter fun x=>!(decide (x.1∈seen++[a.1]))).length+1=(A.filter fun x=>!(decide (x.1∈seen))).length:=Vi aL.ids hg adF;have GM:(A.filter fun x=>!(decide (x.1∈seen++[a.1]))).length<(A.filter fun x=>!(decide (x.1∈seen))).length:=by omega
  have VT:∀ o,(Z++[o]).length+(A.filter fun x=>!(decide (x.1∈seen++[a.1]))).length=A.length:=fun o=>by rw [sA,List.length_singleton];omega
  cases VW:f a.2.1.1 with
  | true =>
    (conv=>whnf);exact ⟨_,GM,seen++[a.1],Z++[.cells [h0 a.2.1.1,h0 a.2.1.2]],VT _,rfl,rfl,by rw [ad5 aL hg VW];simp;exact ⟨rfl,rfl⟩⟩
  | false =>
    (conv=>whnf);refine Ew (x:=ar.cells [h0 a.2.1.1,h0 a.2.1.2]) (by first | exact qp.h | rfl | (simp [sc,I.settle];done)) ?_
    (conv=>whnf);obtain ⟨acC,adk,adl⟩:=acB (ad6 (f:=f) (seen:=seen) aL) cu;refine ⟨rfl,_,_,rfl,some acC,adk,?_⟩;(conv=>whnf);rw [adl];exact ⟨_,GM,seen++[a.1],Z++[.cells [h0 a.2.1.1,h0 a.2.1.2]],VT _,rfl,rfl,by rw [ad4 aL hg VW];simp;exact ⟨rfl,rfl⟩⟩
def JE (far lo:Int):List q9→Int→Int
 | [],n=>n
 | s::r,n=>JE far lo r (w (n+w (far*max (max s.1 (w (s.1+w (s.2*lo)))) (w (-(w (s.1+w (s.2*lo))))))))
theorem afC {b:((List (Int×Int))×(Int×Int))×Unit} (af:b.1.1.length≤1000) {rh:ar} {far:Int} {Y:List ar} {T:List I} {Q:cQ→List I→List ar→Prop}
  (b0:eZ [true,false,false,false,false,true,false,false,false,true,true,false,false,false,false,false,false,false,false,false,false,false,false,false,false,false,false,false,false,false,false,false,false,false,false,false,false,false,false,false,false,false,false,false,false,false,false,false,false,false,false,false,false,false,false,false,false,false,false,false,false,false,false,false,false,false,false,false,false,false,false,false,false,false,false,false,false,true,true,true,false,false,false,false,false,false,false,false,false,false,false,false,false,false,false,false,false,false,false,false,false,false,false,false,false,false,false,false,false,false,false,false,false,false,false,false,false,false,false,false,false,false,false] T=qe 123 [(0,lp b),(5,.map 0),(9,h0 far),(10,h0 0),(77,.av (b.1.1.flatMap p7) b.1.1.length .shared),(78,h0 b.1.1.length),(79,h0 0)])
  (bp:∀ qL Qr,qL.length=Y.length+b.1.1.length→Q (.exit 4) (qe 123 [(0,lp b),(5,.map 0),(9,h0 far),(10,h0 (JE far b.1.2.1 b.1.1 0)),(77,.av (b.1.1.flatMap p7) b.1.1.length .shared),(78,h0 b.1.1.length),(79,h0 b.1.1.length),(80,Qr)]) (rh::qL)):dQ Tryz.prog LN 81 0 none Qb T (rh::Y) Q:=by
 unfold Qb;refine wp_loop b0 ?_;refine .intro (fun m T H=>∃ (i:Nat) (n:Int) (qL:List ar),i≤b.1.1.length∧qL.length=Y.length+i∧m=b.1.1.length-i∧JE far b.1.2.1 (b.1.1.drop i) n=JE far b.1.2.1 b.1.1 0∧T=qe 123 [(0,lp b),(5,.map 0),(9,h0 far),(10,h0 n),(77,.av (b.1.1.flatMap p7) b.1.1.length .shared),(78,h0 b.1.1.length),(79,h0 i)]∧H=rh::qL) _ ⟨0,0,Y,sE _,rfl,rfl,rfl,rfl,rfl⟩ ?_;clear b0;rintro m T H ⟨i,n,N_,hi,ac9,rfl,hm,rfl,rfl⟩;conv=>whnf
 refine HL (fun aR=>?_) (fun aR=>?_)
 ·have HN:i<b.1.1.length:=by omega
  have IG:0≤(i:Int)∧(i:Int)<(b.1.1.length:Int):=by omega
  rw [s0 HN] at hm;unfold X6;obtain ⟨B9,LS⟩:∃ c,Te=c:=⟨_,rfl⟩;rw [LS];conv=>whnf
  refine ⟨IG,?_⟩;rw [r6 p7 2 q' b.1.1 (i:Int) IG,rJ HN];obtain ⟨s,ah⟩:∃ s,s=b.1.1[i]:=⟨_,rfl⟩;rw [←ah] at hm ⊢;conv=>whnf
  refine Ew (x:=ar.cells [h0 0,h0 0]) (by first | exact qp.h | rfl | (simp [sc,I.settle];done)) ?_
  conv=>whnf
  rw [rZ];subst LS;unfold Te;obtain ⟨nv,JP⟩:∃ c,Td=c:=⟨_,rfl⟩;rw [JP];conv=>whnf
  refine Ew (x:=ar.cells [h0 s.1,h0 s.2]) (by first | exact qp.h | rfl | (simp [sc,I.settle];done)) ?_
  conv=>whnf
  refine Ew (x:=ar.cells [h0 s.1,h0 s.2]) (by first | exact qp.h | rfl | (simp [sc,I.settle];done)) ?_
  conv=>whnf
  subst JP;unfold Td;conv=>whnf
  refine Ew (x:=ar.cells [h0 s.1,h0 s.2]) (by first | exact qp.h | rfl | (simp [sc,I.settle];done)) ?_
  conv=>whnf
  have rS:IntKind.i64.wrap ((i:Int)+1)=((i+1:Nat):Int):=by rw [HU _ (by omega) (by omega)];omega
  exact ⟨b.1.1.length-(i+1),by omega,i+1,_,_,by omega,by simp;omega,rfl,hm,by rw [rS];rfl,rfl⟩
 ·obtain rfl:i=b.1.1.length:=by omega
  rw [vb] at hm;obtain rfl:n=JE far b.1.2.1 b.1.1 0:=hm;conv=>whnf
  exact bp _ _ (by omega)

def H5 (lo hi x m p:Int):q9:=if lo=hi then (w (x*w (p+w (m*lo))),0) else (w (x*p),w (x*m))
def Hq (lo hi x:Int):Nat→rp×Nat
 | 0=>([],0)
 | t+1=>HX (Hq lo hi x t) (H5 lo hi x ((t / 101:Nat)-10) ((t % 101:Nat))) ((t % 101:Nat),(t / 101:Nat)-10)
theorem Tr (lo hi x:Int):∀ t,Kn (Hq lo hi x t)
 | 0=>⟨by simp [Hq],by simp [Hq],by simp [Hq]⟩
 | t+1=>(Tr lo hi x t).put _ _
abbrev Lo (s:rp×Nat):ar:=.map (ru s.1) s.2
theorem abP {b:((List (Int×Int))×(Int×Int))×Unit} {x m p:Int} {s:rp×Nat} (ah:Kn s) {Y:List ar} {Ke:I} {Q:cQ→List I→List ar→Prop}
  (bp:∀ qL Lt Lu,qL.length=Y.length+1→Q (if x=0 then .exit 0 else .normal) (qe 123 [(0,lp b),(1,h0 x),(5,.map 0),(6,h0 m),(7,h0 p),(21,Ke),(43,Lt),(63,Lu)]) (Lo (HX s (H5 b.1.2.1 b.1.2.2 x m p) (p,m))::qL)) :
  dQ Tryz.prog LN 81 0 none P' (qe 123 [(0,lp b),(1,h0 x),(5,.map 0),(6,h0 m),(7,h0 p),(21,Ke)]) (Lo s::Y) Q:=by
 unfold P';obtain ⟨bt,eS⟩:∃ c,Tc=c:=⟨_,rfl⟩;rw [eS];conv=>whnf
 refine Ew (x:=ar.cells [h0 0,h0 0]) (by first | exact qp.h | rfl | (simp [sc,I.settle];done)) ?_
 conv=>whnf
 rw [rZ];subst eS;unfold Tc;obtain ⟨a7,cf⟩:∃ c,S9=c:=⟨_,rfl⟩;obtain ⟨a9,ca⟩:∃ c,P_=c:=⟨_,rfl⟩;rw [cf,ca];conv=>whnf
 by_cases a1:b.1.2.1=b.1.2.2
 ·rw [decide_eq_true a1];conv=>whnf
  subst cf;unfold S9;conv=>whnf
  refine Ew (x:=ar.cells [h0 (w (x*p)),h0 (w (x*m))]) (by first | exact qp.h | rfl | (simp [sc,I.settle];done)) ?_
  conv=>whnf
  rw [rZ];conv=>whnf
  subst ca;unfold P_;conv=>whnf
  refine Ew (x:=ar.cells [h0 (w (x*w (p+w (m*b.1.2.1)))),h0 0]) (by first | exact qp.h | rfl | (simp [sc,I.settle];done)) ?_
  conv=>whnf
  have hP:H5 b.1.2.1 b.1.2.2 x m p=((w (x*w (p+w (m*b.1.2.1)))),0):=by unfold H5;rw [if_pos a1]
  rw [hP] at bp;rcases Xo (k:=((w (x*w (p+w (m*b.1.2.1)))),0)) (v:=(p,m)) ah with ⟨i,ab,ae,aF⟩ | ⟨ab,ae,aF⟩
  ·refine ⟨rfl,_,_,rfl,some i,ab,?_⟩;(conv=>whnf);erw [ae,aF];by_cases aj:x=0
   ·rw [if_pos aj] at bp;rw [decide_eq_true aj];(conv=>whnf);exact bp _ _ _ (by simp)
   ·rw [if_neg aj] at bp;rw [decide_eq_false aj];(conv=>whnf);exact bp _ _ _ (by simp)
  ·refine ⟨rfl,_,_,rfl,none,ab,?_⟩;(conv=>whnf);erw [ae,aF];by_cases aj:x=0
   ·rw [if_pos aj] at bp;rw [decide_eq_true aj];(conv=>whnf);exact bp _ _ _ (by simp)
   ·rw [if_neg aj] at bp;rw [decide_eq_false aj];(conv=>whnf);exact bp _ _ _ (by simp)
 ·rw [decide_eq_false a1];conv=>whnf
  subst ca;unfold P_;conv=>whnf
  refine Ew (x:=ar.cells [h0 (w (x*p)),h0 (w (x*m))]) (by first | exact qp.h | rfl | (simp [sc,I.settle];done)) ?_
  conv=>whnf
  have hP:H5 b.1.2.1 b.1.2.2 x m p=((w (x*p)),(w (x*m))):=by unfold H5;rw [if_neg a1]
  rw [hP] at bp;rcases Xo (k:=((w (x*p)),(w (x*m)))) (v:=(p,m)) ah with ⟨i,ab,ae,aF⟩ | ⟨ab,ae,aF⟩
  ·refine ⟨rfl,_,_,rfl,some i,ab,?_⟩;(conv=>whnf);erw [ae,aF];by_cases aj:x=0
   ·rw [if_pos aj] at bp;rw [decide_eq_true aj];(conv=>whnf);exact bp _ _ _ (by simp)
   ·rw [if_neg aj] at bp;rw [decide_eq_false aj];(conv=>whnf);exact bp _ _ _ (by simp)
  ·refine ⟨rfl,_,_,rfl,none,ab,?_⟩;(conv=>whnf);erw [ae,aF];by_cases aj:x=0
   ·rw [if_pos aj] at bp;rw [decide_eq_true aj];(conv=>whnf);exact bp _ _ _ (by simp)
   ·rw [if_neg aj] at bp;rw [decide_eq_false aj];(conv=>whnf);exact bp _ _ _ (by simp)
theorem adP {b:((List (Int×Int))×(Int×Int))×Unit} {x:Int} {a:Nat} (cu:a≤20) (adN:x=0→a=0) {Y:List ar} {T:List I} {Q:cQ→List I→List ar→Prop}
  (b0:eZ [true,true,false,false,false,true,true,true,false,false,false,false,false,false,false,false,false,false,false,false,false,false,false,false,false,false,false,false,false,false,false,false,false,false,false,false,false,false,false,false,false,false,false,false,false,false,false,false,false,false,false,false,false,false,false,false,false,false,false,false,false,false,false,false,false,false,false,false,false,false,false,false,false,false,false,false,false,false,false,false,false,false,false,false,false,false,false,false,false,false,false,false,false,false,false,false,false,false,false,false,false,false,false,false,false,false,false,false,false,false,false,false,false,false,false,false,false,false,false,false,false,false,false] T=qe 123 [(0,lp b),(1,h0 x),(5,.map 0),(6,h0 ((a:Nat)-10)),(7,h0 0)])
  (ac1:x=0→a=0→∀ qL Kf Ke Lt Lu,qL.length=Y.length+1→Q (.exit 0) (qe 123 [(0,lp b),(1,h0 x),(5,.map 0),(6,h0 ((a:Nat)-10)),(7,Kf),(21,Ke),(43,Lt),(63,Lu)]) (Lo (Hq b.1.2.1 b.1.2.2 x 1)::qL))
  (bp:x≠0→∀ qL Kf Ke,qL.length=Y.length+101→Q (.exit 2) (qe 123 [(0,lp b),(1,h0 x),(5,.map 0),(6,h0 ((a:Nat)-10)),(7,Kf),(21,Ke)]) (Lo (Hq b.1.2.1 b.1.2.2 x ((a+1)*101))::qL)) :
  dQ Tryz.prog LN 81 0 none Qa T (Lo (Hq b.1.2.1 b.1.2.2 x (a*101))::Y) Q:=by
 unfold Qa;refine wp_loop b0 ?_;refine .intro (fun m T H=>∃ (q:Nat) (qL:List ar),q≤101∧qL.length=Y.length+q∧(x=0→q=0)∧m=101-q∧T=qe 123 [(0,lp b),(1,h0 x),(5,.map 0),(6,h0 ((a:Nat)-10)),(7,h0 q)]∧H=Lo (Hq b.1.2.1 b.1.2.2 x (a*101+q))::qL) _ ⟨0,Y,sE _,rfl,fun _=>rfl,rfl,rfl,rfl⟩ ?_;clear b0;rintro m T H ⟨q,N_,a_,ac9,PF,rfl,rfl,rfl⟩;unfold X8;obtain ⟨b6,iP⟩:∃ c,P'=c:=⟨_,rfl⟩;rw [iP];conv=>whnf
 refine HL (fun aR=>?_) (fun aR=>?_)
 ·conv=>whnf
  subst iP;have cJ:HX (Hq b.1.2.1 b.1.2.2 x (a*101+q)) (H5 b.1.2.1 b.1.2.2 x ((a:Nat)-10) (q:Nat)) ((q:Nat),(a:Nat)-10)=Hq b.1.2.1 b.1.2.2 x (a*101+(q+1)):=by
   show _=HX (Hq b.1.2.1 b.1.2.2 x (a*101+q)) (H5 b.1.2.1 b.1.2.2 x (((a*101+q) / 101:Nat)-10) (((a*101+q) % 101:Nat))) ((((a*101+q) % 101:Nat):Int),(((a*101+q) / 101:Nat):Int)-10);rw [show (a*101+q) / 101=a by omega,show (a*101+q) % 101=q by omega]
  refine abP (Tr _ _ _ _) fun aaN Lt Lu ac_=>?_;rw [cJ];by_cases aj:x=0
  ·rw [if_pos aj];have ab:=adN aj;have ae:=PF aj;subst ab ae;(conv=>whnf);exact ac1 aj rfl _ _ _ _ _ (by omega)
  ·rw [if_neg aj];(conv=>whnf);(have rS:IntKind.i64.wrap ((q:Int)+1)=((q+1:Nat):Int):=by rw [HU _ (by omega) (by omega)];omega);exact ⟨101-(q+1),by omega,q+1,_,by omega,by omega,fun h=>absurd h aj,rfl,by rw [rS];rfl,rfl⟩
 ·have adG:q=101:=by omega
  subst adG;have aj:x≠0:=fun h=>absurd (PF h) (by decide);conv=>whnf
  rw [show a*101+101=(a+1)*101 by omega];exact bp aj _ _ _ (by omega)
theorem afM {b:((List (Int×Int))×(Int×Int))×Unit} {x:Int} {T:List I} {Q:cQ→List I→List ar→Prop}
  (b0:eZ [true,true,false,false,false,true,true,false,false,false,false,false,false,false,false,false,false,false,false,false,false,false,false,false,false,false,false,false,false,false,false,false,false,false,false,false,false,false,false,false,false,false,false,false,false,false,false,false,false,false,false,false,false,false,false,false,false,false,false,false,false,false,false,false,false,false,false,false,false,false,false,false,false,false,false,false,false,false,false,false,false,false,false,false,false,false,false,false,false,false,false,false,false,false,false,false,false,false,false,false,false,false,false,false,false,false,false,false,false,false,false,false,false,false,false,false,false,false,false,false,false,false,false] T=qe 123 [(0,lp b),(1,h0 x),(5,.map 0),(6,h0 (-10))])
  (bp:∀ Y v6 Kf YZ Ke Lt Lu,Y.length=(if x=0 then 1 else 2121)→Q (.exit 0) (qe 123 [(0,lp b),(1,h0 x),(5,.map 0),(6,v6),(7,Kf),(17,YZ),(21,Ke),(43,Lt),(63,Lu)]) (Lo (Hq b.1.2.1 b.1.2.2 x (if x=0 then 1 else 2121))::Y)) :
  dQ Tryz.prog LN 81 0 none Qc T [.map [] 0] Q:=by
 unfold Qc;refine wp_loop b0 ?_;refine .intro (fun m T H=>∃ (a:Nat) (Y:List ar),a≤21∧Y.length=a*101∧(x=0→a=0)∧m=21-a∧T=qe 123 [(0,lp b),(1,h0 x),(5,.map 0),(6,h0 ((a:Nat)-10))]∧H=Lo (Hq b.1.2.1 b.1.2.2 x (a*101))::Y) _ ⟨0,[],sE _,rfl,fun _=>rfl,rfl,rfl,rfl⟩ ?_;clear b0;rintro m T H ⟨a,Y,cu,ac7,VU,rfl,rfl,rfl⟩;unfold X_ X9;obtain ⟨b6,iP⟩:∃ c,Qa=c:=⟨_,rfl⟩;rw [iP];conv=>whnf
 refine HL (fun aR=>?_) (fun aR=>?_)
 ·conv=>whnf
  subst iP;refine adP (a:=a) (by omega) VU (by exact rfl) (fun aj aQ Y Kf Ke Lt Lu ac8=>?_) (fun aj Y Kf Ke ac8=>?_)
  ·(conv=>whnf);have:=bp Y;rw [if_pos aj] at this;exact this _ _ _ _ _ _ (by subst aQ;omega)
  ·(conv=>whnf);(have rS:IntKind.i64.wrap (((a:Nat):Int)-10+1)=((a+1:Nat):Int)-10:=by rw [HU _ (by omega) (by omega)];omega);exact ⟨21-(a+1),by omega,a+1,_,by omega,by omega,fun h=>absurd h aj,rfl,by rw [rS];rfl,rfl⟩
 ·have adb:a=21:=by omega
  subst adb;have aj:x≠0:=fun h=>absurd (VU h) (by decide);conv=>whnf
  have:=bp Y;rw [if_neg aj] at this;exact this _ _ _ _ _ _ (by omega)
theorem RI:∃ m,qj=m+2:=⟨qj-2,rfl⟩
theorem N1 (lo hi n:Int):I5 lo hi [n]=some (decide (lo≤n) && decide (n≤hi)):=by
 obtain ⟨m,hm⟩:=RI;have acU:MW n lo hi=some (!(decide (lo≤n) && decide (n≤hi))):=by
  unfold MW;by_cases ab:n<lo
  ·rw [if_pos (decide_eq_true ab),decide_eq_false (show ¬ lo≤n by omega)];rfl
  ·rw [if_neg (by simpa using ab),decide_eq_true (show lo≤n by omega)];by_cases ae:hi<n
   ·rw [decide_eq_true ae,decide_eq_false (show ¬ n≤hi by omega)];rfl
   ·rw [decide_eq_false ae,decide_eq_true (show n≤hi by omega)];rfl
 unfold I5 Pe Pg;rw [hm,KC.eq_2,if_pos (show decide ((0:Int)<(([n]:List Int).length:Int))=true from rfl),qF ⟨sQ _,show (0:Int)<(1:Int) by decide⟩,show ix [n] (0:Int)=n from rfl,acU,sb];cases ak:(decide (lo≤n) && decide (n≤hi))
 ·rfl
 ·rw [show w (0+1:Int)=1 from rfl,KC.eq_2];rfl
def N3 (b:((List (Int×Int))×(Int×Int))×Unit) (x:Int):Option rp :=
 qk (b.1.1.length≤1000) <|
 (K_ b (w (b.1.1.length-1))).bind fun far =>
 some ((Hq b.1.2.1 b.1.2.2 x (if x=0 then 1 else 2121)).1.filter fun a=>decide (w (-(JE far b.1.2.1 b.1.1 0))≤a.2.1.1) && decide (a.2.1.1≤JE far b.1.2.1 b.1.1 0))
theorem ajd {b:((List (Int×Int))×(Int×Int))×Unit} {x:Int} {A:rp} (h:N3 b x=some A):∃ (c:Nat) (D:List ar),Sem Tryz.prog (.fn 81) [lp b,h0 x] [] 0 (.map 0) (.map (ru A) c::D):=by
 unfold N3 at h;obtain ⟨aI,h⟩:=q_ h;obtain ⟨far,Sb,h⟩:=p9 h;obtain rfl:=Option.some.inj h;obtain ⟨N,CB⟩:∃ N,N=(if x=0 then 1 else 2121)+b.1.1.length+1+(Hq b.1.2.1 b.1.2.2 x (if x=0 then 1 else 2121)).1.length:=⟨_,rfl⟩;refine ⟨(Hq b.1.2.1 b.1.2.2 x (if x=0 then 1 else 2121)).2,List.replicate N .dead,?_⟩;refine rI eG aet rfl (I0 (sE _)) fun Q bp=>?_;unfold X5;obtain ⟨ajE,VF⟩:∃ c,Tb=c:=⟨_,rfl⟩;obtain ⟨b6,iP⟩:∃ c,Qc=c:=⟨_,rfl⟩;rw [VF,iP];conv=>whnf
 subst iP;refine afM (b:=b) (x:=x) (by exact rfl) fun Y v6 Kf YZ Ke Lt Lu ac7=>?_;conv=>whnf
 subst VF;unfold Tb X7;obtain ⟨ajD,VE⟩:∃ c,P9=c:=⟨_,rfl⟩;obtain ⟨bt,eS⟩:∃ c,Qb=c:=⟨_,rfl⟩;rw [VE,eS];conv=>whnf
 refine ⟨p5 (Ii b) (p5 rfl rfl),_,LI Sb,?_⟩;conv=>whnf
 subst eS;refine afC (b:=b) (far:=far) aI (by exact rfl) fun aaN Qr ac_=>?_;conv=>whnf
 subst VE;refine ahi (f:=fun k=>decide (w (-(JE far b.1.2.1 b.1.1 0))≤k) && decide (k≤JE far b.1.2.1 b.1.1 0)) (Tr _ _ _ _) (fun a _=>N1 _ _ _) fun T ajy ajW b0=>?_;refine bp _ _ _ ⟨.inr rfl,⟨by simp;omega,fun id o aq=>?_⟩,by simp only [rX,b0,jg,sf]⟩;cases id with
 | zero=>exact .inr aq
 | succ id =>
   refine .inl ?_
   have:(List.replicate N ar.dead)[id]?=some o:=aq
   rw [List.getElem?_replicate] at this;split at this
   ·exact (Option.some.inj this).symm
   ·cases this

noncomputable def aap:gE :=
 p2 [p0 1 [.jq 0] .box,p0 2 [.cv (.bool false)] .mU] (p2 [p0 3 [.nc 1] (.yM 0),qi 4 3,qE 5 4 0 .geq,p1 6 5,cl 7 [.nc 1] 6 true (.yM 0),cl 8 [.Bs 7] 6 true (.zE .one),cl 9 [.Bs 8,.cv (.int .i64 100)] 6 true (.bin .leq),p0 10 [.Bs 6,.Bs 9,.cv (.bool false)] .pick,p1 11 10,cl 12 [.nc 1] 11 true (.yM 1),cl 13 [.Bs 12] 11 true (.zE .one),cl 14 [.Bs 13,.cv (.int .i64 (-10))] 11 true (.bin .geq),p0 15 [.Bs 11,.Bs 14,.cv (.bool false)] .pick,p1 16 15,cl 17 [.Bs 1] 16 true (.yM 1),cl 18 [.Bs 17] 16 true (.zE .one),cl 19 [.Bs 18,.cv (.int .i64 10)] 16 true (.bin .leq),p0 20 [.Bs 16,.Bs 19,.cv (.bool false)] .pick,p1 2 20] .ret)
theorem ae_:qt Tryz.prog UK 53=some (aap,21,[.tmp 2]):=by kernel_rfl
def MR (s:(Int×Int)):Option Bool :=
 if (decide ((0:Int)≤s.1))=true then
  if (decide (s.1≤(100:Int)))=true then
   if (decide ((-10:Int)≤s.2))=true then
    some (decide (s.2≤(10:Int)))
   else
    some false
  else
   some false
 else
  some false
theorem TM {s:(Int×Int)} {v:Bool} (h:MR s=some v):qB 53 [(.agg [(h0 s.1),(h0 s.2)])] (B v):=by
 refine qR eG ae_ rfl rfl fun Q bp=>?_;have jJ:qK [.tmp 2] Q (fun v=>(B v)) v:=fun T H bE=>bp _ T H bE;unfold MR at h;unfold aap;conv=>whnf
 refine bs h (fun gM h=>?_) fun gM h=>?_
 ·rw [gM];conv=>whnf
  refine bs h (fun gN h=>?_) fun gN h=>?_
  ·rw [gN];(conv=>whnf);refine bs h (fun qx h=>?_) fun qx h=>?_
   ·rw [qx];(conv=>whnf);exact p8 h jJ rfl rfl
   ·rw [qx];(conv=>whnf);exact p8 h jJ rfl rfl
  ·rw [gN];(conv=>whnf);exact p8 h jJ rfl rfl
 ·rw [gM];conv=>whnf
  exact p8 h jJ rfl rfl

noncomputable def QY:gE :=
 .loop (some (qc false [1,1,1,2,44])) (.seq (p2 [p3 18 4,p3 19 3,qn 20 18 19 .lss] (.cond (.nc 20) .skip (.exit 0))) (.seq (.block 1 (p2 [p0 23 [.nc 1] (.yM 0),qi 24 23,p3 25 4,rv 26 24 25 2,p0 27 [.Bs 26] (.zE (.str 2)),p0 28 [.cv (.func 53 [] []),.nc 27] (.call 3),p0 29 [.Bs 28] (.un .not)] (.cond (.nc 29) (p2 [qh 2 3] .ret) .skip))) (qV [p1 21 4,q2 22 21 1,p1 4 22])))
noncomputable def QZ:gE :=
 .seq (p2 [qh 4 0] (.block 0 QY)) (.seq (p2 [p0 30 [.nc 1] (.yM 1),qz 31 30 0,qi 32 31,qE 33 32 0 .lss,p1 34 33,cl 35 [.nc 1] 34 false (.yM 1),cl 36 [.Bs 35] 34 false (.yM 0),cl 37 [.Bs 36] 34 false (.zE .one),cl 38 [.nc 1] 34 false (.yM 1),cl 39 [.Bs 38] 34 false (.yM 1),cl 40 [.Bs 39] 34 false (.zE .one),cl 41 [.Bs 37,.Bs 40] 34 false (.bin .gtr),p0 42 [.Bs 34,.cv (.bool true),.Bs 41] .pick,p1 43 42,cl 44 [.Bs 1] 43 false (.yM 1),cl 45 [.Bs 44] 43 false (.yM 1),cl 46 [.Bs 45] 43 false (.zE .one),cl 47 [.Bs 46,.cv (.int .i64 50)] 43 false (.bin .gtr),p0 48 [.Bs 43,.cv (.bool true),.Bs 47] .pick] (.cond (.nc 48) (p2 [qh 2 3] .ret) .skip)) (p2 [qh 2 0] .ret))
noncomputable def aal:gE :=
 p2 [p0 1 [.jq 0] .box,qh 2 0] (p2 [p0 5 [.nc 1] (.yM 0),qi 6 5,q3 7 6,p1 3 7] (.seq (p2 [p3 8 3,qE 9 8 3 .neq,p1 10 9,cl 11 [.nc 3] 10 true .mU,cl 12 [.Bs 11,.cv (.int .i64 5)] 10 true (.bin .neq),p0 13 [.Bs 10,.Bs 12,.cv (.bool false)] .pick,p1 14 13,cl 15 [.nc 3] 14 true .mU,cl 16 [.Bs 15,.cv (.int .i64 7)] 14 true (.bin .neq),p0 17 [.Bs 14,.Bs 16,.cv (.bool false)] .pick] (.cond (.nc 17) (p2 [qh 2 6] .ret) .skip)) QZ))
theorem ae6:qt Tryz.prog Pm 46=some (aal,49,[.tmp 2]):=by kernel_rfl
def MP (p:(qd×(Int×Int))) (rm:Unit→Option Int):Nat→Int→Option Int
 | 0,_=>none
 | m+1,s1 =>
   if (decide (s1<(p.1.length:Int)))=true then
    qk (0≤s1∧s1<(p.1.length:Int)) <|
    (MR (ix p.1 s1)).bind fun aS =>
    if aS=true then
     MP p rm m (w (s1+(1:Int)))
    else
     some (3:Int)
   else
    rm ()
def MO (p:(qd×(Int×Int)))  : Option Int :=
 MP p (fun _ =>
   if (decide (p.2.1<(0:Int)))=true then
    some (3:Int)
   else
    if (decide (p.2.2<p.2.1))=true then
     some (3:Int)
    else
     if (decide ((50:Int)<p.2.2))=true then
      some (3:Int)
     else
      some (0:Int)) qj (0:Int)
def Ki (p:(qd×(Int×Int))):Option Int :=
 if (decide ((p.1.length:Int)≠(3:Int)))=true then
  if (decide ((p.1.length:Int)≠(5:Int)))=true then
   if (decide ((p.1.length:Int)≠(7:Int)))=true then
    some (6:Int)
   else
    MO p
  else
   MO p
 else
  MO p
theorem aiV {p:(qd×(Int×Int))} {rm:Unit→Option Int} {s1:Int} {v:Int} {Q:r1}   (jJ:qK [.tmp 2] Q (fun v=>(h0 v)) v) (KW:∀ (qb:List I),rm ()=some v→ra 49 [(1,(.ptr 0 0))] qb→Q (.exit 0) qb [ar.cells [(qv p.1 .shared),(h0 p.2.1),(h0 p.2.2)]]) {T:List I} (b0:eZ (qc false [1,1,1,2,44]) T=qe 49 [(1,(.ptr 0 0)),(3,(h0 (p.1.length:Int))),(4,(h0 s1))]) (h:MP p rm qj s1=some v) :
  dQ Tryz.prog Pm 46 0 none QY T [ar.cells [(qv p.1 .shared),(h0 p.2.1),(h0 p.2.2)]] Q:=by
 unfold QY;refine wp_loop b0 ?_;refine .intro (fun m T H=>∃ (s1:Int),T=qe 49 [(1,(.ptr 0 0)),(3,(h0 (p.1.length:Int))),(4,(h0 s1))]∧H=[ar.cells [(qv p.1 .shared),(h0 p.2.1),(h0 p.2.2)]]∧MP p rm m s1=some v) qj ⟨s1,rfl,rfl,h⟩ ?_;clear h b0;rintro m T H ⟨s1,rfl,rfl,h⟩;cases m
 ·exact r0 h
 rename_i m;rw [MP.eq_2] at h;conv=>whnf
 refine bs h (fun qQ h=>?_) fun qQ h=>?_
 ·rw [qQ];conv=>whnf
  refine qD h id fun qA h=>?_;rw [r6 p7 2 q' p.1 s1 qA];conv=>whnf
  obtain ⟨aS,q5,h⟩:=p9 h;refine ⟨qa.pl,_,TM q5,?_⟩;conv=>whnf
  cases aS
  ·(conv=>whnf);replace h:=rr rfl h;exact p8 h jJ rfl rfl
  ·(conv=>whnf);replace h:=rq rfl h;exact ⟨m,sv m,(w (s1+(1:Int))),rfl,rfl,h⟩
 ·rw [qQ];conv=>whnf
  exact KW  _ h ⟨rfl,rfl⟩
theorem TI {p:(qd×(Int×Int))} {v:Int} {Q:r1}  {qb:List I}  (jJ:qK [.tmp 2] Q (fun v=>(h0 v)) v) (qo:ra 49 [(1,(.ptr 0 0)),(3,(h0 (p.1.length:Int)))] qb) (h:MO p  = some v) :
  dQ Tryz.prog Pm 46 0 none QZ qb [ar.cells [(qv p.1 .shared),(h0 p.2.1),(h0 p.2.2)]] Q:=by
 obtain ⟨re,rfl⟩:=qo.ex;unfold MO at h;unfold QZ;obtain ⟨HK,qJ⟩:∃ c,QY=c:=⟨_,rfl⟩;rw [qJ];conv=>whnf
 subst qJ;refine aiV ?_ ?_ (by exact rfl) h
 ·exact fun T H bE=>jJ T H bE
 ·intro  qb h qo;obtain ⟨re,rfl⟩:=qo.ex;conv=>whnf
  refine bs h (fun qP h=>?_) fun qP h=>?_
  ·rw [qP];(conv=>whnf);exact p8 h jJ rfl rfl
  ·rw [qP];(conv=>whnf);refine bs h (fun qT h=>?_) fun qT h=>?_
   ·rw [qT];(conv=>whnf);exact p8 h jJ rfl rfl
   ·rw [qT];(conv=>whnf);refine bs h (fun qN h=>?_) fun qN h=>?_
    ·rw [qN];(conv=>whnf);exact p8 h jJ rfl rfl
    ·rw [qN];(conv=>whnf);exact p8 h jJ rfl rfl
theorem TJ {p:(qd×(Int×Int))} {v:Int} (h:Ki p=some v):qB 46 [(.agg [(.av (p.1.flatMap p7) p.1.length .shared),(h0 p.2.1),(h0 p.2.2)])] (h0 v):=by
 refine qR eG ae6 rfl rfl fun Q bp=>?_;have jJ:qK [.tmp 2] Q (fun v=>(h0 v)) v:=fun T H bE=>bp _ T H bE;unfold Ki at h;unfold aal;obtain ⟨Lh,rb⟩:∃ c,QZ=c:=⟨_,rfl⟩;rw [rb];conv=>whnf
 refine bs h (fun gM h=>?_) fun gM h=>?_
 ·rw [gM];conv=>whnf
  refine bs h (fun gN h=>?_) fun gN h=>?_
  ·rw [gN];(conv=>whnf);refine bs h (fun qx h=>?_) fun qx h=>?_
   ·rw [qx];(conv=>whnf);exact p8 h jJ rfl rfl
   ·rw [qx];(conv=>whnf);subst rb;refine TI ?_ (by exact ⟨rfl,rfl⟩) h;exact fun T H bE=>jJ T H bE
  ·rw [gN];(conv=>whnf);subst rb;refine TI ?_ (by exact ⟨rfl,rfl⟩) h;exact fun T H bE=>jJ T H bE
 ·rw [gM];conv=>whnf
  subst rb;refine TI ?_ (by exact ⟨rfl,rfl⟩) h;exact fun T H bE=>jJ T H bE

noncomputable def Q5:gE :=
 .loop (some (qc false [0,2,3,1,12])) (.seq (p2 [p3 6 5,p3 7 0,q3 8 7,qn 9 6 8 .lss] (.cond (.nc 9) .skip (.exit 0))) (.seq (.block 1 (p2 [p3 12 0,p3 13 5,rv 14 12 13 1,qi 15 14,p3 16 1,qn 17 15 16 .eql] (.cond (.nc 17) (p2 [p0 4 [.cv (.bool true)] .mU] .ret) .skip))) (qV [p1 10 5,q2 11 10 1,p1 5 11])))
noncomputable def aaw:gE :=
 p2 [p0 4 [.cv (.bool false)] .mU] (.seq (p2 [qh 5 0] (.block 0 Q5)) (p2 [p0 4 [.cv (.bool false)] .mU] .ret))
theorem afg:qt Tryz.prog Ro 72=some (aaw,18,[.tmp 4]):=by kernel_rfl
def MV (l:p_) (n:Int) (p':Unit→Option Bool):Nat→Int→Option Bool
 | 0,_=>none
 | m+1,s1 =>
   if (decide (s1<(l.length:Int)))=true then
    qk (0≤s1∧s1<(l.length:Int)) <|
    if (decide ((ix l s1)=n))=true then
     some true
    else
     MV l n p' m (w (s1+(1:Int)))
   else
    p' ()
def MU (l:p_) (n:Int):Option Bool :=
 MV l n (fun _ =>
   some false) qj (0:Int)
theorem ai9 {l:p_} {n:Int} {p':Unit→Option Bool} {s1:Int} {v:Bool} {Q:r1}   (jJ:qK [.tmp 4] Q (fun v=>(B v)) v) (rn:∀ (qb:List I),p' ()=some v→ra 18 [] qb→Q (.exit 0) qb []) {T:List I} (b0:eZ (qc false [0,2,3,1,12]) T=qe 18 [(0,(qS l .shared)),(1,(h0 n)),(5,(h0 s1))]) (h:MV l n p' qj s1=some v) :
  dQ Tryz.prog Ro 72 0 none Q5 T [] Q:=by
 unfold Q5;refine wp_loop b0 ?_;refine .intro (fun m T H=>∃ (s1:Int),T=qe 18 [(0,(qS l .shared)),(1,(h0 n)),(5,(h0 s1))]∧H=[]∧MV l n p' m s1=some v) qj ⟨s1,rfl,rfl,h⟩ ?_;clear h b0;rintro m T H ⟨s1,rfl,rfl,h⟩;cases m
 ·exact r0 h
 rename_i m;rw [MV.eq_2] at h;conv=>whnf
 refine bs h (fun gM h=>?_) fun gM h=>?_
 ·rw [gM];conv=>whnf
  refine qD h id fun gN h=>?_;rw [rG h0 l s1 gN];conv=>whnf
  refine bs h (fun qx h=>?_) fun qx h=>?_
  ·rw [qx];(conv=>whnf);exact p8 h jJ rfl rfl
  ·rw [qx];(conv=>whnf);exact ⟨m,sv m,(w (s1+(1:Int))),rfl,rfl,h⟩
 ·rw [gM];conv=>whnf
  exact rn  _ h ⟨rfl,rfl⟩
theorem ZR {l:p_} {n:Int} {v:Bool} (h:MU l n=some v):qB 72 [(.av (l.map h0) l.length .shared),(h0 n)] (B v):=by
 refine qR eG afg rfl rfl fun Q bp=>?_;have jJ:qK [.tmp 4] Q (fun v=>(B v)) v:=fun T H bE=>bp _ T H bE;unfold MU at h;unfold aaw;obtain ⟨HK,qJ⟩:∃ c,Q5=c:=⟨_,rfl⟩;rw [qJ];conv=>whnf
 subst qJ;refine ai9 ?_ ?_ (by exact rfl) h
 ·exact fun T H bE=>jJ T H bE
 ·intro  qb h qo;obtain ⟨re,rfl⟩:=qo.ex;conv=>whnf
  exact p8 h jJ rfl rfl

noncomputable def Q0:gE :=
 .loop (some (qc false [1,2,2,1,42])) (.seq (p2 [p3 17 5,p3 18 1,q3 19 18,qn 20 17 19 .lss] (.cond (.nc 20) .skip (.exit 0))) (.seq (.block 1 (.seq (rA [p3 23 1,p3 24 5,rv 25 23 24 1,qi 26 25,qE 27 26 0 .lss,p1 28 27,cl 29 [.nc 1] 28 false .mU,cl 30 [.nc 5] 28 false .mU,cl 31 [.Bs 29,.Bs 30] 28 false (.kY 1),cl 32 [.Bs 31] 28 false (.zE .one),cl 33 [.nc 2] 28 false (.yM 0),cl 34 [.Bs 33] 28 false (.zE .one),cl 35 [.jq 34] 28 false .zJ,cl 36 [.Bs 32,.Bs 35] 28 false (.bin .geq),p0 37 [.nc 28,.cv (.bool true),.Bs 36] .pick,p1 38 37,cl 39 [.nc 1] 38 false .mU,cl 40 [.nc 5] 38 false .mU,⟨some 41,[.jq 39,.jq 40],some (38,false),none,.Bh 1 false true false⟩,cl 42 [.nc 1] 38 false .mU,cl 43 [.nc 5] 38 false .mU,cl 44 [.Bs 42,.Bs 43] 38 false (.kY 1),cl 45 [.Bs 44] 38 false (.zE .one),⟨some 46,[.cv (.func 72 [] []),.nc 41,.nc 45],some (38,false),none,.call 3⟩,p0 47 [.nc 38,.cv (.bool true),.Bs 46] .pick]) (.cond (.nc 47) (p2 [qh 4 16] .ret) .skip))) (qV [p1 21 5,q2 22 21 1,p1 5 22])))
noncomputable def aao:gE :=
 p2 [p0 2 [.jq 0] .box,qh 4 0] (.seq (p2 [p0 6 [.nc 2] (.zE (.str 3)),p0 7 [.cv (.func 46 [] []),.nc 6] (.call 3),qE 8 7 0 .neq] (.cond (.nc 8) (p2 [p0 9 [.Bs 2] (.zE (.str 3)),p0 10 [.cv (.func 46 [] []),.nc 9] (.call 3),p1 4 10] .ret) .skip)) (.seq (p2 [p3 11 1,q3 12 11,p0 13 [.nc 2] (.yM 0),qi 14 13,q3 15 14,qn 16 12 15 .neq] (.cond (.nc 16) (p2 [qh 4 16] .ret) .skip)) (.seq (p2 [qh 5 0] (.block 0 Q0)) (p2 [qh 4 0] .ret))))
theorem ae9:qt Tryz.prog Ri 52=some (aao,48,[.tmp 4]):=by kernel_rfl
def MQ (p:(qd×(Int×Int))) (order:p_) (p':Unit→Option Int):Nat→Int→Option Int
 | 0,_=>none
 | m+1,s1 =>
   if (decide (s1<(order.length:Int)))=true then
    qk (0≤s1∧s1<(order.length:Int)) <|
    if (decide ((ix order s1)<(0:Int)))=true then
     some (16:Int)
    else
     qk (0≤s1∧s1<(order.length:Int)) <|
     if (decide ((p.1.length:Int)≤(ix order s1)))=true then
      some (16:Int)
     else
      qk (0≤s1∧s1≤(order.length:Int)) <|
      qk (0≤s1∧s1<(order.length:Int)) <|
      (MU (order.take s1.toNat) (ix order s1)).bind fun eK =>
      if eK=true then
       some (16:Int)
      else
       MQ p order p' m (w (s1+(1:Int)))
   else
    p' ()
def LF (p:(qd×(Int×Int))) (order:p_):Option Int :=
 (Ki p).bind fun aS =>
 if (decide (aS≠(0:Int)))=true then
  (Ki p).bind fun bj =>
  some bj
 else
  if (decide ((order.length:Int)≠(p.1.length:Int)))=true then
   some (16:Int)
  else
   MQ p order (fun _ =>
     some (0:Int)) qj (0:Int)
theorem aiY {p:(qd×(Int×Int))} {order:p_} {p':Unit→Option Int} {s1:Int} {v:Int} {Q:r1}   (jJ:qK [.tmp 4] Q (fun v=>(h0 v)) v) (rn:∀ (bx:ar) (qb:List I),p' ()=some v→ra 48 [] qb→Q (.exit 0) qb [bx]) {T:List I} (b0:eZ (qc false [1,2,2,1,42]) T=qe 48 [(1,(qS order .shared)),(2,(.ptr 0 0)),(5,(h0 s1))]) (h:MQ p order p' qj s1=some v) :
  dQ Tryz.prog Ri 52 0 none Q0 T [ar.cells [(qv p.1 .shared),(h0 p.2.1),(h0 p.2.2)]] Q:=by
 unfold Q0;refine wp_loop b0 ?_;refine .intro (fun m T H=>∃ (s1:Int),T=qe 48 [(1,(qS order .shared)),(2,(.ptr 0 0)),(5,(h0 s1))]∧H=[ar.cells [(qv p.1 .shared),(h0 p.2.1),(h0 p.2.2)]]∧MQ p order p' m s1=some v) qj ⟨s1,rfl,rfl,h⟩ ?_;clear h b0;rintro m T H ⟨s1,rfl,rfl,h⟩;cases m
 ·exact r0 h
 rename_i m;rw [MQ.eq_2] at h;conv=>whnf
 refine bs h (fun qA h=>?_) fun qA h=>?_
 ·rw [qA];conv=>whnf
  refine qD h id fun q5 h=>?_;rw [rG h0 order s1 q5];conv=>whnf
  refine bs h (fun qP h=>?_) fun qP h=>?_
  ·rw [qP];(conv=>whnf);exact p8 h jJ rfl rfl
  ·rw [qP];(conv=>whnf);refine qD h id fun qT h=>?_;rw [rG h0 order s1 qT];(conv=>whnf);refine bs h (fun qN h=>?_) fun qN h=>?_
   ·rw [qN];(conv=>whnf);exact p8 h jJ rfl rfl
   ·rw [qN];(conv=>whnf);refine qD h id fun r3 h=>?_;erw [Tn h0 order s1 r3];(conv=>whnf);refine qD h id fun IX h=>?_;rw [rG h0 order s1 IX];(conv=>whnf);obtain ⟨eK,I',h⟩:=p9 h;refine ⟨qa.pl,_,ZR I',Hj,?_⟩;(conv=>whnf);cases eK
    ·(conv=>whnf);replace h:=rr rfl h;exact ⟨m,sv m,(w (s1+(1:Int))),rfl,rfl,h⟩
    ·(conv=>whnf);replace h:=rq rfl h;exact p8 h jJ rfl rfl
 ·rw [qA];conv=>whnf
  exact rn _ _ h ⟨rfl,rfl⟩
theorem ZD {p:(qd×(Int×Int))} {order:p_} {v:Int} (h:LF p order=some v):qB 52 [(.agg [(.av (p.1.flatMap p7) p.1.length .shared),(h0 p.2.1),(h0 p.2.2)]),(.av (order.map h0) order.length .shared)] (h0 v):=by
 refine qR eG ae9 rfl rfl fun Q bp=>?_;have jJ:qK [.tmp 4] Q (fun v=>(h0 v)) v:=fun T H bE=>bp _ T H bE;unfold LF at h;unfold aao;obtain ⟨HK,qJ⟩:∃ c,Q0=c:=⟨_,rfl⟩;rw [qJ];conv=>whnf
 obtain ⟨aS,gM,h⟩:=p9 h;refine ⟨qa.pl,_,TJ gM,?_⟩;conv=>whnf
 refine bs h (fun gN h=>?_) fun gN h=>?_
 ·rw [gN];conv=>whnf
  obtain ⟨bj,qx,h⟩:=p9 h;refine ⟨qa.pl,_,TJ qx,?_⟩;conv=>whnf
  exact p8 h jJ rfl rfl
 ·rw [gN];conv=>whnf
  refine bs h (fun qQ h=>?_) fun qQ h=>?_
  ·rw [qQ];(conv=>whnf);exact p8 h jJ rfl rfl
  ·rw [qQ];(conv=>whnf);subst qJ;refine aiY ?_ ?_ (by exact rfl) h
   ·exact fun T H bE=>jJ T H bE
   ·intro bx qb h qo;obtain ⟨re,rfl⟩:=qo.ex;(conv=>whnf);exact p8 h jJ rfl rfl
end Go.Proofs.YtkoioidpbbbaiaaGreat.Ab
