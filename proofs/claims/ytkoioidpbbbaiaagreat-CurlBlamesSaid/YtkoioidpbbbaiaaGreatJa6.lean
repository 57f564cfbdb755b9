
import Derived.Test.YtkoioidpbbbaiaaGreatJa5
import Derived.Sort.AssemblyPlain
import Derived.KernelRfl
import Derived.Test.YtkoioidpbbbaiaaGreatJa4
import Derived.Test.YtkoioidpbbbaiaaGreatProg
set_option linter.unusedSimpArgs false
set_option linter.unusedVariables false
set_option linter.unusedSectionVars false

open Array renaming length_toList→s_
open Bool renaming and_eq_true→su,and_self→uh,and_true→tx
open Classical renaming choose_spec→uJ
open Int renaming le_refl→sY
open List renaming all_cons→tH,all_nil→uj,any_eq_true→vM,append_assoc→sC,append_nil→sM,drop_eq_getElem_cons→sV,drop_length→uO,exists_cons_of_ne_nil→tY,filter_append→tE,filter_congr→uq,filter_cons_of_neg→uN,filter_cons_of_pos→vn,filter_eq_self→tS,filter_filter→uH,find?_eq_none→uL,flatMap_append→uB,getD_eq_getElem?_getD→sB,getElem?_append→sr,getElem?_append_right→sv,getElem?_eq_getElem→sm,getElem?_eq_some_iff→sd,getElem?_map→sq,getElem?_set_ne→sf,getElem_map→tX,length_append→sD,length_cons→sO,length_eq_zero_iff→sT,length_erase_of_mem→tR,length_map→sZ,length_nil→ug,map_append→sR,map_cons→sI,map_set→tQ,mem_append→sU,mem_cons→sy,mem_filter→tc,mem_flatMap→tW,mem_map→sH,mem_map_of_mem→tn,mem_range→sJ,nil_append→uy,nodup_append→tZ,nodup_cons→tU,not_mem_nil→uc,set_append_right→vj,set_getElem_self→vL,set_set→s7,take_of_length_le→tb
open Nat renaming add_assoc→tj,le_refl→se,lt_succ_self→sg,zero_add→sG,zero_le→sE
open Option renaming bind_some→sc,map_eq_some_iff→sb,map_some→si
namespace Go.Proofs.YtkoioidpbbbaiaaGreat.Ab
open Go
set_option maxRecDepth 20000
set_option maxHeartbeats 4000000
theorem adX (x:Int):qv 123 [hX x] (B false):=by
 refine Rg eD aee rfl rfl ?_;unfold XL;conv=>whnf
 exact Kc (.inr rfl) rfl (by rw [decide_eq_false (show ¬ (x≠x) from fun h=>h rfl)];rfl)
theorem ad_ (x y:Int):qv 116 [hX x,hX y] (B (decide (x<y))):=by
 refine Rg eD aed rfl rfl ?_;unfold XK;conv=>whnf
 refine ⟨by first | rfl | simp only [tH,uj,Mq,My,Mr,Mt,Ms,Mu,MA,Mz,Ka,Mv,Mw,Mx,tx,uh],_,adX x,?_⟩
 conv=>whnf
 exact Kc (.inr rfl) rfl rfl
def II (d:Array Int):ar:=.cells (d.toList.map hX)
def Kq (id n:Nat):I:=.ref id 0 n none 1
theorem ace (d:Array Int) (x:Nat) (h:x<d.size):(d.toList.map hX)[x]?=some (hX d[x]!):=by
 simp [h]
theorem acf (d:Array Int) (x:Nat) (v:Int):(d.toList.map hX).set x (hX v)=(d.setIfInBounds x v).toList.map hX:=by
 simp [tQ]
theorem swp_size (d:Array Int) (i j:Nat):(Sort.swp d i j).size=d.size:=by simp [Sort.swp]
theorem Py {d:Array Int} {n:Nat} (x:Nat) (e:n=x) (h:x<d.size) {K:I→Prop} (k:K (hX d[x]!)):eG (d.toList.map hX) n K:=by
 subst e;exact Ew (ace d n h) k
theorem Zt {d:Array Int} {n:Nat} {v:Int} (x:Nat) (e:n=x) (h:x<d.size) {K:List I→Prop} (k:K ((d.setIfInBounds x v).toList.map hX)):jq (d.toList.map hX) n (hX v) K:=by
 subst e;refine Gn (by simpa using h) ?_;rw [acf];exact k
section
variable {H:List ar} {id lo:Nat} (bC:lo≤id)
include bC
theorem adW (d:Array Int) (a b:Nat) (a1:d.size≤1000) (cq:a≤b) (af:b≤d.size) (ag:H[id]?=some (II d)) :
  Sem Go.Proofs.Tryz.prog (.fn 110) [Kq id d.size,hX a,hX b] H lo (.tuple []) (H.set id (II (Sort.insertionSort Sort.ltInt d a b))):=by
 have aE:=(sd.1 ag).1;refine Vn eD WJ rfl ⟨by simp,fun j ab ae=>by rw [sf (by omega)]⟩ ?_;unfold Sk;conv=>whnf
 have CI:Nat.ble lo id=true:=Nat.ble_eq_true_of_le bC;have gs:∀ c:ar,(H.set id c)[id]?=some c:=fun c=>by rw [List.getElem?_set_self aE]
 have J4:∀ c e:ar,((H.set id c).set id e)[id]?=some e:=fun c e=>by rw [s7,gs]
 rw [PL a (by omega)];refine .intro (fun m T H'=>∃ i g8,a+1≤i∧(i≤b∨i=a+1)∧m=b+1-i∧g8.size=d.size∧Sort.insOuter Sort.ltInt a b i g8=Sort.insertionSort Sort.ltInt d a b∧T=qf 49 [(0,Kq id d.size),(1,hX a),(2,hX b),(6,hX i)]∧H'=H.set id (II g8)) (b-a) ⟨a+1,d,by omega,.inr rfl,by omega,rfl,rfl,rfl,?_⟩ ?_
 ·obtain ⟨ab,ae⟩:=sd.1 ag;rw [←ae,vL]
 rintro m T H' ⟨i,g8,adA,RJ,rfl,CT,he,rfl,rfl⟩;conv=>whnf
 refine HG (fun h=>?_) (fun h=>?_)
 ·conv=>whnf
  refine .intro (fun j T H'=>∃ IX:Array Int,j≤i∧IX.size=d.size∧Sort.insInner Sort.ltInt a j IX=Sort.insInner Sort.ltInt a i g8∧T=qf 49 [(0,Kq id d.size),(1,hX a),(2,hX b),(6,hX i),(7,hX j)]∧H'=H.set id (II IX)) i ⟨g8,se _,CT,rfl,rfl,rfl⟩ ?_;rintro j T H' ⟨IX,aw,RG,Lf,rfl,rfl⟩;conv=>whnf
  by_cases aF:(a:Int)<(j:Int)
  ·rw [decide_eq_true aF];obtain ⟨q,rfl⟩:∃ q,j=q+1:=⟨j-1,by omega⟩;(have hw:IntKind.i64.wrap (((q+1:Nat):Int)-1)=(q:Int):=by rw [HQ _ (by omega) (by omega)];omega);(conv=>whnf);refine ⟨by omega,?_⟩;(conv=>whnf);refine Ew (by first | exact gs _ | exact J4 _ _ | assumption) ?_
   (conv=>whnf);refine Py (q+1) (by omega) (by omega) ?_;(conv=>whnf);rw [hw];refine ⟨by omega,?_⟩;(conv=>whnf);refine Ew (by first | exact gs _ | exact J4 _ _ | assumption) ?_
   (conv=>whnf);refine Py (q) (by omega) (by omega) ?_;(conv=>whnf);refine ⟨by first | rfl | simp only [tH,uj,Mq,My,Mr,Mt,Ms,Mu,MA,Mz,Ka,Mv,Mw,Mx,tx,uh],_,ad_ IX[q+1]! IX[q]!,rB,?_⟩
   (conv=>whnf);by_cases ba:IX[q+1]!<IX[q]!
   ·rw [decide_eq_true ba];(conv=>whnf);rw [hw];refine ⟨by omega,?_⟩;(conv=>whnf);refine Ew (by first | exact gs _ | exact J4 _ _ | assumption) ?_
    (conv=>whnf);refine Py (q) (by omega) (by omega) ?_;(conv=>whnf);refine ⟨by omega,?_⟩;(conv=>whnf);refine Ew (by first | exact gs _ | exact J4 _ _ | assumption) ?_
    (conv=>whnf);refine Py (q+1) (by omega) (by omega) ?_;(conv=>whnf);refine ⟨by omega,?_⟩;(conv=>whnf);rw [CI];(conv=>whnf);refine Ew (by first | exact gs _ | exact J4 _ _ | assumption) ?_
    (conv=>whnf);refine Zt (q+1) (by omega) (by first | omega | (simp only [Array.size_setIfInBounds];omega)) ?_
    (conv=>whnf);refine ⟨by omega,?_⟩;(conv=>whnf);rw [CI];(conv=>whnf);refine Ew (by first | exact gs _ | exact J4 _ _ | assumption) ?_
    (conv=>whnf);refine Zt (q) (by omega) (by first | omega | (simp only [Array.size_setIfInBounds];omega)) ?_
    (conv=>whnf);refine ⟨q,by omega,Sort.swp IX (q+1) q,by omega,by rw [swp_size];exact RG,?_,?_,?_⟩
    ·rw [←Lf,Sort.insInner,if_pos (by simp only [Sort.ltInt,su,decide_eq_true_eq];exact ⟨by omega,ba⟩)]
    ·rw [hw];rfl
    ·simp only [s7];rfl
   ·rw [decide_eq_false ba];(conv=>whnf);have e:Sort.insInner Sort.ltInt a i g8=IX:=by
     rw [←Lf,Sort.insInner,if_neg (by simp only [Sort.ltInt,su,decide_eq_true_eq];exact fun bD=>ba bD.2)]
    exact ⟨b+1-(i+1),by omega,i+1,IX,by omega,by omega,rfl,RG,by rw [←he,Sort.insOuter.eq_1 _ a b i,if_pos (by omega),e],by rw [←PL i (by omega)];rfl,rfl⟩
  ·rw [decide_eq_false aF];(conv=>whnf);have e:Sort.insInner Sort.ltInt a i g8=IX:=by
    rw [←Lf];cases j with
    | zero=>rfl
    | succ q=>rw [Sort.insInner,if_neg (by simp only [su,decide_eq_true_eq];exact fun bD=>by omega)]
   exact ⟨b+1-(i+1),by omega,i+1,IX,by omega,by omega,rfl,RG,by rw [←he,Sort.insOuter.eq_1 _ a b i,if_pos (by omega),e],by rw [←PL i (by omega)];rfl,rfl⟩
 ·conv=>whnf
  have e:Sort.insertionSort Sort.ltInt d a b=g8:=by
   rw [←he];unfold Sort.insOuter;rw [if_neg (by omega)]
  rw [e];exact ⟨.inl rfl,⟨by simp,fun j o aw=>.inr aw⟩,rfl⟩
theorem afX (d:Array Int) (JB:Int) (a1:d.size≤12) (ag:H[id]?=some (II d)) :
  Sem Go.Proofs.Tryz.prog (.fn 103) [Kq id d.size,hX 0,hX d.size,hX JB] H lo (.tuple []) (H.set id (II (Sort.insertionSort Sort.ltInt d 0 d.size))):=by
 refine rK eD WI rfl ⟨by simp,fun j ab ae=>by rw [sf (by omega)]⟩ fun Q bo=>?_;unfold Si;obtain ⟨Q3,Ju⟩:∃ c,NR=c:=⟨_,rfl⟩;rw [Ju];conv=>whnf
 refine .intro (fun m T H'=>T=qf 134 [(0,Kq id d.size),(1,hX 0),(2,hX d.size),(3,hX JB),(8,B true),(9,B true)]∧H'=H) 0 ⟨rfl,rfl⟩ ?_;rintro m T H' ⟨rfl,rfl⟩;subst Ju;unfold NR;obtain ⟨a7,cc⟩:∃ c,NQ=c:=⟨_,rfl⟩;obtain ⟨Q2,K9⟩:∃ c,Sj=c:=⟨_,rfl⟩;rw [cc,K9];conv=>whnf
 rw [show IntKind.i64.wrap ((d.size:Int)-0)=(d.size:Int) by rw [HQ _ (by omega) (by omega)];omega,decide_eq_true (show (d.size:Int)≤12 by omega)];conv=>whnf
 subst cc;unfold NQ;conv=>whnf
 refine ⟨_,_,rG (adW bC d 0 d.size (by omega) (sE _) (se _) ag),?_⟩;conv=>whnf
 exact bo _ _ _ ⟨.inr rfl,⟨rfl,fun j o aw=>.inr aw⟩,rfl⟩
end
theorem Zu (n:Int):IntKind.u64.wrap n=n % 18446744073709551616:=by simp [IntKind.wrap,IntKind.bits,IntKind.signed]
theorem ad9:((List.range 13).all fun n=>match S2 [] 79 [.int .u64 (n:Nat)] with | some v=>Jc 3 v (hX (Sort.bitsLen n)) | none=>false)=true:=by kernel_rfl
theorem OH (n:Nat) (h:n≤12):qv 79 [.int .u64 n] (hX (Sort.bitsLen n)):=by
 have:=List.all_eq_true.1 ad9 n (sJ.2 (by omega));split at this
 ·rename_i v ad;rw [OG _ _ _ this] at ad;exact ahp (l:=[]) (by simp) ad
 ·cases this
theorem ahz {H:List ar} {id lo:Nat} (bC:lo≤id) (d:Array Int) (a1:d.size≤12) (ag:H[id]?=some (II d)) :
  Sem Go.Proofs.Tryz.prog (.fn 86) [Kq id d.size] H lo (.tuple []) (H.set id (II (Sort.insertionSort Sort.ltInt d 0 d.size))):=by
 refine rK eD WO rfl ⟨by simp,fun j ab ae=>by rw [sf (by omega)]⟩ fun Q bo=>?_;unfold SW;conv=>whnf
 rw [show IntKind.u64.wrap (d.size:Int)=(d.size:Int) by rw [Zu];omega];refine ⟨by first | rfl | simp only [tH,uj,Mq,My,Mr,Mt,Ms,Mu,MA,Mz,Ka,Mv,Mw,Mx,tx,uh],_,OH d.size a1,?_⟩
 conv=>whnf
 refine ⟨_,_,rG (afX bC d (Sort.bitsLen d.size) a1 ag),?_⟩;conv=>whnf
 exact bo _ _ _ ⟨.inl rfl,⟨rfl,fun j o aw=>.inr aw⟩,rfl⟩

theorem YI (l:List Int) (ao:l.length≤1000):Seq Tryz.prog 87 [.bR [.av (l.map hX) l.length .shared]] (l.map hX):=by
 intro L N q4 hlen fm ai Y;obtain ⟨Z,Lb,Kz⟩:=ahv ai Y;have r6:(l.map hX).length=l.length:=by simp
 have VO:∀ j (h:j<l.length),Sem Tryz.prog (.yield L) [hX l[j]] (q4 j++Z j) 0 (.bool true) (q4 (j+1)++Z (j+1)):=fun j aw=>by
  have:=Kz j (by rw [r6];exact aw);rw [tX] at this;exact this
 refine ⟨Z l.length,?_⟩;rw [r6];refine rK eD aeu rfl (IM ?_) fun Q bo=>?_
 ·have key:∀ j,j≤l.length→(q4 0++Y).length≤(q4 j++Z j).length:=fun j=>by
   induction j with
   | zero=>intro _;rw [Lb];exact se _
   | succ j a8=>intro aw;exact Nat.le_trans (a8 (by omega)) (VO j (by omega)).1.1
  exact key l.length (se _)
 unfold Ys;conv=>whnf
 refine .intro (fun m T H=>∃ j:Nat,j≤l.length∧m=l.length-j∧T=qf 16 [(0,.yield L),(5,.av (l.map hX) l.length .shared),(6,hX (l.length:Int)),(7,hX (j:Int))]∧H=q4 j++Z j) l.length ⟨0,sE _,rfl,rfl,by rw [Lb]⟩ ?_;rintro m T H ⟨j,aw,rfl,rfl,rfl⟩;conv=>whnf
 refine HG (fun J5=>?_) (fun J5=>?_)
 ·have aR:j<l.length:=by omega
  have af:0≤(j:Int)∧(j:Int)<(l.length:Int):=by omega
  conv=>whnf
  refine ⟨af,?_⟩;rw [ri hX l (j:Int) af];conv=>whnf
  rw [rH aR];refine ⟨_,_,rG (VO j aR),?_⟩;conv=>whnf
  refine ⟨l.length-(j+1),by omega,j+1,by omega,rfl,?_,rfl⟩;rw [show ((j+1:Nat):Int)=IntKind.i64.wrap ((j:Int)+1) by rw [HQ _ (by omega) (by omega)];omega];rfl
 ·obtain rfl:j=l.length:=by omega
  conv=>whnf
  exact bo _ _ _ ⟨.inl rfl,lF.refl _,rfl⟩
def I8 (l:List Int):List Int:=(Sort.insertionSort Sort.ltInt l.toArray 0 l.length).toList
theorem V7 (lt:Int→Int→Bool) (d:Array Int) (a b:Nat):(Sort.insertionSort lt d a b).size=d.size:=by
 have kB:∀ (j:Nat) (d:Array Int),(Sort.insInner lt a j d).size=d.size:=fun j=>by
  induction j with
  | zero=>intro d;rfl
  | succ j a8 =>
    intro d;rw [Sort.insInner];split
    ·rw [a8,swp_size]
    ·rfl
 show (Sort.insOuter lt a b (a+1) d).size=d.size
 have:∀ (n i:Nat) (d:Array Int),b-i=n→(Sort.insOuter lt a b i d).size=d.size:=fun n=>by
  induction n with
  | zero=>intro i d h;rw [Sort.insOuter.eq_1,if_neg (by omega)]
  | succ n a8=>intro i d h;rw [Sort.insOuter.eq_1,if_pos (by omega),a8 _ _ (by omega),kB]
 exact this _ _ d rfl
section
variable {H:List ar} {lo:Nat}
theorem adT:Sem Go.Proofs.Tryz.prog (.fn 110) [.av [] 0 .full,hX 0,hX 0] H lo (.tuple []) H:=by
 refine rK eD WJ rfl (a'.refl _ _) fun Q bo=>?_;unfold Sk;conv=>whnf
 refine .intro (fun m T H'=>T=qf 49 [(0,.av [] 0 .full),(1,hX 0),(2,hX 0),(6,hX 1)]∧H=H') 0 ⟨rfl,rfl⟩ ?_;rintro m T H' ⟨rfl,rfl⟩;conv=>whnf
 exact bo _ _ _ ⟨.inl rfl,⟨by simp,fun j o aw=>.inr aw⟩,rfl⟩
theorem af0 {JB:Int}:Sem Go.Proofs.Tryz.prog (.fn 103) [.av [] 0 .full,hX 0,hX 0,hX JB] H lo (.tuple []) H:=by
 refine rK eD WI rfl (a'.refl _ _) fun Q bo=>?_;unfold Si;obtain ⟨Q3,Ju⟩:∃ c,NR=c:=⟨_,rfl⟩;rw [Ju];conv=>whnf
 refine .intro (fun m T H'=>T=qf 134 [(0,.av [] 0 .full),(1,hX 0),(2,hX 0),(3,hX JB),(8,B true),(9,B true)]∧H'=H) 0 ⟨rfl,rfl⟩ ?_;rintro m T H' ⟨rfl,rfl⟩;subst Ju;unfold NR;obtain ⟨a7,cc⟩:∃ c,NQ=c:=⟨_,rfl⟩;obtain ⟨Q2,K9⟩:∃ c,Sj=c:=⟨_,rfl⟩;rw [cc,K9];conv=>whnf
 subst cc;unfold NQ;conv=>whnf
 refine ⟨_,_,rG adT,?_⟩;conv=>whnf
 exact bo _ _ _ ⟨.inr rfl,⟨rfl,fun j o aw=>.inr aw⟩,rfl⟩
theorem ahD:Sem Go.Proofs.Tryz.prog (.fn 86) [.av [] 0 .full] H lo (.tuple []) H:=by
 refine rK eD WO rfl (a'.refl _ _) fun Q bo=>?_;unfold SW;conv=>whnf
 refine ⟨by first | rfl | simp only [tH,uj,Mq,My,Mr,Mt,Ms,Mu,MA,Mz,Ka,Mv,Mw,Mx,tx,uh],_,OH 0 (by decide),?_⟩
 conv=>whnf
 refine ⟨_,_,rG af0,?_⟩;conv=>whnf
 exact bo _ _ _ ⟨.inl rfl,⟨by simp,fun j o aw=>.inr aw⟩,rfl⟩
end
def P2 (l:List Int):Option (List Int):=if l.length≤12 then some (I8 l) else none
theorem TB {l v:List Int} (h:P2 l=some v):qv 67 [.func 87 [] [.bR [.av (l.map hX) l.length .shared]]] (.av (v.map hX) v.length .shared):=by
 unfold P2 at h;split at h
 ·rename_i ak;obtain rfl:=Option.some.inj h;by_cases aQ:l.length=0
  ·obtain rfl:=sT.1 aQ;have adP:I8 []=[]:=sT.1 (by unfold I8;rw [s_,V7];rfl);rw [adP];have hg:[I.bR [.av (([]:List Int).map hX) ([]:List Int).length .shared]].all (cn 7)=true:=rfl;refine qN eD WL rfl (rL (fun _=>rfl) _ _ _) fun Q bo=>?_;unfold SG Yi;(conv=>whnf);refine ⟨_,_,Nf (p9 (I7 rfl hg) rfl) (Ve hg (YI [] (by simp)) (by simp)) _ _,?_⟩;(conv=>whnf);refine ⟨_,_,rG ahD,?_⟩;(conv=>whnf);refine ⟨_,_,fun C=>rfl,?_⟩;(conv=>whnf);exact bo _ _ _ ⟨.inr rfl,_,rfl,_,yW rfl,rfl⟩
  replace ak:0<l.length∧l.length≤12:=⟨by omega,ak⟩;have hg:[I.bR [.av (l.map hX) l.length .shared]].all (cn 7)=true:=p9 (Iq (p9 (rL (fun _=>rfl) _ _ _) rfl)) rfl;have cE:=Ve hg (YI l (by omega)) (by omega);have cl:=ahz (lo:=0) (id:=0) (se 0) l.toArray (by simpa using ak.2) (H:=[II l.toArray]) rfl;obtain ⟨S,Rn⟩:∃ S,S=Sort.insertionSort Sort.ltInt l.toArray 0 l.toArray.size:=⟨_,rfl⟩;have ad:I8 l=S.toList:=by rw [Rn];unfold I8;simp
  have bQ:S.size=l.length:=by rw [Rn,V7];simp
  rw [←Rn] at cl;rw [ad];have bI:l≠[]:=fun e=>by rw [e] at ak;exact absurd ak.1 (by decide)
  have adr:OK l=.av (l.map hX) l.length (.uniq 1):=by
   cases l with
   | nil=>exact absurd rfl bI
   | cons a l=>rfl
  rw [adr] at cE;refine qN eD WL rfl (rL (fun _=>rfl) _ _ _) fun Q bo=>?_;unfold SG;conv=>whnf
  refine ⟨_,_,Nf (p9 (I7 rfl hg) rfl) cE _ _,?_⟩;conv=>whnf
  refine .inl ⟨by omega,?_⟩;conv=>whnf
  have e1:ar.cells (l.map hX)=II l.toArray:=rfl;have b9:I.ref 0 0 l.length none 1=Kq 0 l.toArray.size:=by unfold Kq;simp
  erw [e1];refine ⟨_,_,rG (by show Sem Tryz.prog (.fn 86) [I.ref 0 0 l.length none 1] [II l.toArray] 0 (.tuple []) [II S];rw [b9];exact cl),?_⟩;conv=>whnf
  have cF:rowOf [II S] (.ref 0 0 l.length none 1)=some (S.toList.map hX):=aho rfl (bQ.symm.trans s_.symm) fun _=>rfl;refine ⟨.av (S.toList.map hX) l.length .shared,[.dead],fun C=>?_,?_⟩
  ·show ((rowOf [II S] (.ref 0 0 l.length none 1)).bind fun row=>some (I.av row l.length .shared,[ar.dead]))=_;rw [cF];rfl
  conv=>whnf
  rw [show S.toList.length=l.length from s_.trans bQ] at bo;exact bo _ _ _ ⟨.inr rfl,_,rfl,_,yW (rL (fun _=>rfl) _ _ _),rfl⟩
 ·cases h

noncomputable def Qx:gB :=
 .loop (some (qb false [0,2,5,2,10])) (p5 [p3 9 [.m_ 8,.m_ 7] (.bin .lss)] (.seq (.cond (.m_ 9) .skip (.exit 0)) (.seq (.block 1 (p5 [p6 10 8,p4 5 10] (p5 [p6 11 1,p6 12 0,p6 13 5,rm 14 12 13 1,ql 15 14,p3 16 [.m_ 11,.m_ 15] (.call 6)] (.cond (.m_ 16) (p5 [p4 17 5,p4 4 17] .ret) .skip)))) (qE [qV 18 8 1,p4 8 18]))))
noncomputable def aaV:gB :=
 p5 [qg 4 0] (.seq (p5 [p6 6 0,qZ 7 6,qg 8 0] (.block 0 Qx)) (p5 [qg 4 (-1)] .ret))
theorem afx:qt Tryz.prog QY 88=some (aaV,19,[.tmp 4]):=by kernel_rfl
def JX (s:qa) (f:(Int→Option Bool)) (qc:Unit→Option Int):Nat→Int→Option Int
 | 0,_=>none
 | m+1,s1 =>
   if (decide (s1<(s.length:Int)))=true then
    qq (0≤s1∧s1<(s.length:Int)) <|
    (f (ix s s1)).bind fun aS =>
    if aS=true then
     some s1
    else
     JX s f qc m (w (s1+(1:Int)))
   else
    qc ()
def Ow (s:qa) (f:(Int→Option Bool)):Option Int :=
 JX s f (fun _ =>
   some (-1:Int)) qh (0:Int)
theorem ajs {s:qa} {f:(Int→Option Bool)} {qc:Unit→Option Int} {s1:Int} {Hj:FuncId} {rO:List I} (Hw:HE rO) (Jz:∀ (rf:Int) (r:Bool),f rf=some r→qv Hj ((hX rf)::rO) (B r)) {v:Int} {Q:rR}   (jG:qK [.tmp 4] Q (fun v=>(hX v)) v) (q':∀ (qe:List I),qc ()=some v→rk 19 [] qe→Q (.exit 0) qe []) {T:List I} (bZ:eW (qb false [0,2,5,2,10]) T=qf 19 [(0,(qy s .shared)),(1,(.func Hj [] rO)),(7,(hX (s.length:Int))),(8,(hX s1))]) (h:JX s f qc qh s1=some v) :
  dN Tryz.prog QY 88 0 none Qx T [] Q:=by
 unfold Qx;refine wp_loop bZ ?_;refine .intro (fun m T H=>∃ (s1:Int),T=qf 19 [(0,(qy s .shared)),(1,(.func Hj [] rO)),(7,(hX (s.length:Int))),(8,(hX s1))]∧H=[]∧JX s f qc m s1=some v) qh ⟨s1,rfl,rfl,h⟩ ?_;clear h bZ;rintro m T H ⟨s1,rfl,rfl,h⟩;cases m
 ·exact rz h
 rename_i m;rw [JX.eq_2] at h;conv=>whnf
 refine bs h (fun gJ h=>?_) fun gJ h=>?_
 ·rw [gJ];conv=>whnf
  refine qD h id fun gK h=>?_;rw [ri hX s s1 gK];conv=>whnf
  obtain ⟨aS,qs,h⟩:=p' h;refine ⟨_,_,call6 (bs:=((hX (ix s s1))::rO)) (by simp only [sI,Hw.iA,Hw.ca];rfl) (by simp only [sI,Hw.iA];exact (p9 rfl Hw.T5)) (Jz _ _ qs) rfl,?_⟩;conv=>whnf
  cases aS
  ·(conv=>whnf);replace h:=rp rfl h;exact ⟨m,sg m,(w (s1+(1:Int))),rfl,rfl,h⟩
  ·(conv=>whnf);replace h:=rn rfl h;exact qd h jG rfl rfl
 ·rw [gJ];conv=>whnf
  exact q'  _ h ⟨rfl,rfl⟩
theorem ajt {s:qa} {f:(Int→Option Bool)} {Hj:FuncId} {rO:List I} (Hw:HE rO) (Jz:∀ (rf:Int) (r:Bool),f rf=some r→qv Hj ((hX rf)::rO) (B r)) {v:Int} (h:Ow s f=some v):qv 88 [(.av (s.map hX) s.length .shared),(.func Hj [] rO)] (hX v):=by
 refine qN eD afx rfl rfl fun Q bo=>?_;have jG:qK [.tmp 4] Q (fun v=>(hX v)) v:=fun T H bD=>bo _ T H bD;unfold Ow at h;unfold aaV;obtain ⟨r9,qC⟩:∃ c,Qx=c:=⟨_,rfl⟩;rw [qC];conv=>whnf
 subst qC;refine ajs Hw Jz ?_ ?_ (by exact rfl) h
 ·exact fun T H bD=>jG T H bD
 ·intro  qe h qz;obtain ⟨rq,rfl⟩:=qz.ex;conv=>whnf
  exact qd h jG rfl rfl

noncomputable def aaN:gB :=
 p5 [p3 4 [.cv (.bool false)] .mR] (p5 [p4 5 0,p4 6 1,p3 7 [.cv (.func 88 [] []),.m_ 5,.m_ 6] (.call 6),qu 8 7 0 .geq,p4 4 8] .ret)
theorem afp:qt Tryz.prog UL 73=some (aaN,9,[.tmp 4]):=by kernel_rfl
def Ot (s:qa) (f:(Int→Option Bool)):Option Bool :=
 (Ow s f).bind fun aS =>
 some (decide ((0:Int)≤aS))
theorem ajf {s:qa} {f:(Int→Option Bool)} {Hj:FuncId} {rO:List I} (Hw:HE rO) (Jz:∀ (rf:Int) (r:Bool),f rf=some r→qv Hj ((hX rf)::rO) (B r)) {v:Bool} (h:Ot s f=some v):qv 73 [(.av (s.map hX) s.length .shared),(.func Hj [] rO)] (B v):=by
 refine qN eD afp rfl rfl fun Q bo=>?_;have jG:qK [.tmp 4] Q (fun v=>(B v)) v:=fun T H bD=>bo _ T H bD;unfold Ot at h;unfold aaN;conv=>whnf
 obtain ⟨aS,gJ,h⟩:=p' h;refine ⟨_,_,Q5 (cs:=[(qy s .shared),(.func Hj [] rO)]) (bs:=[(qy s .shared),(.func Hj [] rO)]) (KC rfl (KC (Hw.fn _ _) NH)) (by rfl) (by exact (p9 (rL (fun _=>rfl) _ _ _) (p9 (Hw.Xf _) rfl))) (ajt Hw Jz gJ) rfl,?_⟩;conv=>whnf
 exact qd h jG rfl rfl

noncomputable def aaO:gB :=
 p5 [p3 4 [.cv (.bool false)] .mR] (p5 [p6 5 0,ql 6 1,qp 7 5 6 .lss,p4 8 7,ch 9 [.jm 0] 8 false .mR,ch 10 [.Bs 2] 8 false (.zE .one),ch 11 [.Bs 9,.Bs 10] 8 false (.bin .gtr),p3 12 [.Bs 8,.cv (.bool true),.Bs 11] .pick,p4 4 12] .ret)
theorem afq:qt Tryz.prog UM 74=some (aaO,13,[.tmp 4]):=by kernel_rfl
def LW (n g6 a7:Int):Option Bool :=
 if (decide (n<g6))=true then
  some true
 else
  some (decide (a7<n))
theorem ajg {n:Int} {g6:Int} {a7:Int} {v:Bool} (h:LW n g6 a7=some v):qv 74 [(hX n),(.bR [(hX g6)]),(.bR [(hX a7)])] (B v):=by
 refine qN eD afq rfl rfl fun Q bo=>?_;have jG:qK [.tmp 4] Q (fun v=>(B v)) v:=fun T H bD=>bo _ T H bD;unfold LW at h;unfold aaO;conv=>whnf
 refine bs h (fun gJ h=>?_) fun gJ h=>?_
 ·rw [gJ];conv=>whnf
  exact qd h jG rfl rfl
 ·rw [gJ];conv=>whnf
  exact qd h jG rfl rfl

noncomputable def aaB:gB :=
 p5 [p3 3 [.jm 0] .box,p3 4 [.jm 1] .box,p3 6 [.cv (.bool false)] .mR] (p5 [p4 7 2,p3 8 [.Bs 3,.Bs 4] (.zY 74 0 2),p3 9 [.cv (.func 73 [] []),.m_ 7,.m_ 8] (.call 6),p3 10 [.Bs 9] (.un .not),p4 6 10] .ret)
theorem afd:qt Tryz.prog UA 50=some (aaB,11,[.tmp 6]):=by kernel_rfl
def IQ (lo hi:Int) (l:qa):Option Bool :=
 (Ot l (fun rf=>LW rf lo hi)).bind fun aS =>
 some (!aS)
theorem KV {lo:Int} {hi:Int} {l:qa} {v:Bool} (h:IQ lo hi l=some v):qv 50 [(hX lo),(hX hi),(.av (l.map hX) l.length .shared)] (B v):=by
 refine qN eD afd rfl rfl fun Q bo=>?_;have jG:qK [.tmp 6] Q (fun v=>(B v)) v:=fun T H bD=>bo _ T H bD;unfold IQ at h;unfold aaB;conv=>whnf
 obtain ⟨aS,gJ,h⟩:=p' h;refine ⟨_,_,Q5 (cs:=[(qy l .shared),(.func 74 [] [(.bR [(hX lo)]),(.bR [(hX hi)])])]) (bs:=[(qy l .shared),(.func 74 [] [(.bR [(hX lo)]),(.bR [(hX hi)])])]) (KC rfl (KC (ahy NH (KC (YR (cs:=[(hX lo)]) (by first | exact q6.h | rfl | (simp [sr,I.settle];done)) rfl) (KC (YR (cs:=[(hX hi)]) (by first | exact q6.h | rfl | (simp [sr,I.settle];done)) rfl) NH))) NH)) (by rfl) (by exact (p9 (rL (fun _=>rfl) _ _ _) (p9 (I7 rfl (p9 (Iq (p9 rfl rfl)) (p9 (Iq (p9 rfl rfl)) rfl))) rfl))) (ajf ⟨(p9 (Iq (p9 rfl rfl)) (p9 (Iq (p9 rfl rfl)) rfl)),by simp⟩ (fun _ _ aY=>ajg aY) gJ) rfl,?_⟩
 conv=>whnf
 exact qd h jG rfl rfl

noncomputable def aaC:gB :=
 p5 [p3 1 [.jm 0] .box,p3 2 [.cv (.bool false)] .mR] (p5 [p3 3 [.m_ 1] (.yM 0),ql 4 3,p3 5 [.Bs 4] (.yB 1 1 [.int .i64 0] [0]),p3 6 [.cv (.func 50 [] []),.cv (.int .i64 0),.cv (.int .i64 100),.m_ 5] (.call 3),p3 7 [.Bs 6] (.un .not),p4 8 7,ch 9 [.Bs 1] 8 false (.yM 1),ch 10 [.Bs 9] 8 false (.zE .one),⟨some 11,[.Bs 10],some (8,false),none,.yB 1 1 [.int .i64 0] [0]⟩,⟨some 12,[.cv (.func 50 [] []),.cv (.int .i64 (-10)),.cv (.int .i64 10),.m_ 11],some (8,false),none,.call 3⟩,ch 13 [.Bs 12] 8 false (.un .not),p3 14 [.Bs 8,.cv (.bool true),.Bs 13] .pick,p4 2 14] .ret)
theorem afe:qt Tryz.prog UB 51=some (aaC,15,[.tmp 2]):=by kernel_rfl
def KW (s:(Int×Int)):Option Bool :=
 (IQ (0:Int) (100:Int) [s.1]).bind fun aS =>
 if aS=true then
  (IQ (-10:Int) (10:Int) [s.2]).bind fun bh =>
  some (!bh)
 else
  some true
theorem ZN {s:(Int×Int)} {v:Bool} (h:KW s=some v):qv 51 [(.agg [(hX s.1),(hX s.2)])] (B v):=by
 refine qN eD afe rfl rfl fun Q bo=>?_;have jG:qK [.tmp 2] Q (fun v=>(B v)) v:=fun T H bD=>bo _ T H bD;unfold KW at h;unfold aaC;conv=>whnf
 obtain ⟨aS,gJ,h⟩:=p' h;refine ⟨(p9 rfl (p9 rfl (p9 rfl rfl))),_,KV gJ,?_⟩;conv=>whnf
 cases aS
 ·conv=>whnf
  replace h:=rp rfl h;exact qd h jG rfl rfl
 ·conv=>whnf
  replace h:=rn rfl h;obtain ⟨bh,gK,h⟩:=p' h;refine ⟨(p9 rfl (p9 rfl (p9 rfl rfl))),_,KV gK,?_⟩;conv=>whnf
  exact qd h jG rfl rfl

noncomputable def P7:gB :=
 .loop (some (qb false [0,2,5,2,10])) (p5 [p3 9 [.m_ 8,.m_ 7] (.bin .lss)] (.seq (.cond (.m_ 9) .skip (.exit 0)) (.seq (.block 1 (p5 [p6 10 8,p4 5 10] (p5 [p6 11 1,p6 12 0,p6 13 5,rm 14 12 13 2,p3 15 [.Bs 14] (.zE (.str 2)),p3 16 [.m_ 11,.m_ 15] (.call 6)] (.cond (.m_ 16) (p5 [p4 17 5,p4 4 17] .ret) .skip)))) (qE [qV 18 8 1,p4 8 18]))))
noncomputable def Z9:gB :=
 p5 [qg 4 0] (.seq (p5 [p6 6 0,qZ 7 6,qg 8 0] (.block 0 P7)) (p5 [qg 4 (-1)] .ret))
theorem aeK:qt Tryz.prog QG 101=some (Z9,19,[.tmp 4]):=by kernel_rfl
def LD (s:qj) (f:((Int×Int)→Option Bool)) (qc:Unit→Option Int):Nat→Int→Option Int
 | 0,_=>none
 | m+1,s1 =>
   if (decide (s1<(s.length:Int)))=true then
    qq (0≤s1∧s1<(s.length:Int)) <|
    (f (ix s s1)).bind fun aS =>
    if aS=true then
     some s1
    else
     LD s f qc m (w (s1+(1:Int)))
   else
    qc ()
def PM (s:qj) (f:((Int×Int)→Option Bool)):Option Int :=
 LD s f (fun _ =>
   some (-1:Int)) qh (0:Int)
theorem aij {s:qj} {f:((Int×Int)→Option Bool)} {qc:Unit→Option Int} {s1:Int} {Hj:FuncId} {rO:List I} (Hw:HE rO) (Jz:∀ (rf:(Int×Int)) (r:Bool),f rf=some r→qv Hj ((.agg [(hX rf.1),(hX rf.2)])::rO) (B r)) {v:Int} {Q:rR}   (jG:qK [.tmp 4] Q (fun v=>(hX v)) v) (q':∀ (qe:List I),qc ()=some v→rk 19 [] qe→Q (.exit 0) qe []) {T:List I} (bZ:eW (qb false [0,2,5,2,10]) T=qf 19 [(0,(qY s .shared)),(1,(.func Hj [] rO)),(7,(hX (s.length:Int))),(8,(hX s1))]) (h:LD s f qc qh s1=some v) :
  dN Tryz.prog QG 101 0 none P7 T [] Q:=by
 unfold P7;refine wp_loop bZ ?_;refine .intro (fun m T H=>∃ (s1:Int),T=qf 19 [(0,(qY s .shared)),(1,(.func Hj [] rO)),(7,(hX (s.length:Int))),(8,(hX s1))]∧H=[]∧LD s f qc m s1=some v) qh ⟨s1,rfl,rfl,h⟩ ?_;clear h bZ;rintro m T H ⟨s1,rfl,rfl,h⟩;cases m
 ·exact rz h
 rename_i m;rw [LD.eq_2] at h;conv=>whnf
 refine bs h (fun gJ h=>?_) fun gJ h=>?_
 ·rw [gJ];conv=>whnf
  refine qD h id fun gK h=>?_;rw [IY p_ 2 Lo s s1 gK];conv=>whnf
  obtain ⟨aS,qs,h⟩:=p' h;refine ⟨_,_,call6 (bs:=((.agg [(hX (ix s s1).1),(hX (ix s s1).2)])::rO)) (by simp only [sI,Hw.iA,Hw.ca];rfl) (by simp only [sI,Hw.iA];exact (p9 (H3 (p9 rfl (p9 rfl rfl))) Hw.T5)) (Jz _ _ qs) rfl,?_⟩;conv=>whnf
  cases aS
  ·(conv=>whnf);replace h:=rp rfl h;exact ⟨m,sg m,(w (s1+(1:Int))),rfl,rfl,h⟩
  ·(conv=>whnf);replace h:=rn rfl h;exact qd h jG rfl rfl
 ·rw [gJ];conv=>whnf
  exact q'  _ h ⟨rfl,rfl⟩
theorem aik {s:qj} {f:((Int×Int)→Option Bool)} {Hj:FuncId} {rO:List I} (Hw:HE rO) (Jz:∀ (rf:(Int×Int)) (r:Bool),f rf=some r→qv Hj ((.agg [(hX rf.1),(hX rf.2)])::rO) (B r)) {v:Int} (h:PM s f=some v):qv 101 [(.av (s.flatMap p_) s.length .shared),(.func Hj [] rO)] (hX v):=by
 refine qN eD aeK rfl rfl fun Q bo=>?_;have jG:qK [.tmp 4] Q (fun v=>(hX v)) v:=fun T H bD=>bo _ T H bD;unfold PM at h;unfold Z9;obtain ⟨r9,qC⟩:∃ c,P7=c:=⟨_,rfl⟩;rw [qC];conv=>whnf
 subst qC;refine aij Hw Jz ?_ ?_ (by exact rfl) h
 ·exact fun T H bD=>jG T H bD
 ·intro  qe h qz;obtain ⟨rq,rfl⟩:=qz.ex;conv=>whnf
  exact qd h jG rfl rfl

noncomputable def aaU:gB :=
 p5 [p3 4 [.cv (.bool false)] .mR] (p5 [p4 5 0,p4 6 1,p3 7 [.cv (.func 101 [] []),.m_ 5,.m_ 6] (.call 6),qu 8 7 0 .geq,p4 4 8] .ret)
theorem afw:qt Tryz.prog UR 84=some (aaU,9,[.tmp 4]):=by kernel_rfl
def Ov (s:qj) (f:((Int×Int)→Option Bool)):Option Bool :=
 (PM s f).bind fun aS =>
 some (decide ((0:Int)≤aS))
theorem ajr {s:qj} {f:((Int×Int)→Option Bool)} {Hj:FuncId} {rO:List I} (Hw:HE rO) (Jz:∀ (rf:(Int×Int)) (r:Bool),f rf=some r→qv Hj ((.agg [(hX rf.1),(hX rf.2)])::rO) (B r)) {v:Bool} (h:Ov s f=some v):qv 84 [(.av (s.flatMap p_) s.length .shared),(.func Hj [] rO)] (B v):=by
 refine qN eD afw rfl rfl fun Q bo=>?_;have jG:qK [.tmp 4] Q (fun v=>(B v)) v:=fun T H bD=>bo _ T H bD;unfold Ov at h;unfold aaU;conv=>whnf
 obtain ⟨aS,gJ,h⟩:=p' h;refine ⟨_,_,Q5 (cs:=[(qY s .shared),(.func Hj [] rO)]) (bs:=[(qY s .shared),(.func Hj [] rO)]) (KC rfl (KC (Hw.fn _ _) NH)) (by rfl) (by exact (p9 (HB (fun _=>(p9 rfl (p9 rfl rfl))) _ _ _) (p9 (Hw.Xf _) rfl))) (aik Hw Jz gJ) rfl,?_⟩;conv=>whnf
 exact qd h jG rfl rfl

noncomputable def Qq:gB :=
 .cond (.m_ 3) (p5 [qg 2 6] .ret) (p5 [p3 18 [.m_ 1] (.yM 0),ql 19 18,p3 20 [.cv (.func 84 [] []),.m_ 19,.cv (.func 51 [] [])] (.call 3),p4 21 20,ch 22 [.m_ 1] 21 false (.yM 1),ch 23 [.Bs 22] 21 false (.yM 0),ch 24 [.Bs 23] 21 false (.zE .one),ch 25 [.m_ 1] 21 false (.yM 1),ch 26 [.Bs 25] 21 false (.yM 1),ch 27 [.Bs 26] 21 false (.zE .one),⟨some 28,[.Bs 24,.Bs 27],some (21,false),none,.yB 2 1 [.int .i64 0] [0,1]⟩,⟨some 29,[.cv (.func 50 [] []),.cv (.int .i64 0),.cv (.int .i64 50),.m_ 28],some (21,false),none,.call 3⟩,ch 30 [.Bs 29] 21 false (.un .not),p3 31 [.Bs 21,.cv (.bool true),.Bs 30] .pick,p4 32 31,ch 33 [.m_ 1] 32 false (.yM 1),ch 34 [.Bs 33] 32 false (.yM 0),ch 35 [.Bs 34] 32 false (.zE .one),ch 36 [.Bs 1] 32 false (.yM 1),ch 37 [.Bs 36] 32 false (.yM 1),ch 38 [.Bs 37] 32 false (.zE .one),ch 39 [.Bs 35,.Bs 38] 32 false (.bin .gtr),p3 40 [.Bs 32,.cv (.bool true),.Bs 39] .pick,p4 17 40] (.cond (.m_ 17) (p5 [qg 2 3] .ret) .skip))
noncomputable def aaK:gB :=
 p5 [p3 1 [.jm 0] .box,qg 2 0] (.seq (.block 0 (p5 [p3 4 [.m_ 1] (.yM 0),ql 5 4,qZ 6 5,p3 7 [.Bs 6] (.yB 1 1 [.int .i64 0] [0]),p3 8 [.cv (.func 50 [] []),.cv (.int .i64 3),.cv (.int .i64 7),.m_ 7] (.call 3),p3 9 [.Bs 8] (.un .not),p4 10 9,ch 11 [.m_ 1] 10 false (.yM 0),ch 12 [.Bs 11] 10 false (.zE .one),ch 13 [.jm 12] 10 false .zJ,ch 14 [.Bs 13,.cv (.int .i64 2)] 10 false (.bin .rem),ch 15 [.Bs 14,.cv (.int .i64 0)] 10 false (.bin .eql),p3 16 [.Bs 10,.cv (.bool true),.Bs 15] .pick,p4 3 16] Qq)) (p5 [qg 2 0] .ret))
theorem afm:qt Tryz.prog QU 66=some (aaK,41,[.tmp 2]):=by kernel_rfl
def M1 (p:(qj×(Int×Int))) (O_:Unit→Option Int) (dA:Bool):Option Int :=
 if dA=true then
  some (6:Int)
 else
  (Ov p.1 (fun rf=>KW rf)).bind fun bh =>
  if bh=true then
   some (3:Int)
  else
   (IQ (0:Int) (50:Int) [p.2.1,p.2.2]).bind fun eH =>
   if eH=true then
    if (decide (p.2.2<p.2.1))=true then
     some (3:Int)
    else
     O_ ()
   else
    some (3:Int)
def Oo (p:(qj×(Int×Int))):Option Int :=
 (IQ (3:Int) (7:Int) [(p.1.length:Int)]).bind fun aS =>
 if aS=true then
  qq ((2:Int)≠0) <|
  M1 p (fun _ =>
    some (0:Int)) (decide (((p.1.length:Int).tmod (2:Int))=(0:Int)))
 else
  M1 p (fun _ =>
    some (0:Int)) true
theorem Z0 {p:(qj×(Int×Int))} {O_:Unit→Option Int} {dA:Bool} {v:Int} {Q:rR}  {qe:List I}  (jG:qK [.tmp 2] Q (fun v=>(hX v)) v) (adE:∀ (bw:ar) (qe:List I),O_ ()=some v→rk 41 [] qe→Q .normal qe [bw]) (qz:rk 41 [(1,(.ptr 0 0)),(3,(B dA))] qe) (h:M1 p O_ dA=some v) :
  dN Tryz.prog QU 66 0 none Qq qe [ar.cells [(qY p.1 .shared),(hX p.2.1),(hX p.2.2)]] Q:=by
 obtain ⟨rq,rfl⟩:=qz.ex;unfold M1 at h;unfold Qq;conv=>whnf
 cases dA
 ·conv=>whnf
  replace h:=rp rfl h;obtain ⟨bh,qs,h⟩:=p' h;refine ⟨(p9 (HB (fun _=>(p9 rfl (p9 rfl rfl))) _ _ _) (p9 (I7 rfl rfl) rfl)),_,ajr ⟨rfl,by simp⟩ (fun _ _ aY=>ZN aY) qs,?_⟩;conv=>whnf
  cases bh
  ·(conv=>whnf);replace h:=rp rfl h;obtain ⟨eH,qG,h⟩:=p' h;refine ⟨(p9 rfl (p9 rfl (p9 rfl rfl))),_,KV qG,?_⟩;(conv=>whnf);cases eH
   ·(conv=>whnf);replace h:=rp rfl h;exact qd h jG rfl rfl
   ·(conv=>whnf);replace h:=rn rfl h;refine bs h (fun qW h=>?_) fun qW h=>?_
    ·rw [qW];(conv=>whnf);exact qd h jG rfl rfl
    ·rw [qW];(conv=>whnf);exact adE _ _ h ⟨rfl,rfl⟩
  ·(conv=>whnf);replace h:=rn rfl h;exact qd h jG rfl rfl
 ·conv=>whnf
  replace h:=rn rfl h;exact qd h jG rfl rfl
theorem Oq {p:(qj×(Int×Int))} {v:Int} (h:Oo p=some v):qv 66 [(.agg [(.av (p.1.flatMap p_) p.1.length .shared),(hX p.2.1),(hX p.2.2)])] (hX v):=by
 refine qN eD afm rfl rfl fun Q bo=>?_;have jG:qK [.tmp 2] Q (fun v=>(hX v)) v:=fun T H bD=>bo _ T H bD;unfold Oo at h;unfold aaK;obtain ⟨r9,qC⟩:∃ c,Qq=c:=⟨_,rfl⟩;rw [qC];conv=>whnf
 obtain ⟨aS,gJ,h⟩:=p' h;refine ⟨(p9 rfl (p9 rfl (p9 rfl rfl))),_,KV gJ,?_⟩;conv=>whnf
 cases aS
 ·conv=>whnf
  replace h:=rp rfl h;subst qC;refine Z0 ?_ ?_ (by exact ⟨rfl,rfl⟩) h
  ·exact fun T H bD=>jG T H bD
  ·intro bw qe h qz;obtain ⟨rq,rfl⟩:=qz.ex;(conv=>whnf);exact qd h jG rfl rfl
 ·conv=>whnf
  replace h:=rn rfl h;refine qD h id fun gK h=>?_;conv=>whnf
  subst qC;refine Z0 ?_ ?_ (by exact ⟨rfl,rfl⟩) h
  ·exact fun T H bD=>jG T H bD
  ·intro bw qe h qz;obtain ⟨rq,rfl⟩:=qz.ex;(conv=>whnf);exact qd h jG rfl rfl

noncomputable def aaL:gB :=
 p5 [p3 1 [.jm 0] .box,p3 2 [.cv .a0] .mR] (p5 [p3 3 [.Bs 1] (.zY 87 0 1),p4 2 3] .ret)
theorem afn:qt Tryz.prog UJ 68=some (aaL,4,[.tmp 2]):=by kernel_rfl
def P3 (s:qa):Option Unit :=
 some ()
theorem TC {s:qa} {v:Unit} (h:P3 s=some v):qv 68 [(.av (s.map hX) s.length .shared)] (.func 87 [] [(.bR [(.av (s.map hX) s.length .shared)])]):=by
 refine qN eD afn rfl (I7 rfl (p9 (Iq (p9 (rL (fun _=>rfl) _ _ _) rfl)) rfl)) fun Q bo=>?_;have jG:qK [.tmp 2] Q (fun v=>(.func 87 [] [(.bR [(qy s .shared)])])) v:=fun T H bD=>bo _ T H bD;unfold P3 at h;unfold aaL;conv=>whnf
 exact jG _ _ ⟨.inr rfl,_,rfl,_,(Vs IP (rM (Vu (l:=[(qy s .shared)]) (by first | exact q6.h | rfl | (simp [sr,I.settle];done)) (p9 (rL (fun _=>rfl) _ _ _) rfl)) IP)),rfl⟩

def M8 (x:((qj×(Int×Int))×Unit)):List I:=[(qY x.1.1 .shared),(hX x.1.2.1),(hX x.1.2.2),Hl]
instance {d:Nat} {x:((qj×(Int×Int))×Unit)}:qi (d+2) (M8 x):=⟨(inferInstance:qi (d+2) [(qY x.1.1 .shared),(hX x.1.2.1),(hX x.1.2.2),Hl]).pl⟩
noncomputable def JY:gB :=
 .loop (some (qb false [2,1,5,1,8,3,6,3,19])) (p5 [p3 29 [.m_ 28,.m_ 27] (.bin .lss)] (.seq (.cond (.m_ 29) .skip (.exit 2)) (.seq (.block 3 (p5 [p6 30 28,p3 31 [.m_ 26,.m_ 28] (.kV 1),ql 32 31,p4 10 30,p4 11 32] (p5 [p4 33 11,p4 34 10,qp 35 33 34 .neq] (.cond (.m_ 35) (p5 [p3 4 [.cv .eF] .mR,qg 5 16] .ret) .skip)))) (qE [qV 36 28 1,p4 28 36]))))
noncomputable def Jp:gB :=
 .loop (some (qb false [2,1,14,3,28])) (p5 [p3 20 [.m_ 19,.m_ 18] (.bin .lss)] (.seq (.cond (.m_ 20) .skip (.exit 0)) (.seq (.block 1 (p5 [p3 21 [.m_ 17,.m_ 19] (.kV 1),ql 22 21,p4 8 22] (p5 [p6 23 8,p3 24 [.cv (.func 68 [] []),.m_ 23] (.call 3),p3 25 [.cv (.func 67 [] []),.m_ 24] (.call 3),p4 9 25] (.seq (p5 [p4 26 9,p3 27 [.m_ 26] .zJ,qg 28 0] (.block 2 JY)) (p5 [p4 37 8,qZ 38 37,p3 39 [.m_ 2] (.yM 0),ql 40 39,qZ 41 40,qp 42 38 41 .neq] (.cond (.m_ 42) (p5 [p3 4 [.cv .eF] .mR,qg 5 16] .ret) .skip)))))) (qE [qV 43 19 1,p4 19 43]))))
noncomputable def M7:gB :=
 p5 [p3 2 [.jm 0] .box,p3 4 [.cv .eF] .mR,qg 5 0] (.seq (p5 [p3 12 [.m_ 2] (.zE (.str 3)),p3 13 [.cv (.func 66 [] []),.m_ 12] (.call 3),p4 6 13] (p5 [p6 14 6,qu 15 14 0 .neq] (.cond (.m_ 15) (p5 [p4 16 6,p3 4 [.cv .eF] .mR,p4 5 16] .ret) .skip))) (.seq (p5 [p4 17 1,p3 18 [.m_ 17] .zJ,qg 19 0] (.block 0 Jp)) (p5 [p3 44 [.Bs 2] (.zE (.str 3)),p3 45 [] .zZ,p3 46 [.Bs 44,.Bs 45] (.build [.av [] 0 .full,.int .i64 0,.int .i64 0,.a0] [(0,3),(3,1)]),p3 47 [.jm 46] .box,p4 4 47,qg 5 0] .ret)))
theorem NG:qt Tryz.prog Kt 40=some (M7,48,[.tmp 4,.tmp 5]):=by kernel_rfl
def IG (eH:qa) (qT:Unit→Option ((Option ((qj×(Int×Int))×Unit))×Int)):Nat→Int→Option ((Option ((qj×(Int×Int))×Unit))×Int)
 | 0,_=>none
 | m+1,s2 =>
   if (decide (s2<(eH.length:Int)))=true then
    qq (0≤s2∧s2<(eH.length:Int)) <|
    if (decide ((ix eH s2)≠s2))=true then
     some (none,(16:Int))
    else
     IG eH qT m (w (s2+(1:Int)))
   else
    qT ()
def HD (p:(qj×(Int×Int))) (qk:K3) (qc:Unit→Option ((Option ((qj×(Int×Int))×Unit))×Int)):Nat→Int→Option ((Option ((qj×(Int×Int))×Unit))×Int)
 | 0,_=>none
 | m+1,s1 =>
   if (decide (s1<(qk.length:Int)))=true then
    qq (0≤s1∧s1<(qk.length:Int)) <|
    (P3 (ix qk s1)).bind fun bh =>
    (P2 (ix qk s1)).bind fun eH =>
    IG eH (fun _ =>
      if (decide (((ix qk s1).length:Int)≠(p.1.length:Int)))=true then
       some (none,(16:Int))
      else
       HD p qk qc m (w (s1+(1:Int)))) qh (0:Int)
   else
    qc ()
def rW (p:(qj×(Int×Int))) (qk:K3):Option ((Option ((qj×(Int×Int))×Unit))×Int) :=
 (Oo p).bind fun aS =>
 if (decide (aS≠(0:Int)))=true then
  some (none,aS)
 else
  HD p qk (fun _ =>
    some ((some (p,())),(0:Int))) qh (0:Int)
theorem aiO {eH:qa} {qT:Unit→Option ((Option ((qj×(Int×Int))×Unit))×Int)} {s2:Int} {p:(qj×(Int×Int))} {qk:K3} {s1:Int} {v:((Option ((qj×(Int×Int))×Unit))×Int)} {Q:rR}   (jG:qK [.tmp 4,.tmp 5] Q (fun v=>(.tuple [(Mo M8 v.1),(hX v.2)])) v) (I3:∀ (qe:List I),qT ()=some v→rk 48 [(2,(.ptr 0 0)),(8,(qy (ix qk s1) .shared)),(17,(.av (qk.map oW) qk.length .shared)),(18,(hX (qk.length:Int))),(19,(hX s1))] qe→Q (.exit 2) qe [ar.cells [(qY p.1 .shared),(hX p.2.1),(hX p.2.2)]]) {T:List I} (bZ:eW (qb false [2,1,5,1,8,3,6,3,19]) T=qf 48 [(2,(.ptr 0 0)),(8,(qy (ix qk s1) .shared)),(17,(.av (qk.map oW) qk.length .shared)),(18,(hX (qk.length:Int))),(19,(hX s1)),(26,(qy eH .shared)),(27,(hX (eH.length:Int))),(28,(hX s2))]) (h:IG eH qT qh s2=some v) :
  dN Tryz.prog Kt 40 0 none JY T [ar.cells [(qY p.1 .shared),(hX p.2.1),(hX p.2.2)]] Q:=by
 unfold JY;refine wp_loop bZ ?_;refine .intro (fun m T H=>∃ (s2:Int),T=qf 48 [(2,(.ptr 0 0)),(8,(qy (ix qk s1) .shared)),(17,(.av (qk.map oW) qk.length .shared)),(18,(hX (qk.length:Int))),(19,(hX s1)),(26,(qy eH .shared)),(27,(hX (eH.length:Int))),(28,(hX s2))]∧H=[ar.cells [(qY p.1 .shared),(hX p.2.1),(hX p.2.2)]]∧IG eH qT m s2=some v) qh ⟨s2,rfl,rfl,h⟩ ?_;clear h bZ;rintro m T H ⟨s2,rfl,rfl,h⟩;cases m
 ·exact rz h
 rename_i m;rw [IG.eq_2] at h;conv=>whnf
 refine bs h (fun qR h=>?_) fun qR h=>?_
 ·rw [qR];conv=>whnf
  refine qD h id fun rb h=>?_;rw [ri hX eH s2 rb];conv=>whnf
  refine bs h (fun q9 h=>?_) fun q9 h=>?_
  ·rw [q9];(conv=>whnf);exact qd h jG rfl rfl
  ·rw [q9];(conv=>whnf);exact ⟨m,sg m,(w (s2+(1:Int))),rfl,rfl,h⟩
 ·rw [qR];conv=>whnf
  exact I3  _ h ⟨rfl,rfl⟩
theorem aiN {p:(qj×(Int×Int))} {qk:K3} {qc:Unit→Option ((Option ((qj×(Int×Int))×Unit))×Int)} {s1:Int} {v:((Option ((qj×(Int×Int))×Unit))×Int)} {Q:rR}   (jG:qK [.tmp 4,.tmp 5] Q (fun v=>(.tuple [(Mo M8 v.1),(hX v.2)])) v) (q':∀ (qe:List I),qc ()=some v→rk 48 [(2,(.ptr 0 0))] qe→Q (.exit 0) qe [ar.cells [(qY p.1 .shared),(hX p.2.1),(hX p.2.2)]]) {T:List I} (bZ:eW (qb false [2,1,14,3,28]) T=qf 48 [(2,(.ptr 0 0)),(17,(.av (qk.map oW) qk.length .shared)),(18,(hX (qk.length:Int))),(19,(hX s1))]) (h:HD p qk qc qh s1=some v) :
  dN Tryz.prog Kt 40 0 none Jp T [ar.cells [(qY p.1 .shared),(hX p.2.1),(hX p.2.2)]] Q:=by
 unfold Jp;obtain ⟨r9,qC⟩:∃ c,JY=c:=⟨_,rfl⟩;rw [qC];refine wp_loop bZ ?_;refine .intro (fun m T H=>∃ (s1:Int),T=qf 48 [(2,(.ptr 0 0)),(17,(.av (qk.map oW) qk.length .shared)),(18,(hX (qk.length:Int))),(19,(hX s1))]∧H=[ar.cells [(qY p.1 .shared),(hX p.2.1),(hX p.2.2)]]∧HD p qk qc m s1=some v) qh ⟨s1,rfl,rfl,h⟩ ?_;clear h bZ;rintro m T H ⟨s1,rfl,rfl,h⟩;cases m
 ·exact rz h
 rename_i m;rw [HD.eq_2] at h;conv=>whnf
 refine bs h (fun qs h=>?_) fun qs h=>?_
 ·rw [qs];conv=>whnf
  refine qD h id fun qG h=>?_;rw [ri oW qk s1 qG];conv=>whnf
  obtain ⟨bh,qW,h⟩:=p' h;refine ⟨qi.pl,_,TC qW,?_⟩;conv=>whnf
  obtain ⟨eH,q8,h⟩:=p' h;refine ⟨(p9 (I7 rfl (p9 (Iq (p9 (rL (fun _=>rfl) _ _ _) rfl)) rfl)) rfl),_,TB  q8,?_⟩;conv=>whnf
  subst qC;refine aiO ?_ ?_ (by exact rfl) h
  ·exact fun T H bD=>jG T H bD
  ·intro  qe h qz;obtain ⟨rq,rfl⟩:=qz.ex;(conv=>whnf);refine bs h (fun rv h=>?_) fun rv h=>?_
   ·rw [rv];(conv=>whnf);exact qd h jG rfl rfl
   ·rw [rv];(conv=>whnf);exact ⟨m,sg m,(w (s1+(1:Int))),rfl,rfl,h⟩
 ·rw [qs];conv=>whnf
  exact q'  _ h ⟨rfl,rfl⟩
theorem MW {p:(qj×(Int×Int))} {qk:K3} {v:((Option ((qj×(Int×Int))×Unit))×Int)} (h:rW p qk=some v):qv 40 [(.agg [(.av (p.1.flatMap p_) p.1.length .shared),(hX p.2.1),(hX p.2.2)]),(.av (qk.map oW) qk.length .shared)] (.tuple [(Mo M8 v.1),(hX v.2)]):=by
 refine qN eD NG rfl (Ir (p9 (Xl (fun _=>(p9 (HB (fun _=>(p9 rfl (p9 rfl rfl))) _ _ _) (p9 rfl (p9 rfl (p9 rfl rfl))))) _) (p9 rfl rfl))) fun Q bo=>?_;have jG:qK [.tmp 4,.tmp 5] Q (fun v=>(.tuple [(Mo M8 v.1),(hX v.2)])) v:=fun T H bD=>bo _ T H bD;unfold rW at h;unfold M7;obtain ⟨J2,rN⟩:∃ c,Jp=c:=⟨_,rfl⟩;rw [rN];conv=>whnf
 obtain ⟨aS,gJ,h⟩:=p' h;refine ⟨qi.pl,_,Oq gJ,?_⟩;conv=>whnf
 refine bs h (fun gK h=>?_) fun gK h=>?_
 ·rw [gK];conv=>whnf
  exact qd h jG rfl rfl
 ·rw [gK];conv=>whnf
  subst rN;refine aiN ?_ ?_ (by exact rfl) h
  ·exact fun T H bD=>jG T H bD
  ·intro  qe h qz;obtain ⟨rq,rfl⟩:=qz.ex;(conv=>whnf);obtain rfl:=Option.some.inj h;exact jG _ _ ⟨.inr rfl,_,rfl,_,(Nh (rM (acT (l:=[(qY p.1 .shared),(hX p.2.1),(hX p.2.2),(.map 1)]) (by first | exact q6.h | rfl | (simp [sr,I.settle];done)) (rM (yW (HB (fun _=>(p9 rfl (p9 rfl rfl))) _ _ _)) (rM (yW rfl) (rM (yW rfl) (rM (Vt (by simp) (by simp)) IP))))) (rM (yW rfl) IP))),rfl⟩
end Go.Proofs.YtkoioidpbbbaiaaGreat.Ab


namespace Go.Proofs.YtkoioidpbbbaiaaGreat.Ab
open Go
section
variable {P:Program}
theorem call9 {k:FuncId} {xs bs:List I} {H:List ar} {lo:Nat} {v:I} (af:(xs.map I.gr).map I.ca=bs) (aB:(xs.map I.gr).all (cn 8)=true) (h:nj P k bs v):oU P 9 lo (.fn k) xs H v.ca H:=by
 subst af;refine ⟨_,EB h.1,?_⟩;simp only [eN,aB,EA,sc,yW h.2,si]
theorem ahu {k:FuncId} {args:List I} {H H':List ar} {lo:Nat} {r:I} (h:Sem P (.fn k) (args.map I.gr) H lo r H'):Sem P (.fn k) args H lo r H':=by
 obtain ⟨aQ,ab,ae⟩:=h;exact ⟨aQ,ab,fun B aa J S w vs ag aI ad=>ae B aa J S w vs ag aI ad.gr⟩
theorem ab6 {k:FuncId} {args:List I} {es:List (Nat×I×I)} {clock:Nat} {D:List ar} (cq:(args.map I.gr).all (cn 8)=true) (Jy:∀ (j i:Nat) (k v:I),es[j]?=some (i,k,v)→cn 8 k=true∧cn 8 v=true)
  (h:Sem P (.fn k) (args.map I.gr) [] 0 (.map 0) (.map es clock::D)) (H:List ar) (lo:Nat):oU P 2 lo (.fn k) args H (.map H.length) (H++[.map es clock]):=by
 refine ⟨_,EB (ahu (ahs cq Jy h H)),?_⟩;have e1:Co H.length (.map H.length)=some H.length:=by simp [Co,yU]
 have b9:(H++[ar.map es clock])[H.length]?=some (.map es clock):=by simp
 have dx:bL (H++[ar.map es clock]) H.length H.length H.length 8 (.map H.length)=some (.map H.length):=by simp [bL]
 have f_:DM 2 H.length (H++[ar.map es clock]) (.map H.length)=some H.length:=e1;simp only [eN,EA,sc,f_,b9,dx,se,if_true,WS fun j i k v aw=>⟨yW (Jy j i k v aw).1,yW (Jy j i k v aw).2⟩]
def I.Lu:I→I
 | .av c n (.own _)=>.av c n .shared
 | v=>v
variable {J:List Nat} {S:Nat→Nat→Prop} {w:World} {aa:Nat→Option aH}
theorem ahe {u:I} {v:Value} (h:Rel J S w u v):Rel J S w u.Lu v:=by
 unfold I.Lu;split
 ·rename_i c n z;exact h.view rfl
 ·exact h
theorem afW {l:aH} {u:I} {v:Value} (h:aU aa J S w l u v):aU aa J S w l u.Lu v:=by
 unfold I.Lu;split
 ·exact aU.b3 rfl
 ·exact h
theorem ahW {bz:Nat→aH} {T:List I} {bb:List Value} (h:a5 bz aa J S w T bb):a5 bz aa J S w (T.map I.Lu) bb :=
 ⟨by simpa using h.len,fun i u v hu ad=>by
  rw [sq] at hu;simp only [sb] at hu;obtain ⟨x,aj,rfl⟩:=hu;exact ahe (h.rel i x v aj ad),fun i u v hu ad=>by
  rw [sq] at hu;simp only [sb] at hu
  obtain ⟨x,aj,rfl⟩:=hu;exact afW (h.own i x v aj ad)⟩
theorem aht {k:FuncId} {args:List I} {H H':List ar} {lo:Nat} {r:I} (h:Sem P (.fn k) (args.map I.Lu) H lo r H'):Sem P (.fn k) args H lo r H':=by
 obtain ⟨aQ,ab,ae⟩:=h;exact ⟨aQ,ab,fun B aa J S w vs ag aI ad=>ae B aa J S w vs ag aI (ahW ad)⟩
theorem af_ {k:FuncId} {args:List I} {v:I} (h:nj P k (args.map I.Lu) v):nj P k args v:=⟨aht h.1,h.2⟩
end
end Go.Proofs.YtkoioidpbbbaiaaGreat.Ab


namespace Go.Proofs.YtkoioidpbbbaiaaGreat.Ab
open Go
set_option maxRecDepth 20000
set_option maxHeartbeats 4000000
abbrev qm:=(List (Int×Int))×(Int×Int)
abbrev rS (p:qm):ar:=ar.cells [(.av (p.1.flatMap p_) p.1.length .shared),(hX p.2.1),(hX p.2.2)]
abbrev L2 (p:qm) (qk:List (List Int)):List I:=[(.agg [(.av (p.1.flatMap p_) p.1.length .shared),(hX p.2.1),(hX p.2.2)]),(.av (qk.map oW) qk.length .shared)]
theorem aiP {eH:(List Int)} {qT:Unit→Option ((Option (((List (Int×Int))×(Int×Int))×Unit))×Int)} {s2:Int} {p:((List (Int×Int))×(Int×Int))} {qk:(List (List Int))} {s1:Int} {v:((Option (((List (Int×Int))×(Int×Int))×Unit))×Int)} {Q:cN→List I→List ar→Prop}   (jG:∀ (e:Int) (T:List I),v=(none,e)→rZ [rS p] T [.tmp 4,.tmp 5]=some [.eF,hX e]→Q .ret T [rS p]) (I3:∀ (qe:List I),qT ()=some v→rk 48 [(2,(.ptr 0 0)),(8,(.av ((ix qk s1).map hX) (ix qk s1).length .shared)),(17,(.av (qk.map oW) qk.length .shared)),(18,(hX (qk.length:Int))),(19,(hX s1))] qe→Q (.exit 2) qe [ar.cells [(.av (p.1.flatMap p_) p.1.length .shared),(hX p.2.1),(hX p.2.2)]]) {T:List I} (bZ:eW [false,false,true,false,false,false,false,false,true,false,false,false,false,false,false,false,false,true,true,true,false,false,false,false,false,false,true,true,true,false,false,false,false,false,false,false,false,false,false,false,false,false,false,false,false,false,false,false] T=qf 48 [(2,(.ptr 0 0)),(8,(.av ((ix qk s1).map hX) (ix qk s1).length .shared)),(17,(.av (qk.map oW) qk.length .shared)),(18,(hX (qk.length:Int))),(19,(hX s1)),(26,(.av (eH.map hX) eH.length .shared)),(27,(hX (eH.length:Int))),(28,(hX s2))]) (h:IG eH qT qh s2=some v) :
  dN Tryz.prog Kt 40 0 none JY T [ar.cells [(.av (p.1.flatMap p_) p.1.length .shared),(hX p.2.1),(hX p.2.2)]] Q:=by
 unfold JY;skip;refine wp_loop bZ ?_;refine .intro (fun m T H=>∃ (s2:Int),T=qf 48 [(2,(.ptr 0 0)),(8,(.av ((ix qk s1).map hX) (ix qk s1).length .shared)),(17,(.av (qk.map oW) qk.length .shared)),(18,(hX (qk.length:Int))),(19,(hX s1)),(26,(.av (eH.map hX) eH.length .shared)),(27,(hX (eH.length:Int))),(28,(hX s2))]∧H=[ar.cells [(.av (p.1.flatMap p_) p.1.length .shared),(hX p.2.1),(hX p.2.2)]]∧IG eH qT m s2=some v) qh ⟨s2,rfl,rfl,h⟩ ?_;clear h bZ;rintro m T H ⟨s2,rfl,rfl,h⟩;cases m
 ·exact rz h
 rename_i m;rw [IG.eq_2] at h;conv=>whnf
 refine bs h (fun qR h=>?_) fun qR h=>?_
 ·rw [qR];conv=>whnf
  refine qD h id fun rb h=>?_;rw [ri hX eH s2 rb];conv=>whnf
  refine bs h (fun q9 h=>?_) fun q9 h=>?_
  ·rw [q9];(conv=>whnf);obtain rfl:=Option.some.inj h;exact jG _ _ rfl rfl
  ·rw [q9];(conv=>whnf);exact ⟨m,sg m,(w (s2+(1:Int))),rfl,rfl,h⟩
 ·rw [qR];conv=>whnf
  exact I3  _ h ⟨rfl,rfl⟩
theorem ZJ {p:((List (Int×Int))×(Int×Int))} {qk:(List (List Int))} {qc:Unit→Option ((Option (((List (Int×Int))×(Int×Int))×Unit))×Int)} {s1:Int} {v:((Option (((List (Int×Int))×(Int×Int))×Unit))×Int)} {Q:cN→List I→List ar→Prop}   (jG:∀ (e:Int) (T:List I),v=(none,e)→rZ [rS p] T [.tmp 4,.tmp 5]=some [.eF,hX e]→Q .ret T [rS p]) (q':∀ (qe:List I),qc ()=some v→rk 48 [(2,(.ptr 0 0))] qe→Q (.exit 0) qe [ar.cells [(.av (p.1.flatMap p_) p.1.length .shared),(hX p.2.1),(hX p.2.2)]]) {T:List I} (bZ:eW [false,false,true,false,false,false,false,false,false,false,false,false,false,false,false,false,false,true,true,true,false,false,false,false,false,false,false,false,false,false,false,false,false,false,false,false,false,false,false,false,false,false,false,false,false,false,false,false] T=qf 48 [(2,(.ptr 0 0)),(17,(.av (qk.map oW) qk.length .shared)),(18,(hX (qk.length:Int))),(19,(hX s1))]) (h:HD p qk qc qh s1=some v) :
  dN Tryz.prog Kt 40 0 none Jp T [ar.cells [(.av (p.1.flatMap p_) p.1.length .shared),(hX p.2.1),(hX p.2.2)]] Q:=by
 unfold Jp;obtain ⟨r9,qC⟩:∃ c,JY=c:=⟨_,rfl⟩;rw [qC];refine wp_loop bZ ?_;refine .intro (fun m T H=>∃ (s1:Int),T=qf 48 [(2,(.ptr 0 0)),(17,(.av (qk.map oW) qk.length .shared)),(18,(hX (qk.length:Int))),(19,(hX s1))]∧H=[ar.cells [(.av (p.1.flatMap p_) p.1.length .shared),(hX p.2.1),(hX p.2.2)]]∧HD p qk qc m s1=some v) qh ⟨s1,rfl,rfl,h⟩ ?_;clear h bZ;rintro m T H ⟨s1,rfl,rfl,h⟩;cases m
 ·exact rz h
 rename_i m;rw [HD.eq_2] at h;conv=>whnf
 refine bs h (fun qs h=>?_) fun qs h=>?_
 ·rw [qs];conv=>whnf
  refine qD h id fun qG h=>?_;rw [ri oW qk s1 qG];conv=>whnf
  obtain ⟨bh,qW,h⟩:=p' h;refine ⟨qi.pl,_,TC qW,?_⟩;conv=>whnf
  obtain ⟨eH,q8,h⟩:=p' h;refine ⟨(p9 (I7 rfl (p9 (Iq (p9 (rL (fun _=>rfl) _ _ _) rfl)) rfl)) rfl),_,TB  q8,?_⟩;conv=>whnf
  subst qC;refine aiP ?_ ?_ (by exact rfl) h
  ·exact fun e T bD ai=>jG e T bD ai
  ·intro  qe h qz;obtain ⟨rq,rfl⟩:=qz.ex;(conv=>whnf);refine bs h (fun rv h=>?_) fun rv h=>?_
   ·rw [rv];(conv=>whnf);obtain rfl:=Option.some.inj h;exact jG _ _ rfl rfl
   ·rw [rv];(conv=>whnf);exact ⟨m,sg m,(w (s1+(1:Int))),rfl,rfl,h⟩
 ·rw [qs];conv=>whnf
  exact q'  _ h ⟨rfl,rfl⟩
theorem Wo {eH:List Int} {K:Unit→Option (Option (qm×Unit)×Int)} {t:qm×Unit} {e:Int}:∀ {m:Nat} {s:Int},IG eH K m s=some (some t,e)→K ()=some (some t,e)
 | 0,s,h=>by cases h
 | m+1,s,h=>by
   rw [IG.eq_2] at h;split at h
   ·obtain ⟨_,h⟩:=rV h;split at h
    ·cases h
    ·exact Wo h
   ·exact h
theorem Wn {p:qm} {qk:List (List Int)} {K:Unit→Option (Option (qm×Unit)×Int)} {t:qm×Unit} {e:Int}:∀ {m:Nat} {s:Int},HD p qk K m s=some (some t,e)→K ()=some (some t,e)
 | 0,s,h=>by cases h
 | m+1,s,h=>by
   rw [HD.eq_2] at h;split at h
   ·obtain ⟨_,h⟩:=rV h;obtain ⟨bh,_,h⟩:=p' h;obtain ⟨eH,_,h⟩:=p' h;have h:=Wo h;split at h
    ·cases h
    ·exact Wn h
   ·exact h
theorem Wm {p:qm} {qk:List (List Int)} {t:qm×Unit} {e:Int} (h:HD p qk (fun _=>some (some (p,()),0)) qh 0=some (some t,e)):t=(p,())∧e=0:=by
 have h:=Wn h;obtain ⟨ab,ae⟩:=Prod.mk.inj (Option.some.inj h);exact ⟨(Option.some.inj ab).symm,ae.symm⟩
theorem ZI {p:qm} {qk:List (List Int)} {e:Int} (h:rW p qk=some (none,e)):Sem Tryz.prog (.fn 40) (L2 p qk) [] 0 (.tuple [.eF,hX e]) [rS p]:=by
 refine rK eD NG rfl (IM (sE _)) fun Q bo=>?_;have jG:∀ (cS:Int) (T:List I),((none,e):Option (qm×Unit)×Int)=(none,cS)→rZ [rS p] T [.tmp 4,.tmp 5]=some [.eF,hX cS]→Q .ret T [rS p]:=fun cS T he ai=>by
  obtain rfl:=(Prod.mk.inj he).2;exact bo _ _ _ ⟨.inr rfl,lF.refl _,by rw [ai];rfl⟩
 unfold rW at h;unfold M7;obtain ⟨J2,rN⟩:∃ c,Jp=c:=⟨_,rfl⟩;rw [rN];conv=>whnf
 obtain ⟨aS,gJ,h⟩:=p' h;refine ⟨qi.pl,_,Oq gJ,?_⟩;conv=>whnf
 refine bs h (fun gK h=>?_) fun gK h=>?_
 ·rw [gK];conv=>whnf
  obtain rfl:aS=e:=(Prod.mk.inj (Option.some.inj h)).2;exact jG _ _ rfl rfl
 ·rw [gK];conv=>whnf
  subst rN;refine ZJ ?_ ?_ (by exact rfl) h
  ·exact fun e T bD ai=>jG e T bD ai
  ·intro  qe h qz;exact absurd (Prod.mk.inj (Option.some.inj h)).1 (by simp)
theorem Of {p:qm} {qk:List (List Int)} {t:qm×Unit} {e:Int} (h:rW p qk=some (some t,e)):t=(p,())∧e=0∧Sem Tryz.prog (.fn 40) (L2 p qk) [] 0 (.tuple [.ptr 2 0,hX 0]) [rS p,.map [] 0,.cells [(.av (p.1.flatMap p_) p.1.length .shared),(hX p.2.1),(hX p.2.2),.map 1]]:=by
 have ad:t=(p,())∧e=0:=by
  have aX:=h;unfold rW at aX;obtain ⟨aS,gJ,aX⟩:=p' aX;split at aX
  ·cases aX
  ·exact Wm aX
 obtain ⟨rfl,rfl⟩:=ad;refine ⟨rfl,rfl,?_⟩;refine rK eD NG rfl (IM (sE _)) fun Q bo=>?_;unfold rW at h;unfold M7;obtain ⟨J2,rN⟩:∃ c,Jp=c:=⟨_,rfl⟩;rw [rN];conv=>whnf
 obtain ⟨aS,gJ,h⟩:=p' h;refine ⟨qi.pl,_,Oq gJ,?_⟩;conv=>whnf
 refine bs h (fun gK h=>?_) fun gK h=>?_
 ·exact absurd (Prod.mk.inj (Option.some.inj h)).1 (by simp)
 ·rw [gK];conv=>whnf
  subst rN;refine ZJ ?_ ?_ (by exact rfl) h
  ·exact fun e T bD ai=>absurd (Prod.mk.inj bD).1 (by simp)
  ·intro  qe h qz;obtain ⟨rq,rfl⟩:=qz.ex;(conv=>whnf);exact bo _ _ _ ⟨.inr rfl,lF.refl _,rfl⟩
section
variable {p:qm} {qk:List (List Int)}
theorem ab8 {e:Int} {lo:Nat} (h:rW p qk=some (none,e)):oU Tryz.prog 2 lo (.fn 40) (L2 p qk) [] (.tuple [.eF,hX e]) [] :=
 ⟨_,EB (ZI h),by
  show (k6 _ _ _ _ _ _ (.fn 40) (L2 p qk) [] 0).bind _=_
  rw [EA];rfl⟩
theorem ab7 {t:qm×Unit} {e:Int} {lo:Nat} (h:rW p qk=some (some t,e)):oU Tryz.prog 2 lo (.fn 40) (L2 p qk) [] (.tuple [.ptr 0 0,hX 0]) [.cells [(.av (p.1.flatMap p_) p.1.length .shared),(hX p.2.1),(hX p.2.2),Hl]] :=
 ⟨_,EB (Of h).2.2,by
  show (k6 _ _ _ _ _ _ (.fn 40) (L2 p qk) [] 0).bind _=_;rw [EA];have e1:dZ (bL [rS p,.map [] 0,.cells [(.av (p.1.flatMap p_) p.1.length .shared),(hX p.2.1),(hX p.2.2),.map 1]] 0 2 0 8) [(.av (p.1.flatMap p_) p.1.length .shared),(hX p.2.1),(hX p.2.2),.map 1]=some [(.av (p.1.flatMap p_) p.1.length .shared),(hX p.2.1),(hX p.2.2),Hl] :=
   rM (yW (HB (fun _=>p9 rfl (p9 rfl rfl)) _ _ _)) (rM (yW rfl) (rM (yW rfl) (rM (Vt (by simp) (by simp)) IP)))
  show (if 0≤2 then (match dZ (bL [rS p,.map [] 0,.cells [(.av (p.1.flatMap p_) p.1.length .shared),(hX p.2.1),(hX p.2.2),.map 1]] 0 2 0 8) [(.av (p.1.flatMap p_) p.1.length .shared),(hX p.2.1),(hX p.2.2),.map 1],bL _ 0 2 0 8 (.tuple [.ptr 2 0,hX 0]) with | some l',some v=>some (v,[]++[ar.cells l']) | _,_=>none) else none)=_
  rw [e1];rfl⟩
end
end Go.Proofs.YtkoioidpbbbaiaaGreat.Ab


namespace Go.Proofs.YtkoioidpbbbaiaaGreat.Ab
open Go
noncomputable def SI:gB :=
 p5 [p3 5 [.Bs 1,.Bs 2,.Bs 3,.m_ 4] (.zY 71 0 4),⟨none,[.m_ 4,.jm 5],none,none,.st 1⟩] (qE [ql 6 4,p3 7 [.jm 6,.cv (.av [] 0 .full)] (.call 1)])
noncomputable def SH:gB :=
 p5 [p3 2 [.jm 0] .box] (p5 [p3 3 [] (.alloc [.int .i64 0,.int .i64 0,.int .i64 0,.int .i64 0,.int .i64 0,.int .i64 0,.int .i64 0])] (p5 [p3 4 [] (.alloc [.a0])] SI))
theorem WM:qt Go.Proofs.Tryz.prog UK 70=some (SH,8,[]):=by kernel_rfl
noncomputable def agR:gB :=
 p5 [ql 18 2,p4 19 0,p3 20 [.jm 18,.jm 19] (.call 1),p4 6 20] .ret
noncomputable def NW:gB :=
 p5 [p4 47 7,p3 48 [.m_ 3,.Bs 47] (.zu 7 1),⟨none,[.jm 48,.cv (.int .i64 0)],none,none,.st 1⟩] (p5 [p4 49 8,p3 50 [.Bs 49] (.un .not)] (.cond (.m_ 50) (p5 [p3 6 [.cv (.bool false)] .mR] .ret) .skip))
noncomputable def Lr:gB :=
 p5 [p3 36 [.m_ 4] (.zE .one),p6 37 0,p6 38 0,qZ 39 38,p6 40 0,qZ 41 40,p3 42 [.jm 37,.jm 39,.jm 41] (.Bh 1 false true true),p6 43 7,p3 44 [.Bs 43] (.yB 1 1 [.int .i64 0] [0]),p3 45 [.jm 42,.jm 44] (.app 1 8),p3 46 [.jm 36,.jm 45] (.call 1),p4 8 46] NW
noncomputable def SJ:gB :=
 .seq (p5 [p6 30 7,p3 31 [.m_ 3,.Bs 30] (.zu 7 1),ql 32 31,qu 33 32 0 .gtr] (.cond (.m_ 33) (.exit 1) .skip)) (p5 [p6 34 7,p3 35 [.m_ 3,.Bs 34] (.zu 7 1),⟨none,[.jm 35,.cv (.int .i64 1)],none,none,.st 1⟩] Lr)
noncomputable def SK:gB :=
 .block 1 (p5 [p6 29 27,p4 7 29] SJ)
noncomputable def JE:gB :=
 .seq (p5 [ql 21 1,p3 22 [.Bs 21] .z4,qJ 23 22 0,qJ 24 23 0,ql 25 24,qZ 26 25,qg 27 0] (.block 0 (.loop (some (qb false [0,1,2,2,21,2,24])) (p5 [p3 28 [.m_ 27,.m_ 26] (.bin .lss)] (.seq (.cond (.m_ 28) .skip (.exit 0)) (.seq SK (qE [qV 51 27 1,p4 27 51]))))))) (p5 [p3 6 [.cv (.bool true)] .mR] .ret)
noncomputable def Ls:gB :=
 .seq (p5 [p6 9 0,qZ 10 9,p3 11 [.m_ 1] (.zE .one),p3 12 [.Bs 11] .z4,qJ 13 12 0,qJ 14 13 0,ql 15 14,qZ 16 15,qp 17 10 16 .eql] (.cond (.m_ 17) agR .skip)) JE
noncomputable def Lq:gB :=
 p5 [p3 6 [.cv (.bool false)] .mR] Ls
theorem O':qt Go.Proofs.Tryz.prog Ku 71=some (Lq,52,[.tmp 6]):=by kernel_rfl
end Go.Proofs.YtkoioidpbbbaiaaGreat.Ab


namespace Go.Proofs.YtkoioidpbbbaiaaGreat.Ab
open Go
set_option maxRecDepth 20000
set_option maxHeartbeats 4000000
def I1 (b:I) (p:Nat):I:=.func 71 [] [b,.ptr p 0,.ptr (p+1) 0,.ptr (p+2) 0]
@[irreducible] def rT (X Y0:List ar) (L:Nat) (b:I) (p:Nat) (U:List Int) (Y:List ar):List ar:=X++(Y0++([.cells [.yield L],.cells (U.map hX),.cells [I1 b p]]++Y))
section
variable {X Y0 Y:List ar} {L p:Nat} {b:I} {U:List Int} (aB:X.length+Y0.length=p)
include aB
theorem ahG:(rT X Y0 L b p U Y)[p]?=some (.cells [.yield L]):=by
 unfold rT;rw [sv (by omega),sv (by omega),show p-X.length-Y0.length=0 by omega];rfl
theorem S8:(rT X Y0 L b p U Y)[p+1]?=some (.cells (U.map hX)):=by
 unfold rT;rw [sv (by omega),sv (by omega),show p+1-X.length-Y0.length=1 by omega];rfl
theorem YZ:(rT X Y0 L b p U Y)[p+2]?=some (.cells [I1 b p]):=by
 unfold rT;rw [sv (by omega),sv (by omega),show p+2-X.length-Y0.length=2 by omega];rfl
theorem Y1 (M':List Int):(rT X Y0 L b p U Y).set (p+1) (.cells (M'.map hX))=rT X Y0 L b p M' Y:=by
 unfold rT;rw [vj _ _ (by omega),vj _ _ (by omega),show p+1-X.length-Y0.length=1 by omega];rfl
end
def Hh (l:List Int):I:=match l with | []=>.av [] 0 .full | _=>.av (l.map hX) l.length (.own 1)
theorem ahF {LB LC:I} {Q:cN→List I→List ar→Prop} {begun:List Int} {i n:Nat} {X Y0 Y:List ar} {L p:Nat} {b:I} {U:List Int} (aB:X.length+Y0.length=p) (r8:U.length=7) (hi:i<7) (af:begun.length≤7)
  (dT:∃ L1 qS,L1.length=X.length∧Sem Tryz.prog (.fn 71) [.av ((begun++[(i:Int)]).map hX) (begun++[(i:Int)]).length (.uniq 1),b,.ptr p 0,.ptr (p+1) 0,.ptr (p+2) 0] (rT X Y0 L b p U Y) 0 (.bool true) (rT L1 Y0 L b p U qS) ∧
   Q .normal (qf 52 [(0,Hh begun),(3,.ptr (p+1) 0),(4,.ptr (p+2) 0),(26,hX n),(27,hX i),(28,LB),(33,LC),(50,.bool false)]) (rT L1 Y0 L b p (U.set i 0) qS)) :
  dN Tryz.prog Ku 71 0 none Lr (qf 52 [(0,Hh begun),(3,.ptr (p+1) 0),(4,.ptr (p+2) 0),(7,hX i),(26,hX n),(27,hX i),(28,LB),(33,LC)]) (rT X Y0 L b p U Y) Q:=by
 obtain ⟨L1,qS,ajX,cl,bo⟩:=dT;have O4:L1.length+Y0.length=p:=by omega
 have fin:∀ dE,dE=qf 52 [(0,Hh begun),(3,.ptr (p+1) 0),(4,.ptr (p+2) 0),(7,hX i),(8,.bool true),(26,hX n),(27,hX i),(28,LB),(33,LC)]→dN Tryz.prog Ku 71 0 none NW dE (rT L1 Y0 L b p U qS) Q:=by
  rintro _ rfl;unfold NW;conv=>whnf
  refine ⟨by omega,?_⟩;conv=>whnf
  refine Ew (S8 O4) ?_;conv=>whnf
  rw [show 0+(i:Int).toNat*1=i by omega];refine Gn (by simp;omega) ?_;conv=>whnf
  rw [show (List.map hX U).set i (I.int IntKind.i64 0)=(U.set i 0).map hX by rw [tQ],Y1 O4];exact bo
 unfold Lr;cases begun with
 | nil =>
   (conv=>whnf);refine Ew (YZ aB) ?_;(conv=>whnf);refine ⟨⟨by decide,by decide,by decide⟩,?_⟩;(conv=>whnf);refine ⟨rfl,by decide,?_⟩;(conv=>whnf);refine ⟨by decide,by decide,rfl,?_⟩;(conv=>whnf);refine ⟨_,_,rG cl,?_⟩;(conv=>whnf);exact fin _ rfl
 | cons a l =>
   (conv=>whnf);refine Ew (YZ aB) ?_;(conv=>whnf);refine ⟨⟨rfl,by omega,sY _⟩,?_⟩;(conv=>whnf);rw [Int.toNat_natCast,Nat.mul_one,tb (by simp)];refine ⟨rfl,by decide,?_⟩;(conv=>whnf);refine ⟨by decide,by omega,by simp,?_⟩;(conv=>whnf);(have e1:List.map hX (a::l)++[hX (i:Int)]=((a::l)++[(i:Int)]).map hX:=by simp);(have b9:(a::l).length+1=((a::l)++[(i:Int)]).length:=by simp);refine ⟨_,_,rG (by erw [e1,b9];exact cl),?_⟩;(conv=>whnf);exact fin _ rfl
def rI (U:List Int) (n:Nat):List Int:=((List.range n).filter fun i=>decide (U.getD i 0=0)).map fun i:Nat=>(i:Int)
theorem RV (U:List Int) (n:Nat):rI U (n+1)=rI U n++if U.getD n 0=0 then [(n:Int)] else []:=by
 unfold rI;rw [List.range_succ,tE,sR];by_cases h:U.getD n 0=0
 ·rw [if_pos h,vn (by simpa using h)];rfl
 ·rw [if_neg h,uN (by simpa using h)];rfl
theorem ad7 (U:List Int) (n:Nat):(rI U n).Nodup:=by
 unfold rI;refine List.Pairwise.map _ (R:=(·≠·)) (fun a b h=>by omega) ?_;exact List.Pairwise.filter _ List.nodup_range
theorem WV {U:List Int} {n:Nat} {x:Int}:x∈rI U n↔∃ i:Nat,i<n∧U.getD i 0=0∧x=(i:Int):=by
 unfold rI;simp only [sH,tc,sJ,decide_eq_true_eq];constructor
 ·rintro ⟨i,⟨ab,ae⟩,rfl⟩;exact ⟨i,ab,ae,rfl⟩
 ·rintro ⟨i,ab,ae,rfl⟩;exact ⟨i,⟨ab,ae⟩,rfl⟩
theorem Mk {U:List Int} {n i:Nat} (hi:i<U.length) (aQ:U.getD i 0=0):rI (U.set i 1) n=(rI U n).erase (i:Int):=by
 rw [(ad7 U n).erase_eq_filter];unfold rI;rw [List.filter_map,uH];congr 1;refine uq fun x _=>?_;by_cases e:x=i
 ·subst e;simp [hi]
 ·have:((x:Int) != (i:Int))=true:=by simp;omega
  simp only [Function.comp,this,Bool.true_and];congr 1;simp only [sB];rw [sf (by omega)]
def Hg (k:Nat) (U:List Int) (n i:Nat):Nat:=((rI U i).flatMap fun x=>(qU k ((rI U n).erase x)).map (x::·)).length
theorem OL (k:Nat) (U:List Int) (n i:Nat):Hg k U n (i+1)=Hg k U n i+if U.getD i 0=0 then (qU k ((rI U n).erase (i:Int))).length else 0:=by
 unfold Hg;rw [RV,uB,sD];congr 1;by_cases h:U.getD i 0=0
 ·rw [if_pos h,if_pos h];simp
 ·rw [if_neg h,if_neg h];rfl
theorem ad8 {U:List Int} {n i:Nat} (hi:i≤n):∃ r,rI U n=rI U i++r:=by
 obtain ⟨d,rfl⟩:=Nat.exists_eq_add_of_le hi;clear hi
 induction d with
 | zero=>exact ⟨[],by simp⟩
 | succ d a8 =>
   obtain ⟨r,ai⟩:=a8;rw [←tj,RV,ai];exact ⟨_,sC ..⟩
theorem WC {k:Nat} {U:List Int} {n i j:Nat} {l:List Int} (hi:i<n) (aQ:U.getD i 0=0) (ao:(qU k ((rI U n).erase (i:Int)))[j]?=some l):(qU (k+1) (rI U n))[Hg k U n i+j]?=some ((i:Int)::l):=by
 obtain ⟨r,ai⟩:=ad8 (U:=U) (n:=n) (i:=i+1) hi;rw [RV,if_pos aQ] at ai;show ((rI U n).flatMap fun x=>(qU k ((rI U n).erase x)).map (x::·))[Hg k U n i+j]?=_;have aw:=(sd.1 ao).1;conv=>lhs;arg 1;arg 2;rw [ai]
 rw [uB,uB,sC,sv (by unfold Hg;omega)];rw [show Hg k U n i+j-((rI U i).flatMap fun x=>(qU k ((rI U n).erase x)).map (x::·)).length=j by unfold Hg;omega];rw [List.getElem?_append_left (by simp;exact aw)];simp [ao]
theorem OJ {α:Type} (P:Nat→α→α→Prop) (h0:α) (h:∀ i a,∃ b,P i a b):∃ f:Nat→α,f 0=h0∧∀ i,P i (f i) (f (i+1)):=by
 classical
 exact ⟨fun n=>Nat.rec h0 (fun i a=>Classical.choose (h i a)) n,rfl,fun i=>uJ (h i _)⟩
theorem YO {U:List Int} {i:Nat} (h:∀ i,0≤U.getD i 0):∀ j,0≤(U.set i 1).getD j 0:=fun j=>by
 have:=h j;simp only [sB,List.getElem?_set] at this ⊢;split
 ·split <;> simp
 ·exact this
theorem YM {U:List Int} {i:Nat} (hi:i<U.length) (h:U.getD i 0=0):U.set i 0=U:=by
 rw [sB,sm hi] at h;rw [←show U[i]=0 from h,vL]
def aa1 (L:Nat) (q4:Nat→List ar) (c:Nat) (begun:List Int) (E:List (List Int)):Prop :=
 ∀ (j:Nat) (l:List Int),E[j]?=some l→∀ Y:List ar,∃ Z,Sem Tryz.prog (.yield L) [Hh (begun++l)] (q4 (c+j)++Y) 0 (.bool true) (q4 (c+j+1)++(Y++Z))
theorem VK {b:((List (Int×Int))×(Int×Int))×Unit} (qR:b.1.1.length≤7) (iP:0<b.1.1.length) {L N:Nat} {q4:Nat→List ar} (hlen:∀ i,(q4 i).length=N) {Y0:List ar} {p:Nat} (aB:N+Y0.length=p) :
  ∀ (k:Nat) (begun:List Int) (IV:hB) (U:List Int) (c:Nat),U.length=7→(∀ i,0≤U.getD i 0)→begun.length+k=b.1.1.length→(rI U b.1.1.length).length=k→((IV=.full∧begun=[])∨IV=.uniq 1∧begun≠[])→aa1 L q4 c begun (qU k (rI U b.1.1.length)) →
  ∀ Y,∃ Z,Sem Tryz.prog (.fn 71) [.av (begun.map hX) begun.length IV,.bR [lj b],.ptr p 0,.ptr (p+1) 0,.ptr (p+2) 0] (rT (q4 c) Y0 L (.bR [lj b]) p U Y) 0 (.bool true) (rT (q4 (c+(qU k (rI U b.1.1.length)).length)) Y0 L (.bR [lj b]) p U (Y++Z))
 | 0,begun,IV,U,c,r8,_,al,ao,CM,ai,Y=>by
   obtain ⟨Z,cl⟩:=ai 0 [] rfl (Y0++([.cells [.yield L],.cells (U.map hX),.cells [I1 (.bR [lj b]) p]]++Y));(have JU:(q4 c).length+Y0.length=p:=by rw [hlen];exact aB);(have bI:begun≠[]:=fun e=>by subst e;simp at al;omega);have CM:IV=.uniq 1:=by
    rcases CM with ⟨_,h⟩ | ⟨h,_⟩
    ·exact absurd h bI
    ·exact h
   subst CM;obtain ⟨a,l,rfl⟩:=tY bI;refine ⟨Z,?_⟩;(have e1:q4 (c+0)++(Y0++([.cells [.yield L],.cells (U.map hX),.cells [I1 (.bR [lj b]) p]]++Y))=rT (q4 c) Y0 L (.bR [lj b]) p U Y:=by unfold rT;rfl);(have b9:q4 (c+0+1)++((Y0++([.cells [.yield L],.cells (U.map hX),.cells [I1 (.bR [lj b]) p]]++Y))++Z)=rT (q4 (c+1)) Y0 L (.bR [lj b]) p U (Y++Z):=by unfold rT;simp);rw [e1,b9,sM] at cl;show Sem _ _ _ _ _ _ (rT (q4 (c+1)) _ _ _ _ _ _);refine rK eD O' rfl cl.1 fun Q bo=>?_;unfold Lq Ls;obtain ⟨fY,Ho⟩:∃ c,JE=c:=⟨_,rfl⟩;rw [Ho];(conv=>whnf);rw [decide_eq_true (show (((a::l).length:Nat):Int)=(b.1.1.length:Int) by omega)];(conv=>whnf);refine Ew (ahG JU) ?_;(conv=>whnf);refine ⟨_,_,rG cl,?_⟩;(conv=>whnf);exact bo _ _ _ ⟨.inr rfl,lF.refl _,rfl⟩
 | k+1,begun,IV,U,c,r8,Nr,al,ao,CM,ai,Y=>by
   obtain ⟨n,aI⟩:∃ n,n=b.1.1.length:=⟨_,rfl⟩;have M9:=VK (L:=L) qR iP hlen aB k;rw [←aI] at qR iP al ao ai M9 ⊢;have JU:∀ j,(q4 j).length+Y0.length=p:=fun j=>by rw [hlen];exact aB
   obtain ⟨J0,Lb,Kz⟩:=OJ (fun i Z QE=>(i<n→U.getD i 0=0→∃ W,QE=Z++W∧Sem Tryz.prog (.fn 71) [.av ((begun++[(i:Int)]).map hX) (begun++[(i:Int)]).length (.uniq 1),.bR [lj b],.ptr p 0,.ptr (p+1) 0,.ptr (p+2) 0] (rT (q4 (c+Hg k U n i)) Y0 L (.bR [lj b]) p (U.set i 1) (Y++Z)) 0 (.bool true) (rT (q4 (c+Hg k U n (i+1))) Y0 L (.bR [lj b]) p (U.set i 1) (Y++QE)))∧(¬ (i<n∧U.getD i 0=0)→QE=Z)) ([]:List ar) (fun i Z=>by
    by_cases h:i<n∧U.getD i 0=0
    ·obtain ⟨hi,aQ⟩:=h;have hm:(i:Int)∈rI U n:=WV.2 ⟨i,hi,aQ,rfl⟩
     obtain ⟨W,l9⟩:=M9 (begun++[(i:Int)]) (.uniq 1) (U.set i 1) (c+Hg k U n i) (by simpa using r8) (YO Nr) (by simp;omega) (by rw [Mk (by omega) aQ,tR hm];omega) (.inr ⟨rfl,by simp⟩) (fun j l aw Y=>by
      rw [Mk (by omega) aQ] at aw;obtain ⟨Z,cl⟩:=ai _ _ (WC hi aQ aw) Y;refine ⟨Z,?_⟩;rw [show c+Hg k U n i+j=c+(Hg k U n i+j) by omega,sC]
      exact cl) (Y++Z)
     refine ⟨Z++W,fun _ _=>⟨W,rfl,?_⟩,fun h=>absurd ⟨hi,aQ⟩ h⟩;rw [Mk (by omega) aQ] at l9;rw [OL,if_pos aQ,←sC,←tj];exact l9
    ·exact ⟨Z,fun ab ae=>absurd ⟨ab,ae⟩ h,fun _=>rfl⟩)
   refine ⟨J0 n,?_⟩;have RH:Hg k U n n=(qU (k+1) (rI U n)).length:=rfl;rw [←RH];refine rK eD O' rfl (IM (by unfold rT;simp [hlen])) fun Q bo=>?_;have main:∀ T,T=qf 52 [(0,Hh begun),(1,.bR [lj b]),(2,.ptr p 0),(3,.ptr (p+1) 0),(4,.ptr (p+2) 0),(6,.bool false),(17,.bool false)]→dN Tryz.prog Ku 71 0 none JE T (rT (q4 c) Y0 L (.bR [lj b]) p U Y) Q:=by
    rintro _ rfl;unfold JE SK SJ;obtain ⟨br,eP⟩:∃ c,Lr=c:=⟨_,rfl⟩;rw [eP];(conv=>whnf);rw [←aI];refine .intro (fun m T H=>∃ i:Nat,i≤n∧m=n-i∧T=qf 52 [(0,Hh begun),(3,.ptr (p+1) 0),(4,.ptr (p+2) 0),(26,hX n),(27,hX i)]∧H=rT (q4 (c+Hg k U n i)) Y0 L (.bR [lj b]) p U (Y++J0 i)) n ⟨0,sE _,rfl,rfl,by rw [Lb,sM];rfl⟩ ?_;rintro m T H ⟨i,hi,rfl,rfl,rfl⟩;(conv=>whnf);refine HG (fun aR=>?_) (fun aR=>?_)
    ·(have hc:i<n:=by omega);(conv=>whnf);refine ⟨by omega,?_⟩;(conv=>whnf);refine Ew (S8 (JU _)) ?_;(conv=>whnf);rw [show 0+(i:Int).toNat*1=i by omega];refine Ew (x:=hX (U.getD i 0)) (by rw [sq,sB,sm (show i<U.length by omega)];rfl) ?_;(conv=>whnf);(have rJ:IntKind.i64.wrap ((i:Int)+1)=((i+1:Nat):Int):=by rw [HQ _ (by omega) (by omega)];omega);refine HG (fun aQ=>?_) (fun aQ=>?_)
     ·(conv=>whnf);refine ⟨n-(i+1),by omega,i+1,by omega,rfl,by rw [rJ];rfl,?_⟩;rw [OL,if_neg (by omega),(Kz i).2 (by omega)];rfl
     ·(have Nn:U.getD i 0=0:=by have:=Nr i;omega);obtain ⟨W,l9,cl⟩:=(Kz i).1 hc Nn;(conv=>whnf);refine ⟨by omega,?_⟩;(conv=>whnf);refine Ew (S8 (JU _)) ?_;(conv=>whnf);rw [show 0+(i:Int).toNat*1=i by omega];refine Gn (by simp;omega) ?_;(conv=>whnf);rw [show (List.map hX U).set i (I.int IntKind.i64 1)=(U.set i 1).map hX by rw [tQ],Y1 (JU _)];subst eP;refine ahF (JU _) (by simpa using r8) (by omega) (by omega) ⟨q4 (c+Hg k U n (i+1)),Y++J0 (i+1),by rw [hlen,hlen],cl,?_⟩;(conv=>whnf);refine ⟨n-(i+1),by omega,i+1,by omega,rfl,by rw [rJ];rfl,?_⟩;rw [s7,YM (by omega) Nn]
    ·(obtain rfl:i=n:=by omega);(conv=>whnf);exact bo _ _ _ ⟨.inr rfl,lF.refl _,rfl⟩
   rcases CM with ⟨rfl,rfl⟩ | ⟨rfl,bI⟩
   ·unfold Lq Ls;obtain ⟨fY,Ho⟩:∃ c,JE=c:=⟨_,rfl⟩;rw [Ho];(conv=>whnf);rw [decide_eq_false (show ¬ (((([]:List Int).length:Nat):Int)=(b.1.1.length:Int)) by simp only [ug];omega)];(conv=>whnf);subst Ho;exact main _ rfl
   ·obtain ⟨a,l,rfl⟩:=tY bI;unfold Lq Ls;obtain ⟨fY,Ho⟩:∃ c,JE=c:=⟨_,rfl⟩;rw [Ho];(conv=>whnf);rw [decide_eq_false (show ¬ ((((a::l).length:Nat):Int)=(b.1.1.length:Int)) by omega)];(conv=>whnf);subst Ho;exact main _ rfl
def OB (P:Program) (k:FuncId) (cap:List I) (E:List I):Prop :=
 ∀ (l N:Nat) (q4:Nat→List ar),(∀ i,(q4 i).length=N)→l<N →
   (∀ (i:Nat) (h:i<E.length) (Y:List ar),∃ Z,Sem P (.yield l) [E[i]] (q4 i++Y) 0 (.bool true) (q4 (i+1)++(Y++Z))) →
   ∀ Y,∃ Z,Sem P (.fn k) (.yield l::cap) (q4 0++Y) 0 (.tuple []) (q4 E.length++(Y++Z))
theorem YC {α:Type} {P:Program} {A:dt} {fn:FuncId} {rl:Option Nat} {k:FuncId} {cap:List I} {t:Nat} {bp:List Nat} {gE cp:Code} {T:List I} {H Hn:List ar} {Q:cN→List I→List ar→Prop} {f:α→I} {L:List α} (ID:OB P k cap (L.map f))
  (Obj:Nat→List ar) (ax:dc T t=.func k [] cap) (aQ:Obj 0=H) (hlen:∀ i,(Obj i).length=H.length)
  (Li:∀ (i:Nat) (h:i<L.length) (Y:List ar),∃ Z,Sem P (.yield H.length) [f L[i]] ((Obj i++[.loop .ready none fn (T.map I.view) bp gE cp A])++Y) 0 (.bool true) ((Obj (i+1)++[.loop .ready none fn (T.map I.view) bp gE cp A])++(Y++Z)))
  (hc:inLoop H rl=true) (aI:Obj L.length=Hn) (bo:∀ qS,Q .normal (T.map I.settle) ((Hn++[.dead])++qS)):dN P A fn 0 rl (.AM (.m_ t) bp gE cp) T H Q:=by
 show hF T t _;rw [iN,ax]
 obtain ⟨qS,cl⟩:=ID H.length (H.length+1) (fun i=>Obj i++[.loop .ready none fn (T.map I.view) bp gE cp A]) (fun i=>by simp [hlen]) (by omega) (fun i h Y=>by
  have aX:i<L.length:=by simpa using h
  obtain ⟨qS,ai⟩:=Li i aX Y
  exact ⟨qS,by rw [tX];exact ai⟩) []
 subst aI;simp only [sM,uy,sZ,aQ] at cl;have ao:(Obj L.length).length=H.length:=hlen _;refine ⟨hc,.tuple [],_,.ready,none,fn,T.map I.view,bp,gE,cp,A,cl,by rw [←ao];exact IJ _ _ _,by decide,?_⟩;show Q .normal (T.map I.settle) (((Obj L.length++[ar.loop .ready none fn (T.map I.view) bp gE cp A])++qS).set H.length .dead);rw [←ao,JG];exact bo qS
def qo (n:Nat):List Int:=(List.range n).map fun i:Nat=>(i:Int)
theorem WB {n:Nat} (aI:n≤7):rI [0,0,0,0,0,0,0] n=qo n:=by
 unfold rI qo;rw [tS.2];intro a cq
 have:a<n:=sJ.1 cq
 have cL:a<7:=by omega
 match a,cL with
 | 0,_ | 1,_ | 2,_ | 3,_ | 4,_ | 5,_ | 6,_=>rfl
theorem YH {b:((List (Int×Int))×(Int×Int))×Unit} (qR:b.1.1.length≤7) (iP:0<b.1.1.length):OB Tryz.prog 70 [.bR [lj b]] ((qU b.1.1.length (qo b.1.1.length)).map Hh):=by
 intro L N q4 hlen fm ai Y;have jQ:=WB qR
 obtain ⟨Z,cl⟩:=VK (b:=b) (L:=L) qR iP hlen (Y0:=Y) (p:=N+Y.length) rfl b.1.1.length [] .full [0,0,0,0,0,0,0] 0 rfl (fun i=>by
  rw [sB]
  match i with
  | 0 | 1 | 2 | 3 | 4 | 5 | 6 | i+7=>simp) (by simp) (by rw [jQ];simp [qo]) (.inl ⟨rfl,rfl⟩) (fun j l aw Y=>by
    rw [jQ] at aw;obtain ⟨ab,ae⟩:=sd.1 aw;obtain ⟨Z,h⟩:=ai j (by simpa using ab) Y;refine ⟨Z,?_⟩;rw [tX,ae] at h;rw [sG]
    exact h) []
 rw [jQ,sG] at cl;rw [sZ];have e1:rT (q4 0) Y L (.bR [lj b]) (N+Y.length) [0,0,0,0,0,0,0] []=((q4 0++Y)++[.cells [.yield L]])++[.cells [hX 0,hX 0,hX 0,hX 0,hX 0,hX 0,hX 0]]++[.cells [I1 (.bR [lj b]) (N+Y.length)]]:=by
  unfold rT;simp
 refine ⟨[.cells [.yield L],.cells [hX 0,hX 0,hX 0,hX 0,hX 0,hX 0,hX 0],.cells [I1 (.bR [lj b]) (N+Y.length)]]++Z,?_⟩;have b9:rT (q4 (qU b.1.1.length (qo b.1.1.length)).length) Y L (.bR [lj b]) (N+Y.length) [0,0,0,0,0,0,0] ([]++Z)=q4 (qU b.1.1.length (qo b.1.1.length)).length++(Y++([.cells [.yield L],.cells [hX 0,hX 0,hX 0,hX 0,hX 0,hX 0,hX 0],.cells [I1 (.bR [lj b]) (N+Y.length)]]++Z)):=by
  unfold rT;simp
 rw [e1,b9] at cl;obtain ⟨Hn,VN⟩:∃ Hn,Hn=q4 (qU b.1.1.length (qo b.1.1.length)).length++(Y++([.cells [.yield L],.cells [hX 0,hX 0,hX 0,hX 0,hX 0,hX 0,hX 0],.cells [I1 (.bR [lj b]) (N+Y.length)]]++Z)):=⟨_,rfl⟩;rw [←VN] at cl ⊢;have hle:(q4 0++Y).length=N+Y.length:=by simp [hlen]
 obtain ⟨HR,gI⟩:∃ HR,HR=q4 0++Y:=⟨_,rfl⟩;rw [←gI] at cl hle ⊢;refine rK eD WM rfl (IM (by rw [VN,hle];simp [hlen])) fun Q bo=>?_;rw [←hle] at cl;unfold SH SI;conv=>whnf
 have l1:(HR++[ar.cells [I.yield L]]).length=HR.length+1:=by simp
 have l2:((HR++[ar.cells [I.yield L]])++[ar.cells [I.int IntKind.i64 0,I.int IntKind.i64 0,I.int IntKind.i64 0,I.int IntKind.i64 0,I.int IntKind.i64 0,I.int IntKind.i64 0,I.int IntKind.i64 0]]).length=HR.length+2:=by simp
 refine Ew (x:=.cells [.a0]) (by simp) ?_;conv=>whnf
 rw [HJ];refine Ew (x:=.cells [I1 (.bR [lj b]) HR.length]) (by rw [sv (se _),l1,l2,Nat.sub_self];rfl) ?_;conv=>whnf
 refine ⟨_,_,rG (by rw [l1,l2];exact cl),?_⟩;conv=>whnf
 exact bo _ _ _ ⟨.inl rfl,lF.refl _,rfl⟩
end Go.Proofs.YtkoioidpbbbaiaaGreat.Ab


namespace Go.Proofs.YtkoioidpbbbaiaaGreat.Ab
open Go
noncomputable def X6:gB :=
 p5 [p3 2 [.cv (.av [] 0 .full)] (.nil 1)] (p5 [p4 3 0,p3 4 [.cv (.func 69 [] []),.cv (.av [] 0 .full),.m_ 3] (.call 0),p4 2 4] .ret)
theorem ael:qt Go.Proofs.Tryz.prog Uu 42=some (X6,5,[.tmp 2]):=by kernel_rfl
noncomputable def Yj:gB :=
 p5 [p3 2 [.jm 0] .box,p3 4 [.cv (.av [] 0 .full)] (.nil 1)] (.seq (p5 [p4 6 1] (.block 0 (.AM (.m_ 6) [7] (rC Go.Proofs.Tryz.prog 69 0) (rD Go.Proofs.Tryz.prog 69 0)))) (p5 [p3 12 [.Bs 2] .take,p4 4 12] .ret))
theorem aer:qt Go.Proofs.Tryz.prog JS 69=some (Yj,13,[.tmp 4]):=by kernel_rfl
noncomputable def Sm:gB :=
 .seq (p5 [p3 16 [.m_ 4] (.zE .one),p3 17 [.cv (.func 43 [] []),.m_ 16] (.call 3)] (.block 0 (.AM (.m_ 17) [18] (rC Go.Proofs.Tryz.prog 16 0) (rD Go.Proofs.Tryz.prog 16 0)))) (p5 [ql 25 6,p4 2 25,qg 3 0] .ret)
noncomputable def XS:gB :=
 .seq (p5 [p6 13 5,qu 14 13 0 .neq] (.cond (.m_ 14) (p5 [p4 15 5,qg 2 0,p4 3 15] .ret) .skip)) (p5 [p3 6 [] (.alloc [.int .i64 0]),⟨none,[.m_ 6,.cv (.int .i64 0)],none,none,.st 1⟩] Sm)
noncomputable def XT:gB :=
 p5 [p3 9 [.Bs 1] (.zE (.str 3)),p3 10 [.cv (.func 40 [] []),.m_ 9,.cv (.av [] 0 .full)] (.call 3),p4 8 10,qQ 11 8 0,p3 12 [.Bs 8] (.ext 1),p3 4 [] (.alloc [.eF]),⟨none,[.m_ 4,.jm 11],none,none,.st 1⟩,p4 5 12] XS
noncomputable def XR:gB :=
 p5 [p3 1 [.jm 0] .box,qg 2 0,qg 3 0] XT
theorem aeg:qt Go.Proofs.Tryz.prog JQ 16=some (XR,26,[.tmp 2,.tmp 3]):=by kernel_rfl
noncomputable def XN:gB :=
 p5 [p4 21 7,p3 22 [.Bs 6] (.zY 45 0 1),p3 23 [.cv (.func 44 [] []),.m_ 21,.m_ 22] (.call 0),p4 2 23,qg 3 0] .ret
noncomputable def XO:gB :=
 p5 [p4 18 4,p3 19 [.cv (.func 43 [] []),.m_ 18] (.call 3),p3 20 [.cv (.func 42 [] []),.m_ 19] (.call 3),p4 7 20] XN
noncomputable def Sl:gB :=
 p5 [p6 16 4,p3 17 [.Bs 16] (.zY 41 1 0),p3 6 [] (.alloc [.a0]),⟨none,[.m_ 6,.jm 17],none,none,.st 1⟩] XO
noncomputable def XP:gB :=
 .seq (p5 [p6 13 5,qu 14 13 0 .neq] (.cond (.m_ 14) (p5 [p4 15 5,p3 2 [.cv (.av [] 0 .full)] (.nil 1),p4 3 15] .ret) .skip)) Sl
noncomputable def XQ:gB :=
 p5 [p3 9 [.Bs 1] (.zE (.str 3)),p3 10 [.cv (.func 40 [] []),.m_ 9,.cv (.av [] 0 .full)] (.call 3),p4 8 10,qQ 11 8 0,p3 12 [.Bs 8] (.ext 1),p4 4 11,p4 5 12] XP
noncomputable def XM:gB :=
 p5 [p3 1 [.jm 0] .box,p3 2 [.cv (.av [] 0 .full)] (.nil 1),qg 3 0] XQ
theorem aef:qt Go.Proofs.Tryz.prog Uf 14=some (XM,24,[.tmp 2,.tmp 3]):=by kernel_rfl
noncomputable def X8:gB :=
 .seq (rh [p3 6 [.m_ 2] (.zE .one),p4 7 0,p3 8 [.m_ 6,.m_ 7] (.call 3),p3 9 [.m_ 2] (.zE .one),p4 10 1,p3 11 [.m_ 9,.m_ 10] (.call 3),qp 12 8 11 .lss,p4 5 12]) .ret
noncomputable def X7:gB :=
 p5 [p3 5 [.cv (.bool false)] .mR] X8
theorem aem:qt Go.Proofs.Tryz.prog Uw 45=some (X7,13,[.tmp 5]):=by kernel_rfl
end Go.Proofs.YtkoioidpbbbaiaaGreat.Ab


namespace Go.Proofs.YtkoioidpbbbaiaaGreat.Ab
open Go
theorem K4 {k k':FuncId} {xs ys:List I} {v bn:I} {acc:c4} (h:k'=k→ys=xs→bn=v) (t:∀ p∈acc,p.1=k→p.2.1=xs→p.2.2=v):∀ p∈((k',ys,bn)::acc:c4),p.1=k→p.2.1=xs→p.2.2=v:=fun p aB=>by
 rcases sy.1 aB with rfl | aB
 ·exact h
 ·exact t p aB
end Go.Proofs.YtkoioidpbbbaiaaGreat.Ab


namespace Go.Proofs.YtkoioidpbbbaiaaGreat.Ab
open Go
set_option maxRecDepth 20000
set_option maxHeartbeats 4000000
noncomputable def Yw:gB :=
 .ou false [p3 5 [.jm 7] .mR]
theorem aey:eu Tryz.prog JS (rC Tryz.prog 69 0) 0=some Yw:=by kernel_rfl
noncomputable def YB:gB :=
 .block 1 (.ou false [p3 8 [.m_ 2] .take,p3 9 [.jm 5] .mR,p3 10 [.Bs 9] (.yB 1 1 [.av [] 0 .full] [0]),p3 11 [.jm 8,.jm 10] (.app 1 24),⟨none,[.jm 2,.jm 11],none,none,.st 1⟩])
theorem aeC:eu Tryz.prog JS (rD Tryz.prog 69 0) 0=some YB:=by kernel_rfl
def Io (l:List (List Int)):I:=match l with | []=>.av [] 0 .full | _=>.av (l.map oW) l.length (.own 1)
theorem abN {l:List (List Int)} {e:List Int} (he:e≠[]) {yh fx Gi Gj r2 I_ HO u8 HP HL HM HN:I} (ao:l.length≤100000) (Y:List ar) :
  ∃ Z,Sem Tryz.prog (.yield [ar.cells [Io l]].length) [Hh e] (([ar.cells [Io l]]++[ar.loop .ready none 69 [yh,fx,.ptr 0 0,Gi,Gj,r2,I_,HO,u8,HP,HL,HM,HN] [7] (rC Tryz.prog 69 0) (rD Tryz.prog 69 0) JS])++Y) 0 (.bool true) (([ar.cells [Io (l++[e])]]++[ar.loop .ready none 69 [yh,fx,.ptr 0 0,Gi,Gj,r2,I_,HO,u8,HP,HL,HM,HN] [7] (rC Tryz.prog 69 0) (rD Tryz.prog 69 0) JS])++(Y++Z)):=by
 refine ⟨[],?_⟩;rw [sM];obtain ⟨f_,e,rfl⟩:=tY he;refine PB eD aey aeC (IJ _ _ _) rfl (IM (by simp)) ?_;unfold Yw;conv=>whnf
 refine ⟨rfl,IJ _ _ _,?_⟩;rw [JG];unfold YB;cases l with
 | nil =>
   (conv=>whnf);refine ⟨rfl,by omega,?_⟩;(conv=>whnf);refine ⟨by decide,by decide,rfl,?_⟩;(conv=>whnf);show _∧(([ar.cells [Io ([]++[f_::e])]]++[ar.loop .busy none 69 [yh,fx,.ptr 0 0,Gi,Gj,r2,I_,HO,u8,HP,HL,HM,HN] [7] (rC Tryz.prog 69 0) (rD Tryz.prog 69 0) JS])++Y)[[ar.cells [Io ([]++[f_::e])]].length]?=_∧lF ((([ar.cells [Io ([]++[f_::e])]]++[ar.loop .busy none 69 [yh,fx,.ptr 0 0,Gi,Gj,r2,I_,HO,u8,HP,HL,HM,HN] [7] (rC Tryz.prog 69 0) (rD Tryz.prog 69 0) JS])++Y).set [ar.cells [Io ([]++[f_::e])]].length _) _;exact ⟨rfl,IJ _ _ _,by rw [JG];exact lF.refl _⟩
 | cons a l =>
   (conv=>whnf);refine ⟨rfl,by omega,?_⟩;(conv=>whnf);refine ⟨by decide,by simp only [sO] at ao ⊢;omega,by simp,?_⟩;(conv=>whnf);(have e1:List.map oW (a::l)++[I.av (List.map hX (f_::e)) (f_::e).length .shared]=((a::l)++[f_::e]).map oW:=by rw [sR];rfl);have dx:I.av (List.map oW (a::l)++[I.av (List.map hX (f_::e)) (f_::e).length .shared]) ((a::l).length+1) (.own 1)=Io ((a::l)++[f_::e]):=by
    show _=I.av (((a::l)++[f_::e]).map oW) ((a::l)++[f_::e]).length (.own 1);rw [sR,sD];rfl
   have lX:((([ar.cells [Io (a::l)]]++[ar.loop .busy none 69 [yh,fx,.ptr 0 0,Gi,Gj,r2,I_,HO,u8,HP,HL,HM,HN] [7] (rC Tryz.prog 69 0) (rD Tryz.prog 69 0) JS])++Y).set 0 (ar.cells ([Io (a::l)].set 0 (I.av (List.map oW (a::l)) (a::l).length hB.shared)))).set 0 (ar.cells [I.av (List.map oW (a::l)++[I.av (List.map hX (f_::e)) (f_::e).length .shared]) ((a::l).length+1) (.own 1)])=([ar.cells [Io ((a::l)++[f_::e])]]++[ar.loop .busy none 69 [yh,fx,.ptr 0 0,Gi,Gj,r2,I_,HO,u8,HP,HL,HM,HN] [7] (rC Tryz.prog 69 0) (rD Tryz.prog 69 0) JS])++Y:=by
    rw [dx];rfl
   erw [lX];exact ⟨IJ _ _ _,by erw [JG];exact lF.refl _⟩
theorem Pe (l:List (List Int)) (n:Nat) (c:hB):cn 8 (.av (l.map oW) n c)=true:=rL (d:=7) (f:=oW) (fun x=>rL (fun _=>rfl) _ _ _) l n c
theorem Xj (l:List (List Int)):cn 8 (Io l)=true:=by
 cases l with
 | nil=>rfl
 | cons a l=>exact Pe _ _ _
theorem acs {k:FuncId} {cap:List I} {l:List (List Int)} (ID:OB Tryz.prog k cap (l.map Hh)) (bI:∀ e∈l,e≠[]) (ao:l.length≤100000):qv 69 [.av [] 0 .full,.func k [] cap] (Io l):=by
 refine OS eD aer rfl (Xj l) fun Q bo=>?_;unfold Yj;obtain ⟨a7,cc⟩:∃ c,gB.AM (.m_ 6) [7] (rC Tryz.prog 69 0) (rD Tryz.prog 69 0)=c:=⟨_,rfl⟩;rw [cc];conv=>whnf
 subst cc;refine YC (f:=Hh) ID (fun i=>[ar.cells [Io (l.take i)]]) (by exact rfl) (by exact rfl) (fun _=>rfl) ?_ (rl:=none) (by exact rfl) (Hn:=[ar.cells [Io l]]) (by show [ar.cells [Io (l.take l.length)]]=_;rw [List.take_length]) ?_
 ·intro i hi Y;rw [show l.take (i+1)=l.take i++[l[i]] by rw [List.take_add_one,sm hi];rfl];exact abN (l:=l.take i) (e:=l[i]) (bI _ (List.getElem_mem hi)) (by rw [List.length_take];omega) Y
 ·intro qS;cases l with
  | nil =>
    (conv=>whnf);exact bo _ _ _ (Kc (.inr rfl) (Xj _) rfl)
  | cons a l =>
    (conv=>whnf);exact bo _ _ _ (ahg (.inr rfl) (Pe _ _ _) (.inl rfl))
theorem acr {k:FuncId} {cap:List I} {l:List (List Int)} (pv:cap.all (cn 7)=true) (ID:OB Tryz.prog k cap (l.map Hh)) (bI:∀ e∈l,e≠[]) (ao:l.length≤100000):qv 42 [.func k [] cap] (.av (l.map oW) l.length .shared):=by
 refine qN eD ael rfl (Pe _ _ _) fun Q bo=>?_;unfold X6;conv=>whnf
 refine ⟨_,_,Nf (p9 rfl (p9 (I7 rfl pv) rfl)) (acs ID bI ao) _ _,?_⟩;cases l with
 | nil =>
   (conv=>whnf);exact bo _ _ _ ⟨.inr rfl,_,rfl,_,yW rfl,rfl⟩
 | cons a l =>
   (conv=>whnf);exact bo _ _ _ ⟨.inr rfl,_,rfl,_,yW (Pe _ _ _),rfl⟩
theorem WT:∀ {x y:List Int},x.map hX=y.map hX→x=y
 | [],[],_=>rfl
 | [],_::_,h=>by cases h
 | _::_,[],h=>by cases h
 | a::x,c::y,h=>by
   obtain ⟨ab,ae⟩:=List.cons.inj h;(have ab:a=c:=by injection ab);rw [ab,WT ae]
def KS (b:((List (Int×Int))×(Int×Int))×Unit) (x y:List Int):Option Bool :=
 (Kj b x).bind fun n=>(Kj b y).bind fun m=>some (decide (n<m))
theorem aiV {b:((List (Int×Int))×(Int×Int))×Unit} {x y:List Int} {v:Bool} (h:KS b x y=some v):qv 45 [.av (x.map hX) x.length .shared,.av (y.map hX) y.length .shared,.bR [.func 41 [lj b] []]] (B v):=by
 unfold KS at h;obtain ⟨n,aI,h⟩:=p' h;obtain ⟨m,hm,h⟩:=p' h;obtain rfl:=Option.some.inj h;refine OS eD aem rfl rfl fun Q bo=>?_;unfold X7 X8;conv=>whnf
 refine ⟨qi.pl,_,Oh aI,rB,?_⟩;conv=>whnf
 refine ⟨qi.pl,_,Oh hm,(K4 (fun _ e=>?_) rB),?_⟩
 ·have b9:x.map hX=y.map hX:=by
   have:=(List.cons.inj (List.cons.inj e).2).1;injection this
  obtain rfl:x=y:=WT b9;rw [aI] at hm;rw [Option.some.inj hm]
 conv=>whnf
 exact bo _ _ _ (Kc (.inr rfl) rfl rfl)

noncomputable def Qg:gB :=
 .loop (some (qb false [1,1,3,1,6,3,10])) (p5 [p3 15 [.m_ 14,.m_ 13] (.bin .lss)] (.seq (.cond (.m_ 15) .skip (.exit 0)) (.seq (.block 1 (p5 [p3 16 [.m_ 12,.m_ 14] (.kV 1),ql 17 16,p4 7 17] (p5 [p6 18 1,p6 19 7,p6 20 5,p3 21 [.m_ 18,.m_ 19,.m_ 20] (.call 6)] (.cond (.m_ 21) (qE [p4 22 7,p4 5 22]) .skip)))) (qE [qV 23 14 1,p4 14 23]))))
noncomputable def aaw:gB :=
 p5 [p3 4 [.cv (.av [] 0 .full)] (.nil 1)] (p5 [p6 8 0,p3 9 [.Bs 8,.cv (.int .i64 0)] (.kV 1),ql 10 9,p4 5 10] (.seq (p5 [p4 11 0,p3 12 [.jm 11,.cv (.int .i64 1)] (.Bh 1 true false false),p3 13 [.m_ 12] .zJ,qg 14 0] (.block 0 Qg)) (p5 [p4 24 5,p4 4 24] .ret)))
theorem ae9:qt Tryz.prog QO 44=some (aaw,25,[.tmp 4]):=by kernel_rfl
def KR (l:K3) (better:(qa→qa→Option Bool)) (qc:qa→Option qa):Nat→qa→Int→Option qa
 | 0,_,_=>none
 | m+1,s1,s2 =>
   if (decide (s2<((l.drop (1:Int).toNat).length:Int)))=true then
    qq (0≤s2∧s2<((l.drop (1:Int).toNat).length:Int)) <|
    (better (ix (l.drop (1:Int).toNat) s2) s1).bind fun aS =>
    if aS=true then
     KR l better qc m (ix (l.drop (1:Int).toNat) s2) (w (s2+(1:Int)))
    else
     KR l better qc m s1 (w (s2+(1:Int)))
   else
    qc s1
def Oi (l:K3) (better:(qa→qa→Option Bool)):Option qa :=
 qq (0≤(0:Int)∧(0:Int)<(l.length:Int)) <|
 qq (0≤(1:Int)∧(1:Int)≤(l.length:Int)) <|
 KR l better (fun yn =>
   some yn) qh (ix l (0:Int)) (0:Int)

noncomputable def aav:gB :=
 p5 [p3 1 [.jm 0] .box,p3 2 [.cv .a0] .mR] (p5 [p3 3 [.Bs 1] (.zY 70 0 1),p4 2 3] .ret)
theorem ae8:qt Tryz.prog Uv 43=some (aav,4,[.tmp 2]):=by kernel_rfl
def ZL (b:((qj×(Int×Int))×Unit)):Option Unit :=
 some ()
theorem Ts {b:((qj×(Int×Int))×Unit)} {v:Unit} (h:ZL b=some v):qv 43 [(.bR [(.av (b.1.1.flatMap p_) b.1.1.length .shared),(hX b.1.2.1),(hX b.1.2.2),Hl])] (.func 70 [] [(.bR [(.bR [(.av (b.1.1.flatMap p_) b.1.1.length .shared),(hX b.1.2.1),(hX b.1.2.2),Hl])])]):=by
 refine qN eD ae8 rfl (I7 rfl (p9 (Iq (p9 (Iq (p9 (HB (fun _=>(p9 rfl (p9 rfl rfl))) _ _ _) (p9 rfl (p9 rfl (p9 rfl rfl))))) rfl)) rfl)) fun Q bo=>?_;have jG:∀ T H,HX [.tmp 2] (.func 70 [] [(.bR [(.bR [(qY b.1.1 .shared),(hX b.1.2.1),(hX b.1.2.2),Hl])])]) .ret T H→Q .ret T H:=fun T H bD=>bo _ T H bD;unfold ZL at h;unfold aav;conv=>whnf
 exact jG _ _ ⟨.inr rfl,_,rfl,_,(Vs IP (rM (Vu (l:=[(.bR [(qY b.1.1 .shared),(hX b.1.2.1),(hX b.1.2.2),Hl])]) (by first | exact q6.h | rfl | (simp [sr,I.settle];done)) (p9 (Iq (p9 (HB (fun _=>(p9 rfl (p9 rfl rfl))) _ _ _) (p9 rfl (p9 rfl (p9 rfl rfl))))) rfl)) IP)),rfl⟩

theorem aiS {l:(List (List Int))} {better:((List Int)→(List Int)→Option Bool)} {qc:(List Int)→Option (List Int)} {s1:(List Int)} {s2:Int} {kf_better oid lo:Nat} {HR:List ar} {cv:List I} (aE:HR[oid]?=some (.cells cv)) (ha:cv.map I.view=cv) (fc:cv.map (ke HR)=cv) (JU:cv.all (cn 7)=true) (RK:∀ (rf:(List Int)) (BD:(List Int)) (r:Bool),better rf BD=some r→qv kf_better [(.av (rf.map hX) rf.length .shared),(.av (BD.map hX) BD.length .shared),.bR cv] (B r)) {v:(List Int)} {Q:cN→List I→List ar→Prop}   (q':∀ (yn:(List Int)) (qe:List I),qc yn=some v→rk 25 [(5,(.av (yn.map hX) yn.length .shared))] qe→Q (.exit 0) qe HR) {T:List I} (bZ:eW [false,true,false,false,false,true,false,false,false,false,false,false,true,true,true,false,false,false,false,false,false,false,false,false,false] T=qf 25 [(1,(.func kf_better [] [.ptr oid 0])),(5,(.av (s1.map hX) s1.length .shared)),(12,(.av ((l.drop (1:Int).toNat).map oW) (l.drop (1:Int).toNat).length .shared)),(13,(hX ((l.drop (1:Int).toNat).length:Int))),(14,(hX s2))]) (h:KR l better qc qh s1 s2=some v) :
  dN Tryz.prog QO 44 lo none Qg T HR Q:=by
 unfold Qg;skip;refine wp_loop bZ ?_;refine .intro (fun m T H=>∃ (s1:(List Int)) (s2:Int),T=qf 25 [(1,(.func kf_better [] [.ptr oid 0])),(5,(.av (s1.map hX) s1.length .shared)),(12,(.av ((l.drop (1:Int).toNat).map oW) (l.drop (1:Int).toNat).length .shared)),(13,(hX ((l.drop (1:Int).toNat).length:Int))),(14,(hX s2))]∧H=HR∧KR l better qc m s1 s2=some v) qh ⟨s1,s2,rfl,rfl,h⟩ ?_;clear h bZ;rintro m T H ⟨s1,s2,rfl,rfl,h⟩;cases m
 ·exact rz h
 rename_i m;rw [KR.eq_2] at h;conv=>whnf
 refine bs h (fun qs h=>?_) fun qs h=>?_
 ·rw [qs];conv=>whnf
  refine qD h id fun qG h=>?_;rw [ri oW (l.drop (1:Int).toNat) s2 qG];conv=>whnf
  obtain ⟨aS,qW,h⟩:=p' h;have Cn:hT H (.ptr oid 0)=.bR cv:=by
   show (match H[oid]? with | some (.cells l)=>I.bR (((l.drop 0).map I.view).map (ke H)) | _=>.ptr oid 0)=_;rw [aE];show I.bR ((cv.map I.view).map (ke H))=_;rw [ha,fc]
  refine ⟨_,_,call6 (bs:=[(.av ((ix (l.drop (1:Int).toNat) s2).map hX) (ix (l.drop (1:Int).toNat) s2).length .shared),(.av (s1.map hX) s1.length .shared),.bR cv]) (by show [_,_,(hT H (.ptr oid 0)).ca]=_;rw [Cn];rfl) (by show ([_,_,hT H (.ptr oid 0)]:List I).all (cn 8)=true;rw [Cn];exact (p9 (rL (fun _=>rfl) _ _ _) (p9 (rL (fun _=>rfl) _ _ _) (p9 (Iq JU) rfl)))) (RK _ _ _ qW) rfl,?_⟩;conv=>whnf
  cases aS
  ·(conv=>whnf);replace h:=rp rfl h;exact ⟨m,sg m,s1,(w (s2+(1:Int))),rfl,rfl,h⟩
  ·(conv=>whnf);replace h:=rn rfl h;exact ⟨m,sg m,(ix (l.drop (1:Int).toNat) s2),(w (s2+(1:Int))),rfl,rfl,h⟩
 ·rw [qs];conv=>whnf
  exact q' _ _ h ⟨rfl,rfl⟩
theorem aiT {l:(List (List Int))} {better:((List Int)→(List Int)→Option Bool)} {kf_better oid:Nat} {HR:List ar} {cv:List I} (aE:HR[oid]?=some (.cells cv)) (ha:cv.map I.view=cv) (fc:cv.map (ke HR)=cv) (JU:cv.all (cn 7)=true) (RK:∀ (rf:(List Int)) (BD:(List Int)) (r:Bool),better rf BD=some r→qv kf_better [(.av (rf.map hX) rf.length .shared),(.av (BD.map hX) BD.length .shared),.bR cv] (B r)) {v:(List Int)} (h:Oi l better=some v):Sem Tryz.prog (.fn 44) [(.av (l.map oW) l.length .shared),(.func kf_better [] [.ptr oid 0])] HR HR.length (.av (v.map hX) v.length .shared) HR:=by
 refine rK eD ae9 rfl (a'.refl _ _) fun Q bo=>?_;unfold Oi at h;unfold aaw;obtain ⟨r9,qC⟩:∃ c,Qg=c:=⟨_,rfl⟩;rw [qC];conv=>whnf
 refine qD h id fun gJ h=>?_;rw [ri oW l (0:Int) gJ];conv=>whnf
 refine qD h id fun gK h=>?_;erw [YT oW l (1:Int) gK];conv=>whnf
 subst qC;refine aiS aE ha fc JU RK ?_ (by exact rfl) h;intro yn qe h qz;obtain ⟨rq,rfl⟩:=qz.ex;conv=>whnf
 obtain rfl:=Option.some.inj h;exact bo _ _ _ ⟨.inr rfl,lF.refl _,rfl⟩
theorem Lz (n:Nat):(qo n).length=n:=by simp [qo]
theorem RY {n:Nat} (aI:0<n):∀ e∈qU n (qo n),e≠[]:=fun e he h=>by
 have:=aea (Lz n) he;rw [h] at this;simp at this;omega
def OO:Nat→Nat
 | 0=>1
 | n+1=>(n+1)*OO n
theorem Vl {α β:Type} {f:α→List β} {c:Nat}:∀ {l:List α},(∀ x∈l,(f x).length=c)→(l.flatMap f).length=l.length*c
 | [],_=>by simp
 | a::l,h=>by
   rw [List.flatMap_cons,sD,h a (by simp),Vl fun x aj=>h x (by simp [aj]),sO,Nat.succ_mul];omega
theorem WD:∀ (n:Nat) (left:List Int),left.length=n→(qU n left).length=OO n
 | 0,_,_=>rfl
 | n+1,left,h=>by
   show (left.flatMap fun x=>(qU n (left.erase x)).map (x::·)).length=(n+1)*OO n;rw [Vl (c:=OO n) fun x aj=>by rw [sZ];exact WD n _ (by rw [tR aj];omega),h]
theorem WE {n:Nat} (aI:n≤7):(qU n (qo n)).length≤100000:=by
 rw [WD n _ (Lz n)]
 match n,aI with
 | 0,_ | 1,_ | 2,_ | 3,_ | 4,_ | 5,_ | 6,_ | 7,_=>decide
theorem ab5 {P:Program} {k:FuncId} {args:List I} {H H':List ar} {lo:Nat} {r:I} (h:Sem P (.fn k) args H H.length r H') (aB:cn 8 r=true):oU P 0 lo (.fn k) args H r H:=by
 refine ⟨_,EB h,?_⟩;simp only [eN,EA,sc,yW aB,si]
theorem Ic {d:Nat} (b:((List (Int×Int))×(Int×Int))×Unit):cn (d+3) (lj b)=true:=Iq (p9 (HB (fun _=>p9 rfl (p9 rfl rfl)) _ _ _) (p9 rfl (p9 rfl (p9 rfl rfl))))
def KL (p:qm):Option (List Int×Int) :=
 (rW p []).bind fun r=>match r with
 | (none,q)=>if decide (q≠0)=true then some ([],q) else none
 | (some b,q)=>if decide (q≠0)=true then some ([],q) else
   qq (0<b.1.1.length∧b.1.1.length≤7) <|
   (Oi (qU b.1.1.length (qo b.1.1.length)) (KS b)).bind fun l=>some (l,0)
theorem Tf {p:qm} {v:List Int×Int} (h:KL p=some v):qv 14 [.agg [.av (p.1.flatMap p_) p.1.length .shared,hX p.2.1,hX p.2.2]] (.tuple [.av (v.1.map hX) v.1.length .shared,hX v.2]):=by
 unfold KL at h;obtain ⟨⟨aS,bh⟩,ai,h⟩:=p' h;refine qN eD aef rfl (Ir (p9 (rL (fun _=>rfl) _ _ _) (p9 rfl rfl))) fun Q bo=>?_;have jG:∀ T H,HX [.tmp 2,.tmp 3] (.tuple [(.av (v.1.map hX) v.1.length .shared),(hX v.2)]) .ret T H→Q .ret T H:=fun T H bD=>bo _ T H bD;unfold XM XQ XP;obtain ⟨br,eP⟩:∃ c,Sl=c:=⟨_,rfl⟩;rw [eP];conv=>whnf
 refine ⟨qi.pl,_,MW ai,?_⟩;rcases aS with _ | b
 ·conv=>whnf
  refine bs h (fun af h=>?_) fun af h=>?_
  ·rw [af];(conv=>whnf);obtain rfl:=Option.some.inj h;exact jG _ _ (It rfl rfl)
  ·cases h
 ·conv=>whnf
  refine bs h (fun af h=>?_) fun af h=>?_
  ·rw [af];(conv=>whnf);obtain rfl:=Option.some.inj h;exact jG _ _ (It rfl rfl)
  ·rw [af];(conv=>whnf);subst eP;unfold Sl XO XN;obtain ⟨⟨Di,Mi⟩,h⟩:=rV h;obtain ⟨l,ao,h⟩:=p' h;obtain rfl:=Option.some.inj h;(conv=>whnf);refine ⟨p9 (Ic b) rfl,_,Ts (b:=b) (v:=()) rfl,?_⟩;(conv=>whnf);have pv:[I.bR [lj b]].all (cn 7)=true:=p9 (Iq (p9 (Ic b) rfl)) rfl;refine ⟨p9 (I7 rfl pv) rfl,_,acr pv (YH Mi Di) (RY Di) (WE Mi),?_⟩;(conv=>whnf);refine ⟨_,_,ab5 (aiT (better:=KS b) (kf_better:=45) (cv:=[.func 41 [lj b] []]) (oid:=1) rfl rfl rfl (p9 (I7 (p9 (Ic b) rfl) rfl) rfl) (fun rf BD r aY=>aiV aY) ao) (rL (fun _=>rfl) _ _ _),?_⟩;(conv=>whnf);exact jG _ _ (It rfl rfl)
end Go.Proofs.YtkoioidpbbbaiaaGreat.Ab


namespace Go.Proofs.YtkoioidpbbbaiaaGreat.Ab
open Go
noncomputable def Sn:gB :=
 .ou true [p6 54 8, p3 55 [.Bs 54] .z4, qJ 56 55 0, qJ 57 56 0, ql 58 57, p3 59 [.m_ 12] (.yM 0), ql 60 59, p3 61 [.m_ 12] (.yM 1), p3 62 [.Bs 61] (.zE (.str 2)), p3 63 [.m_ 12] (.yM 0), p3 64 [.Bs 63] (.other (Oper.mk (some 64) (Op.load 3 (Operand.tmp 63)) 3 "curl.go:119" (Array.mk [Edge.mk 9 Ground.data, Edge.mk 13 (Ground.gcOnly Departure.lateStores)]) none) 13), qV 65 64 1, rm 66 58 60 2, ⟨none, [.jm 66, .jm 62], none, none, .other (Oper.mk none (Op.store 54 (Operand.tmp 66) (Operand.tmp 62)) 0 "curl.go:119" (Array.mk [Edge.mk 12 Ground.data, Edge.mk 8 Ground.data, Edge.mk 0 Ground.phase, Edge.mk 1 Ground.phase, Edge.mk 2 Ground.phase, Edge.mk 3 Ground.phase, Edge.mk 4 Ground.phase, Edge.mk 5 Ground.phase, Edge.mk 6 Ground.phase, Edge.mk 7 Ground.phase, Edge.mk 8 Ground.phase, Edge.mk 9 (Ground.textOnly Departure.lateStores), Edge.mk 10 (Ground.textOnly Departure.lateStores), Edge.mk 11 (Ground.textOnly Departure.lateStores)]) none) 13⟩, p4 10 65]
noncomputable def XV:gB :=
 .seq (p5 [p4 39 10,p3 40 [.m_ 3] (.yM 0),ql 41 40,qZ 42 41,qu 43 42 1 .sub,p3 44 [.m_ 12] (.yM 0),ql 45 44,p3 46 [.Bs 45] (.yB 1 1 [.int .i64 0] [0]),p3 47 [.cv (.func 50 [] []),.m_ 39,.m_ 43,.m_ 46] (.call 3),p3 48 [.Bs 47] (.un .not),p4 49 48,ch 50 [.m_ 12] 49 false (.yM 1),ch 51 [.Bs 50] 49 false (.zE (.str 2)),⟨some 52,[.cv (.func 51 [] []),.m_ 51],some (49,false),none,.call 3⟩,p3 53 [.Bs 49,.cv (.bool true),.Bs 52] .pick] (.cond (.m_ 53) (p5 [qg 6 0,qg 7 3] .ret) .skip)) Sn
noncomputable def So:gB :=
 .block 1 (p5 [p3 37 [.m_ 33,.m_ 35] (.kV 3),p3 38 [.Bs 37] (.zE (.str 3)),p3 12 [] (.alloc [.int .i64 0,.int .i64 0,.int .i64 0]),⟨none,[.m_ 12,.jm 38],none,none,.st 3⟩] XV)
noncomputable def XW:gB :=
 p5 [p4 72 2,qZ 73 72,p4 6 73,qg 7 0] .ret
noncomputable def Sp:gB :=
 .seq (p5 [p4 68 8,p4 69 1,p3 70 [.cv (.func 41 [] []),.m_ 68,.m_ 69] (.call 6),qu 71 70 0 .gtr] (.cond (.m_ 71) (p5 [qg 6 0,qg 7 23] .ret) .skip)) XW
noncomputable def XX:gB :=
 .seq (p5 [p6 33 2,p3 34 [.m_ 33] .zJ,qg 35 0] (.block 0 (.loop (some (qb false [1,3,4,1,1,1,22,3,38])) (p5 [p3 36 [.m_ 35,.m_ 34] (.bin .lss)] (.seq (.cond (.m_ 36) .skip (.exit 0)) (.seq So (qE [qV 67 35 1,p4 35 67]))))))) Sp
noncomputable def Sq:gB :=
 p5 [p6 23 8,p6 24 8,p3 25 [.Bs 24] .z4,qJ 26 25 0,qJ 27 26 0,ql 28 27,p3 29 [.cv (.func 49 [] []),.m_ 28] (.call 2),p3 30 [.Bs 23] .z4,qJ 31 30 0,qJ 32 31 0,⟨none,[.jm 32,.jm 29],none,none,.st 1⟩] XX
noncomputable def XY:gB :=
 .seq (p5 [p6 20 9,qu 21 20 0 .neq] (.cond (.m_ 21) (p5 [p4 22 9,qg 6 0,p4 7 22] .ret) .skip)) (p5 [qg 10 0] Sq)
noncomputable def XZ:gB :=
 p5 [p3 14 [.m_ 3] (.zE (.str 3)),p6 15 1,p3 16 [.Bs 15] (.yB 1 1 [.av [] 0 .full] [0]),p3 17 [.cv (.func 40 [] []),.m_ 14,.m_ 16] (.call 2),p4 13 17,qQ 18 13 0,p3 19 [.Bs 13] (.ext 1),p4 8 18,p4 9 19] XY
noncomputable def XU:gB :=
 p5 [p3 3 [.jm 0] .yy,qg 6 0,qg 7 0] XZ
theorem aeh:qt Go.Proofs.Tryz.prog Ug 19=some (XU,74,[.tmp 6,.tmp 7]):=by kernel_rfl
noncomputable def agD:gB :=
 p5 [p3 5 [] (.yB 0 2 [.int .i64 0,.int .i64 0] []),p4 6 0,p3 7 [.jm 5,.jm 6] (.app 2 16),⟨some 2,[.jm 7],none,some 7,.Bq⟩] .ret
noncomputable def X9:gB :=
 p5 [p3 2 [.cv (.av [] 0 .full)] (.nil 2)] (.seq (p5 [p6 3 0, p3 4 [.Bs 3, .cv (.av [] 0 .full)] (.other (Oper.mk (some 4) (Op.binOp .eql 22 (Operand.tmp 3) (Operand.const (Value.slice none 0 0)) 22) 4 "slices.go:357" (Array.mk [Edge.mk 0 Ground.data]) none) 0)] (.cond (.m_ 4) (p5 [p3 2 [.cv (.av [] 0 .full)] (.nil 2)] .ret) .skip)) agD)
theorem aen:qt Go.Proofs.Tryz.prog Uy 49=some (X9,8,[.tmp 2]):=by kernel_rfl
end Go.Proofs.YtkoioidpbbbaiaaGreat.Ab


namespace Go.Proofs.YtkoioidpbbbaiaaGreat.Ab
open Go
set_option maxRecDepth 20000
set_option maxHeartbeats 4000000
theorem aco {l:List (Int×Int)} (ao:l≠[]) (ab:l.length≤1000) (H:List ar):Sem Tryz.prog (.fn 49) [.av (l.flatMap p_) l.length .shared] H H.length (.ref H.length 0 l.length none 2) (H++[.cells (l.flatMap p_)]):=by
 obtain ⟨a,l,rfl⟩:=tY ao;refine rK eD aen rfl (a'.append _ _ _) fun Q bo=>?_;unfold X9;conv=>whnf
 refine ⟨.bool false,H,fun C=>rfl,?_⟩;conv=>whnf
 refine ⟨Iy p_ 2 (fun _=>rfl) _,by simp only [sO] at ab ⊢;omega,?_⟩;conv=>whnf
 refine ⟨rfl,by simp only [sO] at ab ⊢;omega,?_⟩;conv=>whnf
 refine .inl ⟨by simp,?_⟩;conv=>whnf
 rw [sG];exact bo _ _ _ ⟨.inr rfl,lF.refl _,rfl⟩
theorem af7 {d:Nat} (l:List (Int×Int)) (n:Nat) (c:hB):cn (d+2) (.av (l.flatMap p_) n c)=true:=HB (fun _=>p9 rfl (p9 rfl rfl)) _ _ _
theorem acn {l:List (Int×Int)} (ao:l≠[]) (ab:l.length≤1000) (H:List ar) (lo:Nat):oU Tryz.prog 2 lo (.fn 49) [.av (l.flatMap p_) l.length .shared] H (.ref H.length 0 l.length none 2) (H++[.cells (l.flatMap p_)]):=by
 refine ⟨_,EB (aco ao ab H),?_⟩;have e1:DM 2 H.length (H++[ar.cells (l.flatMap p_)]) (.ref H.length 0 l.length none 2)=some H.length:=by simp [DM,Co,yU]
 have b9:(H++[ar.cells (l.flatMap p_)])[H.length]?=some (.cells (l.flatMap p_)):=by simp
 have dx:bL (H++[ar.cells (l.flatMap p_)]) H.length H.length H.length 8 (.ref H.length 0 l.length none 2)=some (.ref H.length 0 l.length none 2):=by simp [bL]
 have lX:dZ (bL (H++[ar.cells (l.flatMap p_)]) H.length H.length H.length 8) (l.flatMap p_)=some (l.flatMap p_):=zU fun u hu=>by
  obtain ⟨x,_,aj⟩:=tW.1 hu;simp only [p_,sy,uc,or_false] at aj;rcases aj with rfl | rfl <;> rfl
 simp only [eN,EA,sc,e1,b9,dx,lX,se,if_true]
theorem ad0 {P:Program} {C:b6} {lo id:Nat} {o:Oper} {t:TypeId} {e:Operand} {x y z:I} {H:List ar} (aq:o.op=.load t e) (cq:iI P t=some .one) (ag:H[id]?=some (.cells [x,y,z])):a3 P C lo o 13 [.ptr id 0] H=some (x.view,H):=by
 unfold a3;rw [aq];show dC P lo 13 t H [.ptr id 0]=_;unfold dC;simp only [ag,sO,ug,if_true];rw [U0 cq];simp only [OE,ag,Lk];rfl
theorem S5:∀ (S:List (Int×Int)) (i:Nat) (a b:Int),i<S.length→((S.flatMap p_).set (i*2) (hX a)).set (i*2+1) (hX b)=(S.set i (a,b)).flatMap p_
 | [],i,a,b,h=>absurd h (by simp)
 | s::S,0,a,b,_=>rfl
 | s::S,i+1,a,b,h=>by
   have a8:=S5 S i a b (by simpa using h);show ((hX s.1::hX s.2::S.flatMap p_).set ((i+1)*2) (hX a)).set ((i+1)*2+1) (hX b)=hX s.1::hX s.2::(S.set i (a,b)).flatMap p_;rw [←a8,show (i+1)*2=i*2+1+1 by omega,show i*2+1+1+1=(i*2+1)+1+1 by omega];rfl
theorem ahE {P:Program} {C:b6} {lo id i:Nat} {o:Oper} {t:TypeId} {e1 b9:Operand} {S:List (Int×Int)} {a b:Int} {H:List ar} (aq:o.op=.store t e1 b9) (ah:bE P t=some 2) (bC:lo≤id) (hi:i<S.length) (ag:H[id]?=some (.cells (S.flatMap p_))) :
  a3 P C lo o 13 [.ptr id (i*2),.agg [hX a,hX b]] H=some (.a0,H.set id (.cells ((S.set i (a,b)).flatMap p_))):=by
 have ao:(S.flatMap p_).length=S.length*2:=Iy p_ 2 (fun _=>rfl) S;unfold a3;rw [aq];show gj P lo 13 t H [.ptr id (i*2),.agg [hX a,hX b]]=_;unfold gj;simp only [ag];rw [if_neg (by omega)];unfold g5;simp only [ah,I.cells,gQ,ag,if_pos bC];rw [if_pos ⟨rfl,by omega⟩,←S5 S i a b hi];rfl
theorem R2 {α:Type} {f:α→α} {l:List α} (h:∀ u∈l,f u=u):l.map f=l:=by
 conv=>rhs;rw [←List.map_id l]
 exact List.map_congr_left fun u hu=>h u hu
theorem YE {S:List (Int×Int)} {H:List ar} {id n:Nat} {cap:Option Nat} (ag:H[id]?=some (.cells (S.flatMap p_))) (aI:S.length=n):rowOf H (.ref id 0 n cap 2)=some (S.flatMap p_):=by
 have ao:(S.flatMap p_).length=S.length*2:=Iy p_ 2 (fun _=>rfl) S;simp only [rowOf,ag,sG,List.drop_zero];rw [if_pos (by omega),tb (by omega),R2 (Zp (f:=p_) (fun _=>N_ rfl (N_ rfl Zq)) S)]
abbrev qB:=Int×(Int×Int)
def L_ (n:Int):List qB→List (Int×Int)→Int→Option (Option (List (Int×Int)))
 | [],S,_=>some (some S)
 | c::r,S,next=>(IQ next (w (n-1)) [c.1]).bind fun a =>
   if a=true then (KW c.2).bind fun bad=>if bad=true then some none else qq (0≤c.1∧c.1<(S.length:Int)) <| L_ n r (S.set c.1.toNat c.2) (w (c.1+1))
   else some none
def JK (p:qm) (order:List Int) (l:List qB):Option (Int×Int) :=
 (rW p [order]).bind fun r=>match r with
 | (none,q)=>if decide (q≠0)=true then some (0,q) else none
 | (some b,q)=>if decide (q≠0)=true then some (0,q) else
   qq (p.1≠[]∧p.1.length≤1000∧l.length≤1000) <|
   (L_ p.1.length l p.1 0).bind fun o=>match o with
   | none=>some (0,3)
   | some S=>(Kj ((S,p.2),()) order).bind fun c=>if decide (0<c)=true then some (0,23) else some (l.length,0)
theorem PS {p:qm} {order:List Int} {l:List qB} {v:Int×Int} (h:JK p order l=some v):qv 19 [.agg [.av (p.1.flatMap p_) p.1.length .shared,hX p.2.1,hX p.2.2],.av (order.map hX) order.length .shared,.av (l.flatMap qx) l.length .shared] (.tuple [hX v.1,hX v.2]):=by
 unfold JK at h;obtain ⟨⟨aS,bh⟩,ai,h⟩:=p' h;refine qN eD aeh rfl (Ir (p9 rfl (p9 rfl rfl))) fun Q bo=>?_;have jG:∀ T H,HX [.tmp 6,.tmp 7] (.tuple [hX v.1,hX v.2]) .ret T H→Q .ret T H:=fun T H bD=>bo _ T H bD;unfold XU XZ XY;obtain ⟨nr,Mc⟩:∃ c,Sq=c:=⟨_,rfl⟩;rw [Mc];conv=>whnf
 refine ⟨rfl,?_⟩;conv=>whnf
 rcases aS with _ | b
 ·refine ⟨_,_,ab8 ai,?_⟩;conv=>whnf
  refine bs h (fun af h=>?_) fun af h=>?_
  ·rw [af];(conv=>whnf);obtain rfl:=Option.some.inj h;exact jG _ _ (It rfl rfl)
  ·cases h
 ·obtain ⟨rfl,rfl,_⟩:=Of ai;refine ⟨_,_,ab7 ai,?_⟩;conv=>whnf
  refine bs h (fun af h=>?_) fun af h=>?_
  ·exact absurd af (by decide)
  subst Mc;unfold Sq;obtain ⟨⟨bI,aB,ao⟩,h⟩:=rV h;obtain ⟨o,ak,h⟩:=p' h;obtain ⟨br,eP⟩:∃ c,So=c:=⟨_,rfl⟩;obtain ⟨dS,Cr⟩:∃ c,Sp=c:=⟨_,rfl⟩;unfold XX;rw [eP,Cr];conv=>whnf
  refine ⟨_,_,acn bI aB _ _,?_⟩;conv=>whnf
  have el:(l.flatMap qx).length=l.length*3:=Iy qx 3 (fun _=>rfl) _
  refine .intro (fun m T H=>∃ (i:Nat) (S:List (Int×Int)) (next:Int) (Y:List ar),i≤l.length∧m=l.length-i∧S.length=p.1.length∧L_ p.1.length (l.drop i) S next=some o ∧
   T=qf 74 [(1,.av (order.map hX) order.length .shared),(2,.av (l.flatMap qx) l.length .shared),(3,.bR [.av (p.1.flatMap p_) p.1.length .shared,hX p.2.1,hX p.2.2]),(8,.ptr 0 0),(10,hX next),(33,.av (l.flatMap qx) l.length .shared),(34,hX l.length),(35,hX i)] ∧
   H=ar.cells [.ref 1 0 p.1.length none 2,hX p.2.1,hX p.2.2,Hl]::ar.cells (S.flatMap p_)::Y) l.length ⟨0,p.1,0,[],sE _,rfl,rfl,ak,rfl,rfl⟩ ?_
  rintro m T H ⟨i,S,next,Y,hi,rfl,cl,al,rfl,rfl⟩;conv=>whnf
  refine HG (fun aR=>?_) (fun aR=>?_)
  ·(have HI:i<l.length:=by omega);rw [sV HI] at al;unfold L_ at al;obtain ⟨a,cq,al⟩:=p' al;subst eP;unfold So XV;obtain ⟨a7,cc⟩:∃ c,Sn=c:=⟨_,rfl⟩;rw [cc];(conv=>whnf);(have IC:0≤(i:Int)∧(i:Int)<(l.length:Int):=by omega);refine ⟨IC,?_⟩;rw [IY qx 3 H7 l (i:Int) IC];rw [rH HI];obtain ⟨c,RD⟩:∃ c,c=l[i]:=⟨_,rfl⟩;rw [←RD] at cq al ⊢;(conv=>whnf);refine Ew (x:=ar.cells [hX 0,hX 0,hX 0]) (by first | exact q6.h | rfl | (simp [sr,I.settle];done)) ?_
   (conv=>whnf);rw [HJ];refine Ew (x:=ar.cells [hX c.1,hX c.2.1,hX c.2.2]) (by first | exact q6.h | rfl | (simp [sr,I.settle];done)) ?_
   (conv=>whnf);refine ⟨p9 rfl (p9 rfl (p9 rfl rfl)),_,KV cq,?_⟩;(conv=>whnf);cases a with
   | false =>
     obtain rfl:=Option.some.inj (rp rfl al);(conv=>whnf);obtain rfl:=Option.some.inj h;exact jG _ _ (It rfl rfl)
   | true =>
     obtain ⟨bad,gK,al⟩:=p' (rn rfl al);(conv=>whnf);refine Ew (x:=ar.cells [hX c.1,hX c.2.1,hX c.2.2]) (by first | exact q6.h | rfl | (simp [sr,I.settle];done)) ?_
     (conv=>whnf);refine ⟨p9 rfl rfl,_,ZN gK,?_⟩;(conv=>whnf);cases bad with
     | true =>
       obtain rfl:=Option.some.inj (rn rfl al);(conv=>whnf);obtain rfl:=Option.some.inj h;exact jG _ _ (It rfl rfl)
     | false =>
       obtain ⟨jJ,al⟩:=rV (rp rfl al);(conv=>whnf);subst cc;unfold Sn;(conv=>whnf);refine Ew (x:=ar.cells [hX c.1,hX c.2.1,hX c.2.2]) (by first | exact q6.h | rfl | (simp [sr,I.settle];done)) ?_
       (conv=>whnf);refine Ew (x:=ar.cells [hX c.1,hX c.2.1,hX c.2.2]) (by first | exact q6.h | rfl | (simp [sr,I.settle];done)) ?_
       (conv=>whnf);refine ⟨_,_,fun C=>ad0 (x:=hX c.1) rfl (by kernel_rfl) (by first | exact q6.h | rfl | (simp [sr,I.settle];done)),?_⟩
       (conv=>whnf);refine ⟨by omega,?_⟩;(conv=>whnf);refine ⟨.a0,ar.cells [.ref 1 0 p.1.length none 2,hX p.2.1,hX p.2.2,Hl]::ar.cells ((S.set c.1.toNat c.2).flatMap p_)::(Y++[ar.cells [hX c.1,hX c.2.1,hX c.2.2]]),fun C=>Eq.trans (by rw [sG];exact ahE (S:=S) (i:=c.1.toNat) (id:=1) rfl (by kernel_rfl) (sE _) (by omega) rfl) rfl,?_⟩;(conv=>whnf);(have rJ:IntKind.i64.wrap ((i:Int)+1)=((i+1:Nat):Int):=by rw [HQ _ (by omega) (by omega)];omega);exact ⟨l.length-(i+1),by omega,i+1,S.set c.1.toNat c.2,w (c.1+1),_,by omega,rfl,by simpa using cl,al,by rw [rJ];rfl,rfl⟩
  ·(obtain rfl:i=l.length:=by omega);rw [uO] at al;obtain rfl:=Option.some.inj al;obtain ⟨c,ads,h⟩:=p' h;(conv=>whnf);subst Cr;unfold Sp XW;have cF:rowOf (ar.cells [.ref 1 0 p.1.length none 2,hX p.2.1,hX p.2.2,Hl]::ar.cells (S.flatMap p_)::Y) (.ref 1 0 p.1.length none 2)=some (S.flatMap p_):=YE rfl cl;have Cn:iA (ar.cells [.ref 1 0 p.1.length none 2,hX p.2.1,hX p.2.2,Hl]::ar.cells (S.flatMap p_)::Y) (.ptr 0 0)=lj ((S,p.2),()):=by
    show I.bR [ke _ (.ref 1 0 p.1.length none 2),hX p.2.1,hX p.2.2,Hl]=_;have f_:ke (ar.cells [.ref 1 0 p.1.length none 2,hX p.2.1,hX p.2.2,Hl]::ar.cells (S.flatMap p_)::Y) (.ref 1 0 p.1.length none 2)=.av (S.flatMap p_) p.1.length .shared:=by
     show (match rowOf _ (.ref 1 0 p.1.length none 2) with | some row=>I.av row p.1.length .shared | none=>.ref 1 0 p.1.length none 2)=_;rw [cF]
    rw [f_,←cl]
   (conv=>whnf);refine ⟨_,_,call6 (bs:=[lj ((S,p.2),()),.av (order.map hX) order.length .shared]) (by rw [sI,Cn];rfl) (by rw [sI,Cn];exact p9 (Ic _) (p9 (rL (fun _=>rfl) _ _ _) rfl)) (Oh ads) rfl,?_⟩;(conv=>whnf);refine bs h (fun af h=>?_) fun af h=>?_
   ·rw [af];(conv=>whnf);obtain rfl:=Option.some.inj h;exact jG _ _ (It rfl rfl)
   ·rw [af];(conv=>whnf);obtain rfl:=Option.some.inj h;exact jG _ _ (It rfl rfl)
end Go.Proofs.YtkoioidpbbbaiaaGreat.Ab


namespace Go.Proofs.YtkoioidpbbbaiaaGreat.Ab
open Go
noncomputable def Sw:gB :=
 .block 1 (rh [p3 20 [.m_ 5] (.yM 0),ql 21 20,p6 22 1,p6 23 6,rm 24 22 23 3,qJ 25 24 0,ql 26 25,p6 27 1,p6 28 6,rm 29 27 28 3,qJ 30 29 1,p3 31 [.Bs 30] (.zE (.str 2)),rm 32 21 26 2,⟨none,[.jm 32,.jm 31],none,none,.st 2⟩])
noncomputable def X':gB :=
 .seq (p5 [p6 14 6,p6 15 1,qZ 16 15,qp 17 14 16 .lss] (.cond (.m_ 17) .skip (.exit 0))) (.seq Sw (qE [p4 18 6,qV 19 18 1,p4 6 19]))
noncomputable def Ph:gB :=
 .seq (p5 [qg 6 0] (.block 0 (.loop (some (qb false [1,1,2,3,27])) X'))) (p5 [p3 33 [.Bs 5] (.zE (.str 3)),⟨none,[.m_ 4,.jm 33],none,none,.st 3⟩] .ret)
noncomputable def Ya:gB :=
 .seq (.two [p3 7 [] (.yB 0 2 [.int .i64 0,.int .i64 0] []),p3 8 [.m_ 2] (.yM 0),p3 9 [.Bs 8] (.zF .one),p3 10 [.jm 7,.jm 9] (.yt 2 16),p3 11 [.m_ 2] (.yM 1),p3 12 [.Bs 11] (.zF (.str 2)),p3 13 [.Bs 10,.Bs 12] (.build [.av [] 0 .full,.int .i64 0,.int .i64 0] [(0,1),(1,2)]),p3 5 [] (.alloc [.av [] 0 .full,.int .i64 0,.int .i64 0]),⟨none,[.m_ 5,.jm 13],none,none,.st 3⟩] [p3 7 [] (.yB 0 2 [.int .i64 0,.int .i64 0] []),p3 8 [.m_ 2] (.yM 0),p3 9 [.Bs 8] (.zF .one),p3 5 [] (.alloc [.av [] 0 .full,.int .i64 0,.int .i64 0]),p3 10 [.jm 7,.jm 9] (.yt 2 16),p3 11 [.m_ 2] (.yM 1),p3 12 [.Bs 11] (.zF (.str 2)),p3 13 [.Bs 10,.Bs 12] (.build [.av [] 0 .full,.int .i64 0,.int .i64 0] [(0,1),(1,2)]),⟨none,[.m_ 5,.jm 13],none,none,.st 3⟩]) Ph
noncomputable def X_:gB :=
 p5 [p3 2 [.jm 0] .yy,p3 4 [] (.alloc [.av [] 0 .full,.int .i64 0,.int .i64 0])] Ya
theorem aeo:qt Go.Proofs.Tryz.prog QQ 54=some (X_,34,[.cell 4 (.str 3)]):=by kernel_rfl
end Go.Proofs.YtkoioidpbbbaiaaGreat.Ab


namespace Go.Proofs.YtkoioidpbbbaiaaGreat.Ab
open Go
set_option maxRecDepth 20000
set_option maxHeartbeats 4000000
def K8:List qB→List (Int×Int)→Option (List (Int×Int))
 | [],S=>some S
 | c::r,S=>qq (0≤c.1∧c.1<(S.length:Int)) <| K8 r (S.set c.1.toNat c.2)
def Oj (p:qm) (l:List qB):Option qm :=
 qq (p.1≠[]∧p.1.length≤1000∧l.length≤1000) <| (K8 l p.1).bind fun S=>some (S,p.2)
theorem WR {p:qm} {l:List qB} {S':List (Int×Int)} (ao:l.length≤1000) (C':K8 l p.1=some S') {vid rid:Nat} {Hs:List (Int×Int)→List ar} (aQ:∀ S,∃ x,(Hs S)[0]?=some (.cells [x,hX 0,hX 0])) (ad:∀ S,(Hs S)[vid]?=some (.cells [.ref rid 0 p.1.length none 2,hX p.2.1,hX p.2.2])) (ai:∀ S,(Hs S)[rid]?=some (.cells (S.flatMap p_))) (ah:∀ S bK,(Hs S).set rid (.cells (bK.flatMap p_))=Hs bK)
  (nG:∀ (S:List (Int×Int)) (T:List I),S.length=p.1.length→dc T 4=.ptr 0 0→HX [.cell 4 (.str 3)] (.agg [.av (S.flatMap p_) S.length .shared,hX p.2.1,hX p.2.2]) .ret T ((Hs S).set 0 (.cells [.ref rid 0 p.1.length none 2,hX p.2.1,hX p.2.2])))
  {Q:cN→List I→List ar→Prop} (bo:∀ T H,HX [.cell 4 (.str 3)] (.agg [.av (S'.flatMap p_) S'.length .shared,hX p.2.1,hX p.2.2]) .ret T H→Q .ret T H) {T:List I} {v2:I} (bZ:T=qf 34 [(1,.av (l.flatMap qx) l.length .shared),(2,v2),(4,.ptr 0 0),(5,.ptr vid 0)]) :
  dN Tryz.prog QQ 54 0 none Ph T (Hs p.1) Q:=by
 subst bZ;unfold Ph X';obtain ⟨a7,cc⟩:∃ c,Sw=c:=⟨_,rfl⟩;rw [cc];conv=>whnf
 refine .intro (fun m T H=>∃ (i:Nat) (S:List (Int×Int)),i≤l.length∧m=l.length-i∧S.length=p.1.length∧K8 (l.drop i) S=some S'∧T=qf 34 [(1,.av (l.flatMap qx) l.length .shared),(4,.ptr 0 0),(5,.ptr vid 0),(6,hX i)]∧H=Hs S) l.length ⟨0,p.1,sE _,rfl,rfl,C',rfl,rfl⟩ ?_;rintro m T H ⟨i,S,hi,rfl,cl,al,rfl,rfl⟩;conv=>whnf
 refine HG (fun aR=>?_) (fun aR=>?_)
 ·have HI:i<l.length:=by omega
  rw [sV HI] at al;unfold K8 at al;obtain ⟨jJ,al⟩:=rV al;subst cc;unfold Sw;conv=>whnf
  refine Ew (ad S) ?_;conv=>whnf
  have IC:0≤(i:Int)∧(i:Int)<(l.length:Int):=by omega
  refine ⟨IC,?_⟩;rw [IY qx 3 H7 l (i:Int) IC];rw [rH HI];conv=>whnf
  refine ⟨IC,?_⟩;rw [IY qx 3 H7 l (i:Int) IC];rw [rH HI];obtain ⟨c,RD⟩:∃ c,c=l[i]:=⟨_,rfl⟩;rw [←RD] at al jJ ⊢;conv=>whnf
  refine ⟨by omega,?_⟩;conv=>whnf
  refine Ew (ai S) ?_;conv=>whnf
  rw [show 0+c.1.toNat*2=c.1.toNat*2 by omega];have pD:(S.flatMap p_).length=S.length*2:=Iy p_ 2 (fun _=>rfl) S;refine Gn (by omega) ?_;conv=>whnf
  refine Gn (by rw [List.length_set];omega) ?_;conv=>whnf
  erw [S5 S c.1.toNat c.2.1 c.2.2 (by omega),ah];have rJ:IntKind.i64.wrap ((i:Int)+1)=((i+1:Nat):Int):=by rw [HQ _ (by omega) (by omega)];omega
  exact ⟨l.length-(i+1),by omega,i+1,S.set c.1.toNat c.2,by omega,rfl,by simpa using cl,al,by rw [rJ];rfl,rfl⟩
 ·obtain rfl:i=l.length:=by omega
  rw [uO] at al;obtain rfl:=Option.some.inj al;conv=>whnf
  refine Ew (ad S) ?_;conv=>whnf
  obtain ⟨x,aj⟩:=aQ S;refine Ew aj ?_;conv=>whnf
  exact bo _ _ (nG S _ cl rfl)
theorem Vv {S:List (Int×Int)} {H:List ar} {id n d:Nat} {x y:Int} (aE:id<H.length) (ag:H[id]?=some (.cells (S.flatMap p_))) (aI:S.length=n):bL H 0 H.length 0 (d+3) (.agg [.ref id 0 n none 2,hX x,hX y])=some (.agg [.av (S.flatMap p_) n .shared,hX x,hX y]):=by
 have e1:bL H 0 H.length 0 (d+2) (.ref id 0 n none 2)=some (.av (S.flatMap p_) n .shared):=by
  show (if id<0 then some (I.ref id 0 n none 2) else if id=H.length then some (.ref 0 0 n none 2) else match rowOf H (.ref id 0 n none 2) with | some row=>(dZ (bL H 0 H.length 0 (d+1)) row).map fun cs=>.av cs n (eZ none n) | none=>none)=_;rw [if_neg (by omega),if_neg (by omega),YE ag aI];have lX:dZ (bL H 0 H.length 0 (d+1)) (S.flatMap p_)=some (S.flatMap p_):=zU fun u hu=>by
   obtain ⟨x,_,aj⟩:=tW.1 hu;simp only [p_,sy,uc,or_false] at aj;rcases aj with rfl | rfl <;> rfl
  simp only [lX,si];rfl
 show (dZ (bL H 0 H.length 0 (d+2)) [.ref id 0 n none 2,hX x,hX y]).map I.agg=_;rw [rM e1 (rM rfl (rM rfl IP))];rfl
theorem ai5 {p:qm} {l:List qB} {v:qm} (h:Oj p l=some v):qv 54 [.agg [.av (p.1.flatMap p_) p.1.length .shared,hX p.2.1,hX p.2.2],.av (l.flatMap qx) l.length .shared] (.agg [.av (v.1.flatMap p_) v.1.length .shared,hX v.2.1,hX v.2.2]):=by
 unfold Oj at h;obtain ⟨⟨bI,aB,ao⟩,h⟩:=rV h;obtain ⟨S',ak,h⟩:=p' h;obtain rfl:=Option.some.inj h;refine qN eD aeo rfl (H3 (p9 (af7 _ _ _) (p9 rfl (p9 rfl rfl)))) fun Q bo=>?_;have jG:∀ T H,HX [.cell 4 (.str 3)] (.agg [.av (S'.flatMap p_) S'.length .shared,hX p.2.1,hX p.2.2]) .ret T H→Q .ret T H:=fun T H bD=>bo _ T H bD;have pD:(p.1.flatMap p_).length=p.1.length*2:=Iy p_ 2 (fun _=>rfl) p.1;have O5:p.1.length≠0:=fun e=>bI (sT.1 e);have e1:∀ S:List (Int×Int),S.length=p.1.length→∀ T:List I,dc T 4=.ptr 0 0→HX [.cell 4 (.str 3)] (.agg [.av (S.flatMap p_) S.length .shared,hX p.2.1,hX p.2.2]) .ret T [.cells [.ref 1 0 p.1.length none 2,hX p.2.1,hX p.2.2],.cells (S.flatMap p_),.cells [.ref 1 0 p.1.length none 2,hX p.2.1,hX p.2.2]]:=fun S cl T bZ=>by
  refine ⟨.inr rfl,[.agg [.ref 1 0 p.1.length none 2,hX p.2.1,hX p.2.2]],by simp only [rZ,bZ];rfl,_,Vv (S:=S) (by simp) rfl cl,by rw [cl];rfl⟩
 have b9:∀ S:List (Int×Int),S.length=p.1.length→∀ T:List I,dc T 4=.ptr 0 0→HX [.cell 4 (.str 3)] (.agg [.av (S.flatMap p_) S.length .shared,hX p.2.1,hX p.2.2]) .ret T [.cells [.ref 2 0 p.1.length none 2,hX p.2.1,hX p.2.2],.cells [.ref 2 0 p.1.length none 2,hX p.2.1,hX p.2.2],.cells (S.flatMap p_)]:=fun S cl T bZ=>by
  refine ⟨.inr rfl,[.agg [.ref 2 0 p.1.length none 2,hX p.2.1,hX p.2.2]],by simp only [rZ,bZ];rfl,_,Vv (S:=S) (by simp) rfl cl,by rw [cl];rfl⟩
 unfold X_ Ya;obtain ⟨ajM,Ri⟩:∃ c,Ph=c:=⟨_,rfl⟩;rw [Ri];conv=>whnf
 refine ⟨rfl,?_⟩;conv=>whnf
 refine ⟨?_,?_⟩
 ·conv=>whnf
  refine ⟨pD,by omega,?_⟩;conv=>whnf
  refine ⟨rfl,by omega,?_⟩;conv=>whnf
  refine ⟨by omega,?_⟩;conv=>whnf
  rw [sG];subst Ri;refine WR ao ak (vid:=2) (rid:=1) (Hs:=fun S=>[.cells [.av [] 0 .full,hX 0,hX 0],.cells (S.flatMap p_),.cells [.ref 1 0 p.1.length none 2,hX p.2.1,hX p.2.2]]) (fun _=>⟨_,rfl⟩) (fun _=>rfl) (fun _=>rfl) (fun _ _=>rfl) (fun S T cl bZ=>e1 S cl T bZ) jG rfl
 ·conv=>whnf
  refine ⟨pD,by omega,?_⟩;conv=>whnf
  refine ⟨rfl,by omega,?_⟩;conv=>whnf
  refine ⟨by omega,?_⟩;conv=>whnf
  rw [sG];subst Ri;refine WR ao ak (vid:=1) (rid:=2) (Hs:=fun S=>[.cells [.av [] 0 .full,hX 0,hX 0],.cells [.ref 2 0 p.1.length none 2,hX p.2.1,hX p.2.2],.cells (S.flatMap p_)]) (fun _=>⟨_,rfl⟩) (fun _=>rfl) (fun _=>rfl) (fun _ _=>rfl) (fun S T cl bZ=>b9 S cl T bZ) jG rfl

abbrev ra:=Int×Int
abbrev rr:=List (Nat×ra×ra)
def ry (A:rr):List (Nat×I×I):=A.map fun a=>(a.1,.agg (p_ a.2.1),.agg (p_ a.2.2))
theorem Rc (a b:ra):gH (.agg (p_ a)) (.agg (p_ b))=some (decide (a=b)):=by
 simp only [gH,p_,dI,if_true,si,tx,Option.some.injEq];rw [Bool.eq_iff_iff];simp only [beq_iff_eq,decide_eq_true_eq,su];exact ⟨fun h=>Prod.ext h.1 h.2,fun h=>by rw [h];exact ⟨rfl,rfl⟩⟩
theorem Re {k:ra}:∀ {A:rr} {n:Nat},(∀ x∈A,k≠x.2.1)→fE (.agg (p_ k)) (ry A) n=some none
 | [],n,_=>rfl
 | a::A,n,h=>by
   simp only [ry,sI,fE,Rc];rw [decide_eq_false (h a (by simp))];exact Re (n:=n+1) fun x aj=>h x (by simp [aj])
theorem OP {k:ra} {a:Nat×ra×ra} {R:rr} (cq:a.2.1=k):∀ {A:rr} {n:Nat},(∀ x∈A,k≠x.2.1)→fE (.agg (p_ k)) (ry (A++a::R)) n=some (some (n+A.length))
 | [],n,_=>by
   simp only [uy,ry,sI,fE,Rc];rw [decide_eq_true cq.symm];rfl
 | b::A,n,h=>by
   simp only [List.cons_append,ry,sI,fE,Rc];rw [decide_eq_false (h b (by simp))];have:=OP (R:=R) cq (A:=A) (n:=n+1) fun x aj=>h x (by simp [aj]);simp only [ry] at this;show fE (.agg (p_ k)) _ (n+1)=_;rw [this,sO];congr 2;omega
theorem N6 (k:ra):∀ (A:rr),(∀ x∈A,k≠x.2.1)∨∃ L a R,A=L++a::R∧a.2.1=k∧∀ x∈L,k≠x.2.1
 | []=>.inl (by simp)
 | b::A=>by
   by_cases h:b.2.1=k
   ·exact .inr ⟨[],b,A,rfl,h,by simp⟩
   ·rcases N6 k A with ab | ⟨L,a,R,ab,ae,aF⟩
    ·refine .inl fun x aj=>?_;rcases sy.1 aj with rfl | aj
     ·exact fun e=>h e.symm
     ·exact ab x aj
    ·refine .inr ⟨b::L,a,R,by rw [ab];rfl,ae,fun x aj=>?_⟩;rcases sy.1 aj with rfl | aj
     ·exact fun e=>h e.symm
     ·exact aF x aj
def HT (s:rr×Nat) (k v:ra):rr×Nat :=
 if s.1.any (fun a=>decide (k=a.2.1))=true then (s.1.map fun a=>if k=a.2.1 then (a.1,k,v) else a,s.2) else (s.1++[(s.2,k,v)],s.2+1)
structure JO (s:rr×Nat):Prop where
 ids:(s.1.map (·.1)).Nodup
 low:∀ a∈s.1,a.1<s.2
 keys:(s.1.map (·.2.1)).Nodup
theorem Wb {L R:rr} {a:Nat×ra×ra} (h:((L++a::R).map (·.2.1)).Nodup):(∀ x∈L,a.2.1≠x.2.1)∧∀ x∈R,a.2.1≠x.2.1:=by
 rw [sR,sI] at h;obtain ⟨_,ae,aF⟩:=tZ.1 h;refine ⟨fun x aj e=>aF _ (tn aj) _ (by simp) e.symm,fun x aj e=>?_⟩;exact (tU.1 ae).1 (by rw [e];exact tn aj)
theorem W1 {s:rr×Nat} {k v:ra} (h:∀ x∈s.1,k≠x.2.1):HT s k v=(s.1++[(s.2,k,v)],s.2+1):=by
 unfold HT;rw [if_neg];rw [vM];rintro ⟨x,aj,e⟩;exact h x aj (of_decide_eq_true e)
theorem W2 {L R:rr} {a:Nat×ra×ra} {c:Nat} {v:ra} (al:((L++a::R).map (·.2.1)).Nodup):HT (L++a::R,c) a.2.1 v=(L++(a.1,a.2.1,v)::R,c):=by
 obtain ⟨ab,ae⟩:=Wb al;unfold HT;rw [if_pos (by rw [vM];exact ⟨a,by simp,decide_eq_true rfl⟩)];have key:∀ l:rr,(∀ x∈l,a.2.1≠x.2.1)→l.map (fun x=>if a.2.1=x.2.1 then (x.1,a.2.1,v) else x)=l:=fun l ao=>R2 fun x aj=>if_neg (ao x aj);show (List.map _ (L++a::R),c)=_;rw [sR,sI,key L ab,key R ae,if_pos rfl]
theorem JO.put {s:rr×Nat} (h:JO s) (k v:ra):JO (HT s k v):=by
 rcases N6 k s.1 with ab | ⟨L,a,R,ab,ae,aF⟩
 ·rw [W1 ab];refine ⟨?_,?_,?_⟩
  ·rw [sR,tZ];refine ⟨h.ids,by simp,fun x aj y aY e=>?_⟩;obtain ⟨z,bj,rfl⟩:=sH.1 aj;have:=h.low z bj;simp at aY;omega
  ·intro z bj;rcases sU.1 bj with bj | bj
   ·have:=h.low z bj;show z.1<s.2+1;omega
   ·simp at bj;subst bj;show s.2<s.2+1;omega
  ·rw [sR,tZ];refine ⟨h.keys,by simp,fun x aj y aY e=>?_⟩;obtain ⟨z,bj,rfl⟩:=sH.1 aj;simp at aY;exact ab z bj (by rw [e,aY])
 ·obtain ⟨s1,c⟩:=s;simp only at ab;subst ab ae;rw [W2 h.keys];refine ⟨?_,?_,?_⟩
  ·have:=h.ids;simpa using this
  ·intro z bj;rcases sU.1 bj with bj | bj
   ·exact h.low z (by simp [bj])
   ·rcases sy.1 bj with rfl | bj
    ·exact h.low a (by simp)
    ·exact h.low z (by simp [bj])
  ·have:=h.keys;simpa using this
theorem WZ {α:Type} (f:α→α) (x:α) (R:List α):∀ L:List α,(L++x::R).modify L.length f=L++f x::R
 | []=>rfl
 | a::L=>by
   show (a::(L++x::R)).modify (L.length+1) f=a::(L++f x::R);rw [List.modify_succ_cons,WZ f x R L]
theorem Xq {k v:ra} {s:rr×Nat} (ah:JO s) :
  (∃ i,fE (.agg (p_ k)) (ry s.1) 0=some (some i)∧(ry s.1).modify i (fun e=>(e.1,.agg (p_ k),.agg (p_ v)))=ry (HT s k v).1∧s.2=(HT s k v).2) ∨
  (fE (.agg (p_ k)) (ry s.1) 0=some none∧ry s.1++[(s.2,.agg (p_ k),.agg (p_ v))]=ry (HT s k v).1∧s.2+1=(HT s k v).2):=by
 rcases N6 k s.1 with ab | ⟨L,a,R,ab,ae,aF⟩
 ·refine .inr ⟨Re ab,?_⟩;rw [W1 ab];exact ⟨by simp [ry],rfl⟩
 ·obtain ⟨s1,c⟩:=s;simp only at ab;subst ab ae;refine .inl ⟨_,OP rfl aF,?_⟩;rw [W2 ah.keys];refine ⟨?_,rfl⟩;rw [sG];simp only [ry,sR,sI];have:=WZ (fun e:Nat×I×I=>(e.1,I.agg (p_ a.2.1),I.agg (p_ v))) (a.1,I.agg (p_ a.2.1),I.agg (p_ a.2.2)) (R.map fun a=>(a.1,I.agg (p_ a.2.1),I.agg (p_ a.2.2))) (L.map fun a=>(a.1,I.agg (p_ a.2.1),I.agg (p_ a.2.2)));rw [sZ] at this;exact this
def JC (A:rr) (k:ra):Option ra:=(A.find? fun a=>decide (k=a.2.1)).map (·.2.2)
theorem aeG (k:ra) (A:rr) :
  (∃ v i e,JC A k=some v∧fE (.agg (p_ k)) (ry A) 0=some (some i)∧(ry A)[i]?=some e∧e.2.2=.agg (p_ v))∨(JC A k=none∧fE (.agg (p_ k)) (ry A) 0=some none):=by
 rcases N6 k A with ab | ⟨L,a,R,ab,ae,aF⟩
 ·refine .inr ⟨?_,Re ab⟩;unfold JC;rw [uL.2 fun x aj=>by simpa using ab x aj];rfl
 ·subst ab ae;refine .inl ⟨a.2.2,_,(a.1,.agg (p_ a.2.1),.agg (p_ a.2.2)),?_,OP rfl aF,?_,rfl⟩
  ·unfold JC;rw [List.find?_append,uL.2 fun x aj=>by simpa using aF x aj];simp
  ·simp only [ry,sR,sI,sG];rw [sv (by simp)];simp
theorem acF {A:rr} {a:Nat×ra×ra} (al:(A.map (·.2.1)).Nodup) (cq:a∈A):∃ i,fE (.agg (p_ a.2.1)) (ry A) 0=some (some i)∧(ry A).eraseIdx i=ry (A.filter fun x=>decide (a.2.1≠x.2.1)):=by
 obtain ⟨k,VY⟩:∃ k,k=a.2.1:=⟨_,rfl⟩;rw [←VY];rcases N6 k A with ab | ⟨L,b,R,ab,ae,aF⟩
 ·exact absurd VY (ab a cq)
 ·subst ab ae;refine ⟨_,OP rfl aF,?_⟩;obtain ⟨aJ,aN⟩:=Wb al;have e1:(L++b::R).filter (fun x=>decide (b.2.1≠x.2.1))=L++R:=by
   rw [tE,uN (by simp),tS.2 fun x aj=>decide_eq_true (aJ x aj),tS.2 fun x aj=>decide_eq_true (aN x aj)]
  rw [e1,sG];simp only [ry,sR,sI];rw [List.eraseIdx_append_of_length_le (by simp)];simp
end Go.Proofs.YtkoioidpbbbaiaaGreat.Ab


namespace Go.Proofs.YtkoioidpbbbaiaaGreat.Ab
open Go
noncomputable def SN:gB :=
 .ou false [p6 44 1,p6 45 7,p6 46 6,p6 47 0,p3 48 [.Bs 47] .z4,qJ 49 48 0,qJ 50 49 1,qJ 51 50 0,ql 52 51,qp 53 46 52 .mul,qp 54 45 53 .add,qp 55 44 54 .mul,p3 56 [.Bs 55,.cv (.int .i64 0)] (.build [.int .i64 0,.int .i64 0] [(0,1),(1,1)]),⟨none,[.m_ 8,.jm 56],none,none,.st 2⟩]
noncomputable def Ps:gB :=
 p5 [p6 57 5,p3 58 [.Bs 8] (.zE (.str 2)),p6 59 7,p6 60 6,p3 61 [.Bs 59,.Bs 60] (.build [.int .i64 0,.int .i64 0] [(0,1),(1,1)]),⟨none,[.Bs 57,.Bs 58,.Bs 61],none,none,.zR (.str 2)⟩] (p5 [p6 62 1,qu 63 62 0 .eql] (.cond (.m_ 63) (.exit 0) .skip))
noncomputable def SS:gB :=
 .seq (.seq (rh [p6 31 0,p3 32 [.Bs 31] .z4,qJ 33 32 0,qJ 34 33 1,qJ 35 34 0,ql 36 35,p6 37 0,p3 38 [.Bs 37] .z4,qJ 39 38 0,qJ 40 39 1,qJ 41 40 1,ql 42 41,qp 43 36 42 .eql]) (.cond (.m_ 43) SN .skip)) Ps
noncomputable def Pt:gB :=
 .block 3 (p5 [p6 24 1,p6 25 7,qp 26 24 25 .mul,p6 27 1,p6 28 6,qp 29 27 28 .mul,p3 30 [.Bs 26,.Bs 29] (.build [.int .i64 0,.int .i64 0] [(0,1),(1,1)]),p3 8 [] (.alloc [.int .i64 0,.int .i64 0]),⟨none,[.m_ 8,.jm 30],none,none,.st 2⟩] SS)
noncomputable def Yn:gB :=
 .seq (p5 [p6 20 7,qu 21 20 100 .leq] (.cond (.m_ 21) .skip (.exit 2))) (.seq Pt (qE [p4 22 7,qV 23 22 1,p4 7 23]))
noncomputable def Pu:gB :=
 .loop (some (qb false [0,2,3,3,115])) Yn
noncomputable def Yo:gB :=
 .block 1 (p5 [qg 7 0] (.block 2 Pu))
noncomputable def Yp:gB :=
 .seq (p5 [p6 16 6,qu 17 16 10 .leq] (.cond (.m_ 17) .skip (.exit 0))) (.seq Yo (qE [p4 18 6,qV 19 18 1,p4 6 19]))
noncomputable def SU:gB :=
 .ou false [p4 95 10,p6 96 9,qJ 97 12 0,ql 98 97,p6 99 13,p4 100 13,p3 101 [.Bs 100] (.un .neg),p3 102 [.jm 98,.jm 99,.jm 101] .max,qp 103 96 102 .mul,qp 104 95 103 .add,p4 10 104]
noncomputable def SV:gB :=
 .seq (rh [p3 83 [.m_ 12] (.yM 0),ql 84 83,p3 85 [.m_ 12] (.yM 1),ql 86 85,p6 87 0,p3 88 [.Bs 87] .z4,qJ 89 88 0,qJ 90 89 1,qJ 91 90 0,ql 92 91,qp 93 86 92 .mul,qp 94 84 93 .add,p4 13 94]) SU
noncomputable def Yl:gB :=
 .block 5 (p5 [p3 81 [.m_ 77,.m_ 79] (.kV 2),p3 82 [.Bs 81] (.zE (.str 2)),p3 12 [] (.alloc [.int .i64 0,.int .i64 0]),⟨none,[.m_ 12,.jm 82],none,none,.st 2⟩] SV)
noncomputable def SP:gB :=
 p5 [p6 112 10,p3 113 [.Bs 112] (.un .neg),p6 114 10,p3 115 [.m_ 14] (.yM 0),ql 116 115,p3 117 [.Bs 116] (.yB 1 1 [.int .i64 0] [0]),p3 118 [.cv (.func 50 [] []),.m_ 113,.m_ 114,.m_ 117] (.call 3),p3 119 [.Bs 118] (.un .not)] (.cond (.m_ 119) (qE [p6 120 5,p3 121 [.Bs 14] (.zE (.str 2)),⟨none,[.jm 120,.jm 121],none,none,.zP (.str 2)⟩]) .skip)
noncomputable def SQ:gB :=
 .block 7 (p5 [p3 110 [.m_ 107] .yH,p3 111 [.Bs 110] (.ext 0),p3 14 [] (.alloc [.int .i64 0,.int .i64 0]),⟨none,[.m_ 14,.jm 111],none,none,.st 2⟩] SP)
noncomputable def Yq:gB :=
 .loop (some (qb false [5,1,4,1,96,1,15])) (.seq (.z6 107 (some 108) [p3 109 [.Bs 108] (.ext 0)]) (.seq (.cond (.m_ 109) .skip (.exit 6)) SQ))
noncomputable def Pr:gB :=
 .seq (p5 [p6 106 5,p3 107 [.Bs 106] .AN] (.block 6 Yq)) (p5 [p4 122 5,p4 4 122] .ret)
noncomputable def Pv:gB :=
 .loop (some (qb false [0,1,4,1,3,2,66,3,43])) (p5 [p3 80 [.m_ 79,.m_ 78] (.bin .lss)] (.seq (.cond (.m_ 80) .skip (.exit 4)) (.seq Yl (qE [qV 105 79 1,p4 79 105]))))
noncomputable def Ym:gB :=
 .seq (p5 [p6 73 0,p3 74 [.Bs 73] .z4,qJ 75 74 0,qJ 76 75 0,ql 77 76,p3 78 [.m_ 77] .zJ,qg 79 0] (.block 4 Pv)) Pr
noncomputable def SR:gB :=
 p5 [p6 64 0,p6 65 0,p3 66 [.Bs 65] .z4,qJ 67 66 0,qJ 68 67 0,ql 69 68,qZ 70 69,qu 71 70 1 .sub,p3 72 [.cv (.func 77 [] []),.m_ 64,.m_ 71] (.call 3),p4 9 72] (p5 [qg 10 0] Ym)
noncomputable def Pw:gB :=
 .loop (some (qb false [0,2,3,2,116])) Yp
noncomputable def Yk:gB :=
 p5 [p3 4 [.cv .a0] .mR] (p5 [p3 15 [] .zZ,p4 5 15] (.seq .skip (.seq (p5 [qg 6 (-10)] (.block 0 Pw)) SR)))
theorem aes:qt Go.Proofs.Tryz.prog K6 81=some (Yk,123,[.tmp 4]):=by kernel_rfl
end Go.Proofs.YtkoioidpbbbaiaaGreat.Ab


namespace Go.Proofs.YtkoioidpbbbaiaaGreat.Ab
open Go
set_option maxRecDepth 20000
set_option maxHeartbeats 4000000
def IL (f:Int→Bool) (A:rr) (seen:List Nat):rr:=A.filter fun a=>!(decide (a.1∈seen)) || f a.2.1.1
theorem ad6 (f:Int→Bool) (A:rr):IL f A []=A:=by
 unfold IL;exact tS.2 fun a _=>by simp
theorem ad2 {f:Int→Bool} {A:rr} {seen:List Nat} (h:∀ a∈IL f A seen,a.1∈seen):IL f A seen=A.filter fun a=>f a.2.1.1:=by
 unfold IL;refine uq fun a cq=>?_;by_cases ah:a.1∈seen
 ·simp [ah]
 ·cases aP:f a.2.1.1 with
  | true=>simp
  | false =>
    exfalso;exact ah (h a (tc.2 ⟨cq,by simp [ah]⟩))
theorem NK {α β:Type} {g:α→β}:∀ {l:List α},(l.map g).Nodup→∀ {x y:α},x∈l→y∈l→g x=g y→x=y
 | [],_,x,y,aj,_,_=>absurd aj (by simp)
 | a::l,h,x,y,aj,aY,e=>by
   obtain ⟨ab,ae⟩:=tU.1 h;rcases sy.1 aj with aF | aF
   ·rcases sy.1 aY with ba | ba
    ·rw [aF,ba]
    ·exact absurd (by rw [←aF,e];exact tn ba) ab
   ·rcases sy.1 aY with ba | ba
    ·exact absurd (by rw [←ba,←e];exact tn aF) ab
    ·exact NK ae aF ba e
theorem ad4 {f:Int→Bool} {A:rr} {c:Nat} {seen:List Nat} {a:Nat×ra×ra} (aL:JO (A,c)) (cq:a∈A) (aP:f a.2.1.1=true):IL f A (seen++[a.1])=IL f A seen:=by
 unfold IL;refine uq fun x aj=>?_;by_cases e:x.1=a.1
 ·have:=NK aL.ids aj cq e;subst this;simp [aP]
 ·simp [e]
theorem ad3 {f:Int→Bool} {A:rr} {c:Nat} {seen:List Nat} {a:Nat×ra×ra} (aL:JO (A,c)) (cq:a∈A) (aP:f a.2.1.1=false):IL f A (seen++[a.1])=(IL f A seen).filter fun x=>decide (a.2.1≠x.2.1):=by
 unfold IL;rw [uH];refine uq fun x aj=>?_;by_cases e:x.1=a.1
 ·have:=NK aL.ids aj cq e;subst this;simp [aP]
 ·have:a.2.1≠x.2.1:=fun b9=>e (by rw [NK aL.keys aj cq b9.symm])
  simp [e,this]
theorem ad5 {f:Int→Bool} {A:rr} {c:Nat} {seen:List Nat} (aL:JO (A,c)):((IL f A seen).map (·.2.1)).Nodup:=aL.keys.sublist (List.filter_sublist.map _)
theorem Vk:∀ {A:rr} {a:Nat×ra×ra},(A.map (·.1)).Nodup→a∈A→(ry A).find? (fun e=>e.1 == a.1)=some (a.1,.agg (p_ a.2.1),.agg (p_ a.2.2))
 | [],a,_,h=>absurd h (by simp)
 | b::A,a,aI,h=>by
   obtain ⟨ab,ae⟩:=tU.1 aI;simp only [ry,sI,List.find?_cons];by_cases e:b.1=a.1
   ·rw [NK aI (by simp) h e];simp
   ·have:(b.1 == a.1)=false:=by simpa using e
    rw [this];rcases sy.1 h with aF | aF
    ·exact absurd (by rw [aF]) e
    ·exact Vk ae aF
theorem Vc:∀ {A:rr} {seen:List Nat} {a:Nat×ra×ra},(A.map (·.1)).Nodup→a∈A→a.1 ∉ seen→(A.filter fun x=>!(decide (x.1∈seen++[a.1]))).length+1=(A.filter fun x=>!(decide (x.1∈seen))).length
 | [],_,_,_,h,_=>absurd h (by simp)
 | b::A,seen,a,aI,cq,ah=>by
   obtain ⟨ab,ae⟩:=tU.1 aI;by_cases e:b.1=a.1
   ·have b9:A.filter (fun x=>!(decide (x.1∈seen++[a.1])))=A.filter fun x=>!(decide (x.1∈seen)):=uq fun x aj=>by
     have:x.1≠a.1:=fun h=>ab (show b.1∈A.map (·.1) by rw [e,←h];exact tn aj)
     simp [this]
    rw [uN (by simp [e]),vn (by simp [e,ah]),b9,sO]
   ·have adh:a∈A:=by
     rcases sy.1 cq with h | h
     ·exact absurd (by rw [h]) e
     ·exact h
    have a8:=Vc ae adh ah;by_cases af:b.1∈seen
    ·rw [uN (by simp [af]),uN (by simp [af])];exact a8
    ·rw [vn (by simp [af,e]),vn (by simp [af]),sO,sO];omega
theorem ahj {A:rr} {c:Nat} (aL:JO (A,c)) {f:Int→Bool} {most:Int} (aP:∀ a∈A,IQ (w (-most)) most [a.2.1.1]=some (f a.2.1.1)) {Y:List ar} {v0 v1 PK ahT PI ahU PJ:I} {Q:cN→List I→List ar→Prop}
  (bo:∀ T qS,qS.length=Y.length+1+A.length→dc T 4=.map 0→Q .ret T (.map (ry (A.filter fun a=>f a.2.1.1)) c::qS)):dN Tryz.prog K6 81 0 none Pr (qf 123 [(0,v0),(1,v1),(5,.map 0),(9,PK),(10,hX most),(77,ahT),(78,PI),(79,ahU),(80,PJ)]) (.map (ry A) c::Y) Q:=by
 unfold Pr Yq;obtain ⟨ajJ,Vx⟩:∃ c,SQ=c:=⟨_,rfl⟩;rw [Vx];conv=>whnf
 refine ⟨_,_,rfl,?_⟩;conv=>whnf
 refine .intro (fun m T H=>∃ (seen:List Nat) (Z:List ar),Z.length+(A.filter fun a=>!(decide (a.1∈seen))).length=A.length∧m=(A.filter fun a=>!(decide (a.1∈seen))).length∧T=qf 123 [(5,.map 0),(10,hX most),(107,.ptr (Y.length+1) 0)]∧H=(.map (ry (IL f A seen)) c::Y)++(.iter 0 c seen c::Z)) _ ⟨[],[],by simp [tS.2],rfl,rfl,by rw [ad6]⟩ ?_;rintro m T H ⟨seen,Z,Kz,rfl,rfl,rfl⟩;conv=>whnf
 have ai:∀ (e:ar) (s:List Nat) (Z:List ar),((e::Y)++(.iter 0 c s c::Z))[Y.length+1]?=some (.iter 0 c s c):=fun e s Z=>by
  rw [sv (by simp)];simp
 refine ⟨0,c,seen,c,_,ai _ _ _,rfl,se _,?_,?_,?_⟩
 ·intro e he;obtain ⟨a,cq,rfl⟩:=sH.1 he;exact aL.low a (tc.1 cq).1
 ·intro cY;conv=>whnf
  rw [ad2 fun a cq=>cY _ (tn cq)];refine bo _ (Y++(.iter 0 c seen c::Z)) ?_ rfl
  have f_:(A.filter fun a=>!(decide (a.1∈seen))).length=0:=sT.2 (List.filter_eq_nil_iff.2 fun a cq ah=>by
   have hh:a.1 ∉ seen:=by simpa using ah
   exact hh (cY _ (tn (f:=fun a:Nat×ra×ra=>(a.1,I.agg (p_ a.2.1),I.agg (p_ a.2.2))) (tc.2 ⟨cq,by simp [hh]⟩))))
  simp;omega
 ·intro e he adN;obtain ⟨a,cq,rfl⟩:=sH.1 he;have hc:a∈A:=(tc.1 cq).1;have eE:∀ (e:ar) (x y:ar),((e::Y)++(x::Z)).set (Y.length+1) y=(e::Y)++(y::Z):=fun e x y=>by
   rw [vj _ _ (by simp)];simp
  conv=>whnf
  rw [eE];subst Vx;unfold SQ;obtain ⟨ajI,Vw⟩:∃ c,SP=c:=⟨_,rfl⟩;rw [Vw];conv=>whnf
  have adx:(ry (IL f A seen)).find? (fun e=>e.1 == a.1)=some (a.1,.agg (p_ a.2.1),.agg (p_ a.2.2)):=Vk (aL.ids.sublist (List.filter_sublist.map _)) cq;refine ⟨0,c,seen++[a.1],c,a.1,_,_,ai _ _ _,by simp,rfl,adx,?_⟩;conv=>whnf
  refine Ew (x:=ar.cells [hX 0,hX 0]) (by first | exact q6.h | rfl | (simp [sr,I.settle];done)) ?_
  conv=>whnf
  rw [HJ];subst Vw;unfold SP;conv=>whnf
  refine Ew (x:=ar.cells [hX a.2.1.1,hX a.2.1.2]) (by first | exact q6.h | rfl | (simp [sr,I.settle];done)) ?_
  conv=>whnf
  refine ⟨p9 rfl (p9 rfl (p9 rfl rfl)),_,KV (aP a hc),?_⟩;conv=>whnf
  have ajZ:(A.filter fun x=>!(decide (x.1∈seen++[a.1]))).length+1=(A.filter fun x=>!(decide (x.1∈seen))).length:=Vc aL.ids hc adN;have GM:(A.filter fun x=>!(decide (x.1∈seen++[a.1]))).length<(A.filter fun x=>!(decide (x.1∈seen))).length:=by omega
  have VP:∀ o,(Z++[o]).length+(A.filter fun x=>!(decide (x.1∈seen++[a.1]))).length=A.length:=fun o=>by rw [sD,List.length_singleton];omega
  cases VV:f a.2.1.1 with
  | true =>
    (conv=>whnf);exact ⟨_,GM,seen++[a.1],Z++[.cells [hX a.2.1.1,hX a.2.1.2]],VP _,rfl,rfl,by rw [ad4 aL hc VV];simp;exact ⟨rfl,rfl⟩⟩
  | false =>
    (conv=>whnf);refine Ew (x:=ar.cells [hX a.2.1.1,hX a.2.1.2]) (by first | exact q6.h | rfl | (simp [sr,I.settle];done)) ?_
    (conv=>whnf);obtain ⟨acG,adt,adu⟩:=acF (ad5 (f:=f) (seen:=seen) aL) cq;refine ⟨rfl,_,_,rfl,some acG,adt,?_⟩;(conv=>whnf);rw [adu];exact ⟨_,GM,seen++[a.1],Z++[.cells [hX a.2.1.1,hX a.2.1.2]],VP _,rfl,rfl,by rw [ad3 aL hc VV];simp;exact ⟨rfl,rfl⟩⟩
def Ji (far lo:Int):List ra→Int→Int
 | [],n=>n
 | s::r,n=>Ji far lo r (w (n+w (far*max (max s.1 (w (s.1+w (s.2*lo)))) (w (-(w (s.1+w (s.2*lo))))))))
theorem afK {b:((List (Int×Int))×(Int×Int))×Unit} (af:b.1.1.length≤1000) {r1:ar} {far:Int} {Y:List ar} {T:List I} {Q:cN→List I→List ar→Prop}
  (bZ:eW [true,false,false,false,false,true,false,false,false,true,true,false,false,false,false,false,false,false,false,false,false,false,false,false,false,false,false,false,false,false,false,false,false,false,false,false,false,false,false,false,false,false,false,false,false,false,false,false,false,false,false,false,false,false,false,false,false,false,false,false,false,false,false,false,false,false,false,false,false,false,false,false,false,false,false,false,false,true,true,true,false,false,false,false,false,false,false,false,false,false,false,false,false,false,false,false,false,false,false,false,false,false,false,false,false,false,false,false,false,false,false,false,false,false,false,false,false,false,false,false,false,false,false] T=qf 123 [(0,lj b),(5,.map 0),(9,hX far),(10,hX 0),(77,.av (b.1.1.flatMap p_) b.1.1.length .shared),(78,hX b.1.1.length),(79,hX 0)])
  (bo:∀ qS PJ,qS.length=Y.length+b.1.1.length→Q (.exit 4) (qf 123 [(0,lj b),(5,.map 0),(9,hX far),(10,hX (Ji far b.1.2.1 b.1.1 0)),(77,.av (b.1.1.flatMap p_) b.1.1.length .shared),(78,hX b.1.1.length),(79,hX b.1.1.length),(80,PJ)]) (r1::qS)):dN Tryz.prog K6 81 0 none Pv T (r1::Y) Q:=by
 unfold Pv;refine wp_loop bZ ?_;refine .intro (fun m T H=>∃ (i:Nat) (n:Int) (qS:List ar),i≤b.1.1.length∧qS.length=Y.length+i∧m=b.1.1.length-i∧Ji far b.1.2.1 (b.1.1.drop i) n=Ji far b.1.2.1 b.1.1 0∧T=qf 123 [(0,lj b),(5,.map 0),(9,hX far),(10,hX n),(77,.av (b.1.1.flatMap p_) b.1.1.length .shared),(78,hX b.1.1.length),(79,hX i)]∧H=r1::qS) _ ⟨0,0,Y,sE _,rfl,rfl,rfl,rfl,rfl⟩ ?_;clear bZ;rintro m T H ⟨i,n,TZ,hi,adf,rfl,hm,rfl,rfl⟩;conv=>whnf
 refine HG (fun aR=>?_) (fun aR=>?_)
 ·have HI:i<b.1.1.length:=by omega
  have IC:0≤(i:Int)∧(i:Int)<(b.1.1.length:Int):=by omega
  rw [sV HI] at hm;unfold Yl;obtain ⟨B9,K_⟩:∃ c,SV=c:=⟨_,rfl⟩;rw [K_];conv=>whnf
  refine ⟨IC,?_⟩;rw [IY p_ 2 Lo b.1.1 (i:Int) IC,rH HI];obtain ⟨s,ah⟩:∃ s,s=b.1.1[i]:=⟨_,rfl⟩;rw [←ah] at hm ⊢;conv=>whnf
  refine Ew (x:=ar.cells [hX 0,hX 0]) (by first | exact q6.h | rfl | (simp [sr,I.settle];done)) ?_
  conv=>whnf
  rw [HJ];subst K_;unfold SV;obtain ⟨ns,Jv⟩:∃ c,SU=c:=⟨_,rfl⟩;rw [Jv];conv=>whnf
  refine Ew (x:=ar.cells [hX s.1,hX s.2]) (by first | exact q6.h | rfl | (simp [sr,I.settle];done)) ?_
  conv=>whnf
  refine Ew (x:=ar.cells [hX s.1,hX s.2]) (by first | exact q6.h | rfl | (simp [sr,I.settle];done)) ?_
  conv=>whnf
  subst Jv;unfold SU;conv=>whnf
  refine Ew (x:=ar.cells [hX s.1,hX s.2]) (by first | exact q6.h | rfl | (simp [sr,I.settle];done)) ?_
  conv=>whnf
  have rJ:IntKind.i64.wrap ((i:Int)+1)=((i+1:Nat):Int):=by rw [HQ _ (by omega) (by omega)];omega
  exact ⟨b.1.1.length-(i+1),by omega,i+1,_,_,by omega,by simp;omega,rfl,hm,by rw [rJ];rfl,rfl⟩
 ·obtain rfl:i=b.1.1.length:=by omega
  rw [uO] at hm;obtain rfl:n=Ji far b.1.2.1 b.1.1 0:=hm;conv=>whnf
  exact bo _ _ (by omega)

def H0 (lo hi x m p:Int):ra:=if lo=hi then (w (x*w (p+w (m*lo))),0) else (w (x*p),w (x*m))
def Hk (lo hi x:Int):Nat→rr×Nat
 | 0=>([],0)
 | t+1=>HT (Hk lo hi x t) (H0 lo hi x ((t / 101:Nat)-10) ((t % 101:Nat))) ((t % 101:Nat),(t / 101:Nat)-10)
theorem S7 (lo hi x:Int):∀ t,JO (Hk lo hi x t)
 | 0=>⟨by simp [Hk],by simp [Hk],by simp [Hk]⟩
 | t+1=>(S7 lo hi x t).put _ _
abbrev KD (s:rr×Nat):ar:=.map (ry s.1) s.2
theorem ab0 {b:((List (Int×Int))×(Int×Int))×Unit} {x m p:Int} {s:rr×Nat} (ah:JO s) {Y:List ar} {JH:I} {Q:cN→List I→List ar→Prop}
  (bo:∀ qS KH KI,qS.length=Y.length+1→Q (if x=0 then .exit 0 else .normal) (qf 123 [(0,lj b),(1,hX x),(5,.map 0),(6,hX m),(7,hX p),(21,JH),(43,KH),(63,KI)]) (KD (HT s (H0 b.1.2.1 b.1.2.2 x m p) (p,m))::qS)) :
  dN Tryz.prog K6 81 0 none Pt (qf 123 [(0,lj b),(1,hX x),(5,.map 0),(6,hX m),(7,hX p),(21,JH)]) (KD s::Y) Q:=by
 unfold Pt;obtain ⟨br,eP⟩:∃ c,SS=c:=⟨_,rfl⟩;rw [eP];conv=>whnf
 refine Ew (x:=ar.cells [hX 0,hX 0]) (by first | exact q6.h | rfl | (simp [sr,I.settle];done)) ?_
 conv=>whnf
 rw [HJ];subst eP;unfold SS;obtain ⟨a7,cc⟩:∃ c,SN=c:=⟨_,rfl⟩;obtain ⟨a9,b_⟩:∃ c,Ps=c:=⟨_,rfl⟩;rw [cc,b_];conv=>whnf
 by_cases a1:b.1.2.1=b.1.2.2
 ·rw [decide_eq_true a1];conv=>whnf
  subst cc;unfold SN;conv=>whnf
  refine Ew (x:=ar.cells [hX (w (x*p)),hX (w (x*m))]) (by first | exact q6.h | rfl | (simp [sr,I.settle];done)) ?_
  conv=>whnf
  rw [HJ];conv=>whnf
  subst b_;unfold Ps;conv=>whnf
  refine Ew (x:=ar.cells [hX (w (x*w (p+w (m*b.1.2.1)))),hX 0]) (by first | exact q6.h | rfl | (simp [sr,I.settle];done)) ?_
  conv=>whnf
  have hM:H0 b.1.2.1 b.1.2.2 x m p=((w (x*w (p+w (m*b.1.2.1)))),0):=by unfold H0;rw [if_pos a1]
  rw [hM] at bo;rcases Xq (k:=((w (x*w (p+w (m*b.1.2.1)))),0)) (v:=(p,m)) ah with ⟨i,ab,ae,aF⟩ | ⟨ab,ae,aF⟩
  ·refine ⟨rfl,_,_,rfl,some i,ab,?_⟩;(conv=>whnf);erw [ae,aF];by_cases aj:x=0
   ·rw [if_pos aj] at bo;rw [decide_eq_true aj];(conv=>whnf);exact bo _ _ _ (by simp)
   ·rw [if_neg aj] at bo;rw [decide_eq_false aj];(conv=>whnf);exact bo _ _ _ (by simp)
  ·refine ⟨rfl,_,_,rfl,none,ab,?_⟩;(conv=>whnf);erw [ae,aF];by_cases aj:x=0
   ·rw [if_pos aj] at bo;rw [decide_eq_true aj];(conv=>whnf);exact bo _ _ _ (by simp)
   ·rw [if_neg aj] at bo;rw [decide_eq_false aj];(conv=>whnf);exact bo _ _ _ (by simp)
 ·rw [decide_eq_false a1];conv=>whnf
  subst b_;unfold Ps;conv=>whnf
  refine Ew (x:=ar.cells [hX (w (x*p)),hX (w (x*m))]) (by first | exact q6.h | rfl | (simp [sr,I.settle];done)) ?_
  conv=>whnf
  have hM:H0 b.1.2.1 b.1.2.2 x m p=((w (x*p)),(w (x*m))):=by unfold H0;rw [if_neg a1]
  rw [hM] at bo;rcases Xq (k:=((w (x*p)),(w (x*m)))) (v:=(p,m)) ah with ⟨i,ab,ae,aF⟩ | ⟨ab,ae,aF⟩
  ·refine ⟨rfl,_,_,rfl,some i,ab,?_⟩;(conv=>whnf);erw [ae,aF];by_cases aj:x=0
   ·rw [if_pos aj] at bo;rw [decide_eq_true aj];(conv=>whnf);exact bo _ _ _ (by simp)
   ·rw [if_neg aj] at bo;rw [decide_eq_false aj];(conv=>whnf);exact bo _ _ _ (by simp)
  ·refine ⟨rfl,_,_,rfl,none,ab,?_⟩;(conv=>whnf);erw [ae,aF];by_cases aj:x=0
   ·rw [if_pos aj] at bo;rw [decide_eq_true aj];(conv=>whnf);exact bo _ _ _ (by simp)
   ·rw [if_neg aj] at bo;rw [decide_eq_false aj];(conv=>whnf);exact bo _ _ _ (by simp)
theorem adS {b:((List (Int×Int))×(Int×Int))×Unit} {x:Int} {a:Nat} (cq:a≤20) (adQ:x=0→a=0) {Y:List ar} {T:List I} {Q:cN→List I→List ar→Prop}
  (bZ:eW [true,true,false,false,false,true,true,true,false,false,false,false,false,false,false,false,false,false,false,false,false,false,false,false,false,false,false,false,false,false,false,false,false,false,false,false,false,false,false,false,false,false,false,false,false,false,false,false,false,false,false,false,false,false,false,false,false,false,false,false,false,false,false,false,false,false,false,false,false,false,false,false,false,false,false,false,false,false,false,false,false,false,false,false,false,false,false,false,false,false,false,false,false,false,false,false,false,false,false,false,false,false,false,false,false,false,false,false,false,false,false,false,false,false,false,false,false,false,false,false,false,false,false] T=qf 123 [(0,lj b),(1,hX x),(5,.map 0),(6,hX ((a:Nat)-10)),(7,hX 0)])
  (ac6:x=0→a=0→∀ qS JI JH KH KI,qS.length=Y.length+1→Q (.exit 0) (qf 123 [(0,lj b),(1,hX x),(5,.map 0),(6,hX ((a:Nat)-10)),(7,JI),(21,JH),(43,KH),(63,KI)]) (KD (Hk b.1.2.1 b.1.2.2 x 1)::qS))
  (bo:x≠0→∀ qS JI JH,qS.length=Y.length+101→Q (.exit 2) (qf 123 [(0,lj b),(1,hX x),(5,.map 0),(6,hX ((a:Nat)-10)),(7,JI),(21,JH)]) (KD (Hk b.1.2.1 b.1.2.2 x ((a+1)*101))::qS)) :
  dN Tryz.prog K6 81 0 none Pu T (KD (Hk b.1.2.1 b.1.2.2 x (a*101))::Y) Q:=by
 unfold Pu;refine wp_loop bZ ?_;refine .intro (fun m T H=>∃ (q:Nat) (qS:List ar),q≤101∧qS.length=Y.length+q∧(x=0→q=0)∧m=101-q∧T=qf 123 [(0,lj b),(1,hX x),(5,.map 0),(6,hX ((a:Nat)-10)),(7,hX q)]∧H=KD (Hk b.1.2.1 b.1.2.2 x (a*101+q))::qS) _ ⟨0,Y,sE _,rfl,fun _=>rfl,rfl,rfl,rfl⟩ ?_;clear bZ;rintro m T H ⟨q,TZ,a_,adf,O6,rfl,rfl,rfl⟩;unfold Yn;obtain ⟨b5,iM⟩:∃ c,Pt=c:=⟨_,rfl⟩;rw [iM];conv=>whnf
 refine HG (fun aR=>?_) (fun aR=>?_)
 ·conv=>whnf
  subst iM;have cG:HT (Hk b.1.2.1 b.1.2.2 x (a*101+q)) (H0 b.1.2.1 b.1.2.2 x ((a:Nat)-10) (q:Nat)) ((q:Nat),(a:Nat)-10)=Hk b.1.2.1 b.1.2.2 x (a*101+(q+1)):=by
   show _=HT (Hk b.1.2.1 b.1.2.2 x (a*101+q)) (H0 b.1.2.1 b.1.2.2 x (((a*101+q) / 101:Nat)-10) (((a*101+q) % 101:Nat))) ((((a*101+q) % 101:Nat):Int),(((a*101+q) / 101:Nat):Int)-10);rw [show (a*101+q) / 101=a by omega,show (a*101+q) % 101=q by omega]
  refine ab0 (S7 _ _ _ _) fun aa3 KH KI adg=>?_;rw [cG];by_cases aj:x=0
  ·rw [if_pos aj];have ab:=adQ aj;have ae:=O6 aj;subst ab ae;(conv=>whnf);exact ac6 aj rfl _ _ _ _ _ (by omega)
  ·rw [if_neg aj];(conv=>whnf);(have rJ:IntKind.i64.wrap ((q:Int)+1)=((q+1:Nat):Int):=by rw [HQ _ (by omega) (by omega)];omega);exact ⟨101-(q+1),by omega,q+1,_,by omega,by omega,fun h=>absurd h aj,rfl,by rw [rJ];rfl,rfl⟩
 ·have adO:q=101:=by omega
  subst adO;have aj:x≠0:=fun h=>absurd (O6 h) (by decide);conv=>whnf
  rw [show a*101+101=(a+1)*101 by omega];exact bo aj _ _ _ (by omega)
theorem afV {b:((List (Int×Int))×(Int×Int))×Unit} {x:Int} {T:List I} {Q:cN→List I→List ar→Prop}
  (bZ:eW [true,true,false,false,false,true,true,false,false,false,false,false,false,false,false,false,false,false,false,false,false,false,false,false,false,false,false,false,false,false,false,false,false,false,false,false,false,false,false,false,false,false,false,false,false,false,false,false,false,false,false,false,false,false,false,false,false,false,false,false,false,false,false,false,false,false,false,false,false,false,false,false,false,false,false,false,false,false,false,false,false,false,false,false,false,false,false,false,false,false,false,false,false,false,false,false,false,false,false,false,false,false,false,false,false,false,false,false,false,false,false,false,false,false,false,false,false,false,false,false,false,false,false] T=qf 123 [(0,lj b),(1,hX x),(5,.map 0),(6,hX (-10))])
  (bo:∀ Y v6 JI Zb JH KH KI,Y.length=(if x=0 then 1 else 2121)→Q (.exit 0) (qf 123 [(0,lj b),(1,hX x),(5,.map 0),(6,v6),(7,JI),(17,Zb),(21,JH),(43,KH),(63,KI)]) (KD (Hk b.1.2.1 b.1.2.2 x (if x=0 then 1 else 2121))::Y)) :
  dN Tryz.prog K6 81 0 none Pw T [.map [] 0] Q:=by
 unfold Pw;refine wp_loop bZ ?_;refine .intro (fun m T H=>∃ (a:Nat) (Y:List ar),a≤21∧Y.length=a*101∧(x=0→a=0)∧m=21-a∧T=qf 123 [(0,lj b),(1,hX x),(5,.map 0),(6,hX ((a:Nat)-10))]∧H=KD (Hk b.1.2.1 b.1.2.2 x (a*101))::Y) _ ⟨0,[],sE _,rfl,fun _=>rfl,rfl,rfl,rfl⟩ ?_;clear bZ;rintro m T H ⟨a,Y,cq,adb,VQ,rfl,rfl,rfl⟩;unfold Yp Yo;obtain ⟨b5,iM⟩:∃ c,Pu=c:=⟨_,rfl⟩;rw [iM];conv=>whnf
 refine HG (fun aR=>?_) (fun aR=>?_)
 ·conv=>whnf
  subst iM;refine adS (a:=a) (by omega) VQ (by exact rfl) (fun aj aQ Y JI JH KH KI ade=>?_) (fun aj Y JI JH ade=>?_)
  ·(conv=>whnf);have:=bo Y;rw [if_pos aj] at this;exact this _ _ _ _ _ _ (by subst aQ;omega)
  ·(conv=>whnf);(have rJ:IntKind.i64.wrap (((a:Nat):Int)-10+1)=((a+1:Nat):Int)-10:=by rw [HQ _ (by omega) (by omega)];omega);exact ⟨21-(a+1),by omega,a+1,_,by omega,by omega,fun h=>absurd h aj,rfl,by rw [rJ];rfl,rfl⟩
 ·have adi:a=21:=by omega
  subst adi;have aj:x≠0:=fun h=>absurd (VQ h) (by decide);conv=>whnf
  have:=bo Y;rw [if_neg aj] at this;exact this _ _ _ _ _ _ (by omega)
theorem Nj:∃ m,qh=m+2:=⟨qh-2,rfl⟩
theorem MY (lo hi n:Int):IQ lo hi [n]=some (decide (lo≤n) && decide (n≤hi)):=by
 obtain ⟨m,hm⟩:=Nj;have acZ:LW n lo hi=some (!(decide (lo≤n) && decide (n≤hi))):=by
  unfold LW;by_cases ab:n<lo
  ·rw [if_pos (decide_eq_true ab),decide_eq_false (show ¬ lo≤n by omega)];rfl
  ·rw [if_neg (by simpa using ab),decide_eq_true (show lo≤n by omega)];by_cases ae:hi<n
   ·rw [decide_eq_true ae,decide_eq_false (show ¬ n≤hi by omega)];rfl
   ·rw [decide_eq_false ae,decide_eq_true (show n≤hi by omega)];rfl
 unfold IQ Ot Ow;rw [hm,JX.eq_2,if_pos (show decide ((0:Int)<(([n]:List Int).length:Int))=true from rfl),qw ⟨sY _,show (0:Int)<(1:Int) by decide⟩,show ix [n] (0:Int)=n from rfl,acZ,sc];cases ak:(decide (lo≤n) && decide (n≤hi))
 ·rfl
 ·rw [show w (0+1:Int)=1 from rfl,JX.eq_2];rfl
def M5 (b:((List (Int×Int))×(Int×Int))×Unit) (x:Int):Option rr :=
 qq (b.1.1.length≤1000) <|
 (Kn b (w (b.1.1.length-1))).bind fun far =>
 some ((Hk b.1.2.1 b.1.2.2 x (if x=0 then 1 else 2121)).1.filter fun a=>decide (w (-(Ji far b.1.2.1 b.1.1 0))≤a.2.1.1) && decide (a.2.1.1≤Ji far b.1.2.1 b.1.1 0))
theorem ajm {b:((List (Int×Int))×(Int×Int))×Unit} {x:Int} {A:rr} (h:M5 b x=some A):∃ (c:Nat) (D:List ar),Sem Tryz.prog (.fn 81) [lj b,hX x] [] 0 (.map 0) (.map (ry A) c::D):=by
 unfold M5 at h;obtain ⟨aI,h⟩:=rV h;obtain ⟨far,RI,h⟩:=p' h;obtain rfl:=Option.some.inj h;obtain ⟨N,CB⟩:∃ N,N=(if x=0 then 1 else 2121)+b.1.1.length+1+(Hk b.1.2.1 b.1.2.2 x (if x=0 then 1 else 2121)).1.length:=⟨_,rfl⟩;refine ⟨(Hk b.1.2.1 b.1.2.2 x (if x=0 then 1 else 2121)).2,List.replicate N .dead,?_⟩;refine rK eD aes rfl (IM (sE _)) fun Q bo=>?_;unfold Yk;obtain ⟨ajL,Vz⟩:∃ c,SR=c:=⟨_,rfl⟩;obtain ⟨b5,iM⟩:∃ c,Pw=c:=⟨_,rfl⟩;rw [Vz,iM];conv=>whnf
 subst iM;refine afV (b:=b) (x:=x) (by exact rfl) fun Y v6 JI Zb JH KH KI adb=>?_;conv=>whnf
 subst Vz;unfold SR Ym;obtain ⟨ajK,Vy⟩:∃ c,Pr=c:=⟨_,rfl⟩;obtain ⟨br,eP⟩:∃ c,Pv=c:=⟨_,rfl⟩;rw [Vy,eP];conv=>whnf
 refine ⟨p9 (Ic b) (p9 rfl rfl),_,K1 RI,?_⟩;conv=>whnf
 subst eP;refine afK (b:=b) (far:=far) aI (by exact rfl) fun aa3 PJ adg=>?_;conv=>whnf
 subst Vy;refine ahj (f:=fun k=>decide (w (-(Ji far b.1.2.1 b.1.1 0))≤k) && decide (k≤Ji far b.1.2.1 b.1.1 0)) (S7 _ _ _ _) (fun a _=>MY _ _ _) fun T ajF ajY bZ=>?_;refine bo _ _ _ ⟨.inr rfl,⟨by simp;omega,fun id o aq=>?_⟩,by simp only [rZ,bZ,jd,si]⟩;cases id with
 | zero=>exact .inr aq
 | succ id =>
   refine .inl ?_
   have:(List.replicate N ar.dead)[id]?=some o:=aq
   rw [List.getElem?_replicate] at this;split at this
   ·exact (Option.some.inj this).symm
   ·cases this

noncomputable def aaE:gB :=
 p5 [p3 1 [.jm 0] .box,p3 2 [.cv (.bool false)] .mR] (p5 [p3 3 [.m_ 1] (.yM 0),ql 4 3,qu 5 4 0 .geq,p4 6 5,ch 7 [.m_ 1] 6 true (.yM 0),ch 8 [.Bs 7] 6 true (.zE .one),ch 9 [.Bs 8,.cv (.int .i64 100)] 6 true (.bin .leq),p3 10 [.Bs 6,.Bs 9,.cv (.bool false)] .pick,p4 11 10,ch 12 [.m_ 1] 11 true (.yM 1),ch 13 [.Bs 12] 11 true (.zE .one),ch 14 [.Bs 13,.cv (.int .i64 (-10))] 11 true (.bin .geq),p3 15 [.Bs 11,.Bs 14,.cv (.bool false)] .pick,p4 16 15,ch 17 [.Bs 1] 16 true (.yM 1),ch 18 [.Bs 17] 16 true (.zE .one),ch 19 [.Bs 18,.cv (.int .i64 10)] 16 true (.bin .leq),p3 20 [.Bs 16,.Bs 19,.cv (.bool false)] .pick,p4 2 20] .ret)
theorem afg:qt Tryz.prog UC 53=some (aaE,21,[.tmp 2]):=by kernel_rfl
def LR (s:(Int×Int)):Option Bool :=
 if (decide ((0:Int)≤s.1))=true then
  if (decide (s.1≤(100:Int)))=true then
   if (decide ((-10:Int)≤s.2))=true then
    some (decide (s.2≤(10:Int)))
   else
    some false
  else
   some false
 else
  some false
theorem Tw {s:(Int×Int)} {v:Bool} (h:LR s=some v):qv 53 [(.agg [(hX s.1),(hX s.2)])] (B v):=by
 refine qN eD afg rfl rfl fun Q bo=>?_;have jG:qK [.tmp 2] Q (fun v=>(B v)) v:=fun T H bD=>bo _ T H bD;unfold LR at h;unfold aaE;conv=>whnf
 refine bs h (fun gJ h=>?_) fun gJ h=>?_
 ·rw [gJ];conv=>whnf
  refine bs h (fun gK h=>?_) fun gK h=>?_
  ·rw [gK];(conv=>whnf);refine bs h (fun qs h=>?_) fun qs h=>?_
   ·rw [qs];(conv=>whnf);exact qd h jG rfl rfl
   ·rw [qs];(conv=>whnf);exact qd h jG rfl rfl
  ·rw [gK];(conv=>whnf);exact qd h jG rfl rfl
 ·rw [gJ];conv=>whnf
  exact qd h jG rfl rfl

noncomputable def Qh:gB :=
 .loop (some (qb false [1,1,1,2,44])) (.seq (p5 [p6 18 4,p6 19 3,qp 20 18 19 .lss] (.cond (.m_ 20) .skip (.exit 0))) (.seq (.block 1 (p5 [p3 23 [.m_ 1] (.yM 0),ql 24 23,p6 25 4,rm 26 24 25 2,p3 27 [.Bs 26] (.zE (.str 2)),p3 28 [.cv (.func 53 [] []),.m_ 27] (.call 3),p3 29 [.Bs 28] (.un .not)] (.cond (.m_ 29) (p5 [qg 2 3] .ret) .skip))) (qE [p4 21 4,qV 22 21 1,p4 4 22])))
noncomputable def Qi:gB :=
 .seq (p5 [qg 4 0] (.block 0 Qh)) (.seq (p5 [p3 30 [.m_ 1] (.yM 1),qJ 31 30 0,ql 32 31,qu 33 32 0 .lss,p4 34 33,ch 35 [.m_ 1] 34 false (.yM 1),ch 36 [.Bs 35] 34 false (.yM 0),ch 37 [.Bs 36] 34 false (.zE .one),ch 38 [.m_ 1] 34 false (.yM 1),ch 39 [.Bs 38] 34 false (.yM 1),ch 40 [.Bs 39] 34 false (.zE .one),ch 41 [.Bs 37,.Bs 40] 34 false (.bin .gtr),p3 42 [.Bs 34,.cv (.bool true),.Bs 41] .pick,p4 43 42,ch 44 [.Bs 1] 43 false (.yM 1),ch 45 [.Bs 44] 43 false (.yM 1),ch 46 [.Bs 45] 43 false (.zE .one),ch 47 [.Bs 46,.cv (.int .i64 50)] 43 false (.bin .gtr),p3 48 [.Bs 43,.cv (.bool true),.Bs 47] .pick] (.cond (.m_ 48) (p5 [qg 2 3] .ret) .skip)) (p5 [qg 2 0] .ret))
noncomputable def aax:gB :=
 p5 [p3 1 [.jm 0] .box,qg 2 0] (p5 [p3 5 [.m_ 1] (.yM 0),ql 6 5,qZ 7 6,p4 3 7] (.seq (p5 [p6 8 3,qu 9 8 3 .neq,p4 10 9,ch 11 [.m_ 3] 10 true .mR,ch 12 [.Bs 11,.cv (.int .i64 5)] 10 true (.bin .neq),p3 13 [.Bs 10,.Bs 12,.cv (.bool false)] .pick,p4 14 13,ch 15 [.m_ 3] 14 true .mR,ch 16 [.Bs 15,.cv (.int .i64 7)] 14 true (.bin .neq),p3 17 [.Bs 14,.Bs 16,.cv (.bool false)] .pick] (.cond (.m_ 17) (p5 [qg 2 6] .ret) .skip)) Qi))
theorem ae_:qt Tryz.prog OD 46=some (aax,49,[.tmp 2]):=by kernel_rfl
def LO (p:(qj×(Int×Int))) (qT:Unit→Option Int):Nat→Int→Option Int
 | 0,_=>none
 | m+1,s1 =>
   if (decide (s1<(p.1.length:Int)))=true then
    qq (0≤s1∧s1<(p.1.length:Int)) <|
    (LR (ix p.1 s1)).bind fun aS =>
    if aS=true then
     LO p qT m (w (s1+(1:Int)))
    else
     some (3:Int)
   else
    qT ()
def LN (p:(qj×(Int×Int)))  : Option Int :=
 LO p (fun _ =>
   if (decide (p.2.1<(0:Int)))=true then
    some (3:Int)
   else
    if (decide (p.2.2<p.2.1))=true then
     some (3:Int)
    else
     if (decide ((50:Int)<p.2.2))=true then
      some (3:Int)
     else
      some (0:Int)) qh (0:Int)
def Jo (p:(qj×(Int×Int))):Option Int :=
 if (decide ((p.1.length:Int)≠(3:Int)))=true then
  if (decide ((p.1.length:Int)≠(5:Int)))=true then
   if (decide ((p.1.length:Int)≠(7:Int)))=true then
    some (6:Int)
   else
    LN p
  else
   LN p
 else
  LN p
theorem aiW {p:(qj×(Int×Int))} {qT:Unit→Option Int} {s1:Int} {v:Int} {Q:rR}   (jG:qK [.tmp 2] Q (fun v=>(hX v)) v) (I3:∀ (qe:List I),qT ()=some v→rk 49 [(1,(.ptr 0 0))] qe→Q (.exit 0) qe [ar.cells [(qY p.1 .shared),(hX p.2.1),(hX p.2.2)]]) {T:List I} (bZ:eW (qb false [1,1,1,2,44]) T=qf 49 [(1,(.ptr 0 0)),(3,(hX (p.1.length:Int))),(4,(hX s1))]) (h:LO p qT qh s1=some v) :
  dN Tryz.prog OD 46 0 none Qh T [ar.cells [(qY p.1 .shared),(hX p.2.1),(hX p.2.2)]] Q:=by
 unfold Qh;refine wp_loop bZ ?_;refine .intro (fun m T H=>∃ (s1:Int),T=qf 49 [(1,(.ptr 0 0)),(3,(hX (p.1.length:Int))),(4,(hX s1))]∧H=[ar.cells [(qY p.1 .shared),(hX p.2.1),(hX p.2.2)]]∧LO p qT m s1=some v) qh ⟨s1,rfl,rfl,h⟩ ?_;clear h bZ;rintro m T H ⟨s1,rfl,rfl,h⟩;cases m
 ·exact rz h
 rename_i m;rw [LO.eq_2] at h;conv=>whnf
 refine bs h (fun qG h=>?_) fun qG h=>?_
 ·rw [qG];conv=>whnf
  refine qD h id fun qW h=>?_;rw [IY p_ 2 Lo p.1 s1 qW];conv=>whnf
  obtain ⟨aS,q8,h⟩:=p' h;refine ⟨qi.pl,_,Tw q8,?_⟩;conv=>whnf
  cases aS
  ·(conv=>whnf);replace h:=rp rfl h;exact qd h jG rfl rfl
  ·(conv=>whnf);replace h:=rn rfl h;exact ⟨m,sg m,(w (s1+(1:Int))),rfl,rfl,h⟩
 ·rw [qG];conv=>whnf
  exact I3  _ h ⟨rfl,rfl⟩
theorem Tt {p:(qj×(Int×Int))} {v:Int} {Q:rR}  {qe:List I}  (jG:qK [.tmp 2] Q (fun v=>(hX v)) v) (qz:rk 49 [(1,(.ptr 0 0)),(3,(hX (p.1.length:Int)))] qe) (h:LN p  = some v) :
  dN Tryz.prog OD 46 0 none Qi qe [ar.cells [(qY p.1 .shared),(hX p.2.1),(hX p.2.2)]] Q:=by
 obtain ⟨rq,rfl⟩:=qz.ex;unfold LN at h;unfold Qi;obtain ⟨r9,qC⟩:∃ c,Qh=c:=⟨_,rfl⟩;rw [qC];conv=>whnf
 subst qC;refine aiW ?_ ?_ (by exact rfl) h
 ·exact fun T H bD=>jG T H bD
 ·intro  qe h qz;obtain ⟨rq,rfl⟩:=qz.ex;conv=>whnf
  refine bs h (fun qR h=>?_) fun qR h=>?_
  ·rw [qR];(conv=>whnf);exact qd h jG rfl rfl
  ·rw [qR];(conv=>whnf);refine bs h (fun rb h=>?_) fun rb h=>?_
   ·rw [rb];(conv=>whnf);exact qd h jG rfl rfl
   ·rw [rb];(conv=>whnf);refine bs h (fun q9 h=>?_) fun q9 h=>?_
    ·rw [q9];(conv=>whnf);exact qd h jG rfl rfl
    ·rw [q9];(conv=>whnf);exact qd h jG rfl rfl
theorem KT {p:(qj×(Int×Int))} {v:Int} (h:Jo p=some v):qv 46 [(.agg [(.av (p.1.flatMap p_) p.1.length .shared),(hX p.2.1),(hX p.2.2)])] (hX v):=by
 refine qN eD ae_ rfl rfl fun Q bo=>?_;have jG:qK [.tmp 2] Q (fun v=>(hX v)) v:=fun T H bD=>bo _ T H bD;unfold Jo at h;unfold aax;obtain ⟨J2,rN⟩:∃ c,Qi=c:=⟨_,rfl⟩;rw [rN];conv=>whnf
 refine bs h (fun gJ h=>?_) fun gJ h=>?_
 ·rw [gJ];conv=>whnf
  refine bs h (fun gK h=>?_) fun gK h=>?_
  ·rw [gK];(conv=>whnf);refine bs h (fun qs h=>?_) fun qs h=>?_
   ·rw [qs];(conv=>whnf);exact qd h jG rfl rfl
   ·rw [qs];(conv=>whnf);subst rN;refine Tt ?_ (by exact ⟨rfl,rfl⟩) h;exact fun T H bD=>jG T H bD
  ·rw [gK];(conv=>whnf);subst rN;refine Tt ?_ (by exact ⟨rfl,rfl⟩) h;exact fun T H bD=>jG T H bD
 ·rw [gJ];conv=>whnf
  subst rN;refine Tt ?_ (by exact ⟨rfl,rfl⟩) h;exact fun T H bD=>jG T H bD

noncomputable def Qr:gB :=
 .loop (some (qb false [0,2,3,1,12])) (.seq (p5 [p6 6 5,p6 7 0,qZ 8 7,qp 9 6 8 .lss] (.cond (.m_ 9) .skip (.exit 0))) (.seq (.block 1 (p5 [p6 12 0,p6 13 5,rm 14 12 13 1,ql 15 14,p6 16 1,qp 17 15 16 .eql] (.cond (.m_ 17) (p5 [p3 4 [.cv (.bool true)] .mR] .ret) .skip))) (qE [p4 10 5,qV 11 10 1,p4 5 11])))
noncomputable def aaM:gB :=
 p5 [p3 4 [.cv (.bool false)] .mR] (.seq (p5 [qg 5 0] (.block 0 Qr)) (p5 [p3 4 [.cv (.bool false)] .mR] .ret))
theorem afo:qt Tryz.prog QV 72=some (aaM,18,[.tmp 4]):=by kernel_rfl
def LV (l:qa) (n:Int) (qc:Unit→Option Bool):Nat→Int→Option Bool
 | 0,_=>none
 | m+1,s1 =>
   if (decide (s1<(l.length:Int)))=true then
    qq (0≤s1∧s1<(l.length:Int)) <|
    if (decide ((ix l s1)=n))=true then
     some true
    else
     LV l n qc m (w (s1+(1:Int)))
   else
    qc ()
def M3 (l:qa) (n:Int):Option Bool :=
 LV l n (fun _ =>
   some false) qh (0:Int)
theorem aje {l:qa} {n:Int} {qc:Unit→Option Bool} {s1:Int} {v:Bool} {Q:rR}   (jG:qK [.tmp 4] Q (fun v=>(B v)) v) (q':∀ (qe:List I),qc ()=some v→rk 18 [] qe→Q (.exit 0) qe []) {T:List I} (bZ:eW (qb false [0,2,3,1,12]) T=qf 18 [(0,(qy l .shared)),(1,(hX n)),(5,(hX s1))]) (h:LV l n qc qh s1=some v) :
  dN Tryz.prog QV 72 0 none Qr T [] Q:=by
 unfold Qr;refine wp_loop bZ ?_;refine .intro (fun m T H=>∃ (s1:Int),T=qf 18 [(0,(qy l .shared)),(1,(hX n)),(5,(hX s1))]∧H=[]∧LV l n qc m s1=some v) qh ⟨s1,rfl,rfl,h⟩ ?_;clear h bZ;rintro m T H ⟨s1,rfl,rfl,h⟩;cases m
 ·exact rz h
 rename_i m;rw [LV.eq_2] at h;conv=>whnf
 refine bs h (fun gJ h=>?_) fun gJ h=>?_
 ·rw [gJ];conv=>whnf
  refine qD h id fun gK h=>?_;rw [ri hX l s1 gK];conv=>whnf
  refine bs h (fun qs h=>?_) fun qs h=>?_
  ·rw [qs];(conv=>whnf);exact qd h jG rfl rfl
  ·rw [qs];(conv=>whnf);exact ⟨m,sg m,(w (s1+(1:Int))),rfl,rfl,h⟩
 ·rw [gJ];conv=>whnf
  exact q'  _ h ⟨rfl,rfl⟩
theorem TD {l:qa} {n:Int} {v:Bool} (h:M3 l n=some v):qv 72 [(.av (l.map hX) l.length .shared),(hX n)] (B v):=by
 refine qN eD afo rfl rfl fun Q bo=>?_;have jG:qK [.tmp 4] Q (fun v=>(B v)) v:=fun T H bD=>bo _ T H bD;unfold M3 at h;unfold aaM;obtain ⟨r9,qC⟩:∃ c,Qr=c:=⟨_,rfl⟩;rw [qC];conv=>whnf
 subst qC;refine aje ?_ ?_ (by exact rfl) h
 ·exact fun T H bD=>jG T H bD
 ·intro  qe h qz;obtain ⟨rq,rfl⟩:=qz.ex;conv=>whnf
  exact qd h jG rfl rfl

noncomputable def Qm:gB :=
 .loop (some (qb false [1,2,2,1,42])) (.seq (p5 [p6 17 5,p6 18 1,qZ 19 18,qp 20 17 19 .lss] (.cond (.m_ 20) .skip (.exit 0))) (.seq (.block 1 (.seq (rh [p6 23 1,p6 24 5,rm 25 23 24 1,ql 26 25,qu 27 26 0 .lss,p4 28 27,ch 29 [.m_ 1] 28 false .mR,ch 30 [.m_ 5] 28 false .mR,ch 31 [.Bs 29,.Bs 30] 28 false (.kV 1),ch 32 [.Bs 31] 28 false (.zE .one),ch 33 [.m_ 2] 28 false (.yM 0),ch 34 [.Bs 33] 28 false (.zE .one),ch 35 [.jm 34] 28 false .zJ,ch 36 [.Bs 32,.Bs 35] 28 false (.bin .geq),p3 37 [.m_ 28,.cv (.bool true),.Bs 36] .pick,p4 38 37,ch 39 [.m_ 1] 38 false .mR,ch 40 [.m_ 5] 38 false .mR,⟨some 41,[.jm 39,.jm 40],some (38,false),none,.Bh 1 false true false⟩,ch 42 [.m_ 1] 38 false .mR,ch 43 [.m_ 5] 38 false .mR,ch 44 [.Bs 42,.Bs 43] 38 false (.kV 1),ch 45 [.Bs 44] 38 false (.zE .one),⟨some 46,[.cv (.func 72 [] []),.m_ 41,.m_ 45],some (38,false),none,.call 3⟩,p3 47 [.m_ 38,.cv (.bool true),.Bs 46] .pick]) (.cond (.m_ 47) (p5 [qg 4 16] .ret) .skip))) (qE [p4 21 5,qV 22 21 1,p4 5 22])))
noncomputable def aaD:gB :=
 p5 [p3 2 [.jm 0] .box,qg 4 0] (.seq (p5 [p3 6 [.m_ 2] (.zE (.str 3)),p3 7 [.cv (.func 46 [] []),.m_ 6] (.call 3),qu 8 7 0 .neq] (.cond (.m_ 8) (p5 [p3 9 [.Bs 2] (.zE (.str 3)),p3 10 [.cv (.func 46 [] []),.m_ 9] (.call 3),p4 4 10] .ret) .skip)) (.seq (p5 [p6 11 1,qZ 12 11,p3 13 [.m_ 2] (.yM 0),ql 14 13,qZ 15 14,qp 16 12 15 .neq] (.cond (.m_ 16) (p5 [qg 4 16] .ret) .skip)) (.seq (p5 [qg 5 0] (.block 0 Qm)) (p5 [qg 4 0] .ret))))
theorem aff:qt Tryz.prog QP 52=some (aaD,48,[.tmp 4]):=by kernel_rfl
def LQ (p:(qj×(Int×Int))) (order:qa) (qc:Unit→Option Int):Nat→Int→Option Int
 | 0,_=>none
 | m+1,s1 =>
   if (decide (s1<(order.length:Int)))=true then
    qq (0≤s1∧s1<(order.length:Int)) <|
    if (decide ((ix order s1)<(0:Int)))=true then
     some (16:Int)
    else
     qq (0≤s1∧s1<(order.length:Int)) <|
     if (decide ((p.1.length:Int)≤(ix order s1)))=true then
      some (16:Int)
     else
      qq (0≤s1∧s1≤(order.length:Int)) <|
      qq (0≤s1∧s1<(order.length:Int)) <|
      (M3 (order.take s1.toNat) (ix order s1)).bind fun eH =>
      if eH=true then
       some (16:Int)
      else
       LQ p order qc m (w (s1+(1:Int)))
   else
    qc ()
def KX (p:(qj×(Int×Int))) (order:qa):Option Int :=
 (Jo p).bind fun aS =>
 if (decide (aS≠(0:Int)))=true then
  (Jo p).bind fun bh =>
  some bh
 else
  if (decide ((order.length:Int)≠(p.1.length:Int)))=true then
   some (16:Int)
  else
   LQ p order (fun _ =>
     some (0:Int)) qh (0:Int)
theorem ai4 {p:(qj×(Int×Int))} {order:qa} {qc:Unit→Option Int} {s1:Int} {v:Int} {Q:rR}   (jG:qK [.tmp 4] Q (fun v=>(hX v)) v) (q':∀ (bw:ar) (qe:List I),qc ()=some v→rk 48 [] qe→Q (.exit 0) qe [bw]) {T:List I} (bZ:eW (qb false [1,2,2,1,42]) T=qf 48 [(1,(qy order .shared)),(2,(.ptr 0 0)),(5,(hX s1))]) (h:LQ p order qc qh s1=some v) :
  dN Tryz.prog QP 52 0 none Qm T [ar.cells [(qY p.1 .shared),(hX p.2.1),(hX p.2.2)]] Q:=by
 unfold Qm;refine wp_loop bZ ?_;refine .intro (fun m T H=>∃ (s1:Int),T=qf 48 [(1,(qy order .shared)),(2,(.ptr 0 0)),(5,(hX s1))]∧H=[ar.cells [(qY p.1 .shared),(hX p.2.1),(hX p.2.2)]]∧LQ p order qc m s1=some v) qh ⟨s1,rfl,rfl,h⟩ ?_;clear h bZ;rintro m T H ⟨s1,rfl,rfl,h⟩;cases m
 ·exact rz h
 rename_i m;rw [LQ.eq_2] at h;conv=>whnf
 refine bs h (fun qW h=>?_) fun qW h=>?_
 ·rw [qW];conv=>whnf
  refine qD h id fun q8 h=>?_;rw [ri hX order s1 q8];conv=>whnf
  refine bs h (fun qR h=>?_) fun qR h=>?_
  ·rw [qR];(conv=>whnf);exact qd h jG rfl rfl
  ·rw [qR];(conv=>whnf);refine qD h id fun rb h=>?_;rw [ri hX order s1 rb];(conv=>whnf);refine bs h (fun q9 h=>?_) fun q9 h=>?_
   ·rw [q9];(conv=>whnf);exact qd h jG rfl rfl
   ·rw [q9];(conv=>whnf);refine qD h id fun rv h=>?_;erw [YS hX order s1 rv];(conv=>whnf);refine qD h id fun Hi h=>?_;rw [ri hX order s1 Hi];(conv=>whnf);obtain ⟨eH,Hp,h⟩:=p' h;refine ⟨qi.pl,_,TD Hp,rB,?_⟩;(conv=>whnf);cases eH
    ·(conv=>whnf);replace h:=rp rfl h;exact ⟨m,sg m,(w (s1+(1:Int))),rfl,rfl,h⟩
    ·(conv=>whnf);replace h:=rn rfl h;exact qd h jG rfl rfl
 ·rw [qW];conv=>whnf
  exact q' _ _ h ⟨rfl,rfl⟩
theorem P1 {p:(qj×(Int×Int))} {order:qa} {v:Int} (h:KX p order=some v):qv 52 [(.agg [(.av (p.1.flatMap p_) p.1.length .shared),(hX p.2.1),(hX p.2.2)]),(.av (order.map hX) order.length .shared)] (hX v):=by
 refine qN eD aff rfl rfl fun Q bo=>?_;have jG:qK [.tmp 4] Q (fun v=>(hX v)) v:=fun T H bD=>bo _ T H bD;unfold KX at h;unfold aaD;obtain ⟨r9,qC⟩:∃ c,Qm=c:=⟨_,rfl⟩;rw [qC];conv=>whnf
 obtain ⟨aS,gJ,h⟩:=p' h;refine ⟨qi.pl,_,KT gJ,?_⟩;conv=>whnf
 refine bs h (fun gK h=>?_) fun gK h=>?_
 ·rw [gK];conv=>whnf
  obtain ⟨bh,qs,h⟩:=p' h;refine ⟨qi.pl,_,KT qs,?_⟩;conv=>whnf
  exact qd h jG rfl rfl
 ·rw [gK];conv=>whnf
  refine bs h (fun qG h=>?_) fun qG h=>?_
  ·rw [qG];(conv=>whnf);exact qd h jG rfl rfl
  ·rw [qG];(conv=>whnf);subst qC;refine ai4 ?_ ?_ (by exact rfl) h
   ·exact fun T H bD=>jG T H bD
   ·intro bw qe h qz;obtain ⟨rq,rfl⟩:=qz.ex;(conv=>whnf);exact qd h jG rfl rfl
end Go.Proofs.YtkoioidpbbbaiaaGreat.Ab
