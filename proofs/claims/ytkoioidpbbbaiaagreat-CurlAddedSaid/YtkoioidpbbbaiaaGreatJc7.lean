
import Derived.Test.YtkoioidpbbbaiaaGreatJc5
import Derived.Test.YtkoioidpbbbaiaaGreatJc6
import Derived.KernelRfl
import Derived.Test.YtkoioidpbbbaiaaGreatProg
set_option linter.unusedSimpArgs false
set_option linter.unusedVariables false
set_option linter.unusedSectionVars false

open Bool renaming and_eq_true→sq,and_self→tW,and_true→tt,eq_iff_iff→vE
open Int renaming le_refl→sQ,mul_le_mul_of_nonneg_left→uE,toNat_natCast→tp
open List renaming all_cons→tx,all_nil→tZ,append_assoc→sy,drop_eq_getElem_cons→s0,drop_of_length_le→vd,drop_zero→tq,flatMap_append→ug,getD_eq_getElem?_getD→sx,getElem?_append→sc,getElem?_append_left→si,getElem?_eq_none→uS,getElem?_eq_some_iff→sa,getElem?_set→tC,getElem?_set_ne→se,getElem?_set_self→sk,getElem_of_mem→uC,length_append→sA,length_eq_zero_iff→sP,length_set→sZ,map_append→sJ,map_cons→sG,map_nil→uA,mem_append→te,mem_cons→sB,mem_filter→tf,mem_map→sD,mem_map_of_mem→tc,mem_of_getElem?→sw,mem_range→sH,mem_singleton→sT,nodup_append→uj,nodup_cons→tU,not_mem_nil→tQ,take_length→uh,take_of_length_le→td,take_succ_eq_append_getElem→uo
open Nat renaming ble_eq_true_of_le→tj,le_refl→sd,lt_succ_self→sv,zero_add→sC,zero_le→sE
open Option renaming bind_some→sb
namespace Go.Proofs.YtkoioidpbbbaiaaGreat.Ab
open Go
set_option maxRecDepth 20000
set_option maxHeartbeats 1000000
def rz (p:qf):Int:=if p.1.length=3∨p.1.length=5∨p.1.length=7 then (if (∀ s∈p.1,qY s)∧0≤p.2.1∧p.2.1≤p.2.2∧p.2.2≤50 then 0 else 3) else 6
theorem ZE (s:qq):MR s=some (decide (qY s)):=by
 unfold MR qY;by_cases ab:0≤s.1
 ·rw [if_pos (decide_eq_true ab)];by_cases ae:s.1≤100
  ·rw [if_pos (decide_eq_true ae)];by_cases aF:-10≤s.2
   ·rw [if_pos (decide_eq_true aF)];simp [ab,ae,aF]
   ·rw [if_neg (by simpa using aF)];simp [aF]
  ·rw [if_neg (by simpa using ae)];simp [ae]
 ·rw [if_neg (by simpa using ab)];simp [ab]
theorem Wo {p:qf} (aB:p.1.length≤1000) {K:Option Int}:∀ (m i:Nat),i≤p.1.length→p.1.length-i<m→(∀ j,j<i→qY (ix p.1 (j:Int))) →
  MP p (fun _=>K) m (i:Int)=if ∀ s∈p.1,qY s then K else some 3
 | 0,_,_,h,_=>absurd h (by omega)
 | m+1,i,hi,hm,aw=>by
   rw [MP];by_cases aR:i<p.1.length
   ·rw [if_pos (decide_eq_true (by omega)),qF (by omega),ZE,sb,Ik i (by omega)];by_cases al:qY (ix p.1 (i:Int))
    ·rw [if_pos (decide_eq_true al)];refine Wo aB m (i+1) (by omega) (by omega) fun j gi=>?_;by_cases e:j=i
     ·rw [e];exact al
     ·exact aw j (by omega)
    ·rw [if_neg (by simpa using al),if_neg];exact fun c1=>al (c1 _ (JD (by omega)))
   ·rw [if_neg (by simpa using by omega),if_pos];intro s ah;obtain ⟨j,ef,rfl⟩:=uC ah;have:=aw j (by omega)
    rwa [rJ ef] at this
theorem Zz {p:qf} (aB:p.1.length≤1000):Ki p=some (rz p):=by
 have aw:MO p=some (if (∀ s∈p.1,qY s)∧0≤p.2.1∧p.2.1≤p.2.2∧p.2.2≤50 then 0 else 3):=by
  unfold MO;rw [show (0:Int)=((0:Nat):Int) from rfl,Wo aB qj 0 (by omega) (It (by omega)) (fun j h=>absurd h (by omega))];by_cases h:∀ s∈p.1,qY s
  ·rw [if_pos h];by_cases ab:p.2.1<0
   ·rw [if_pos (decide_eq_true (by exact ab)),if_neg (by omega)]
   ·rw [if_neg (by simpa using by omega)];by_cases ae:p.2.2<p.2.1
    ·rw [if_pos (decide_eq_true ae),if_neg (by omega)]
    ·rw [if_neg (by simpa using by omega)];by_cases aF:50<p.2.2
     ·rw [if_pos (decide_eq_true aF),if_neg (by omega)]
     ·rw [if_neg (by simpa using by omega),if_pos ⟨h,by omega,by omega,by omega⟩]
  ·rw [if_neg h,if_neg (fun k=>h k.1)]
 unfold Ki rz;by_cases aF:p.1.length=3
 ·rw [if_neg (by simp [aF]),if_pos (.inl aF),aw]
 ·rw [if_pos (decide_eq_true (by omega))];by_cases bP:p.1.length=5
  ·rw [if_neg (by simp [bP]),if_pos (.inr (.inl bP)),aw]
  ·rw [if_pos (decide_eq_true (by omega))];by_cases cO:p.1.length=7
   ·rw [if_neg (by simp [cO]),if_pos (.inr (.inr cO)),aw]
   ·rw [if_pos (decide_eq_true (by omega)),if_neg (by omega)]
theorem ZB (s:qq):LD s=some (!decide (qY s)):=by
 unfold LD;rw [N1,sb];unfold qY;by_cases h:0≤s.1∧s.1≤100
 ·rw [if_pos (by simp [h.1,h.2]),N1,sb];by_cases ae:-10≤s.2 <;> by_cases aF:s.2≤10 <;> simp [h.1,h.2,ae,aF]
 ·rw [if_neg (by simpa using h)];rw [decide_eq_false (show ¬ (0≤s.1∧s.1≤100∧-10≤s.2∧s.2≤10) from fun k=>h ⟨k.1,k.2.1⟩)];rfl
theorem We {S:List qq} (aB:S.length≤1000):∀ (m i:Nat),i≤S.length→S.length-i<m→(∀ j,j<i→qY (ix S (j:Int))) →
  ∃ r,MH S (fun ry=>LD ry) (fun _=>some (-1:Int)) m (i:Int)=some r∧decide (0≤r)=!decide (∀ s∈S,qY s)
 | 0,_,_,h,_=>absurd h (by omega)
 | m+1,i,hi,hm,aw=>by
   rw [MH];by_cases aR:i<S.length
   ·rw [if_pos (decide_eq_true (by omega)),qF (by omega),ZB,sb,Ik i (by omega)];by_cases al:qY (ix S (i:Int))
    ·rw [if_neg (by simpa using al)];refine We aB m (i+1) (by omega) (by omega) fun j gi=>?_;by_cases e:j=i
     ·rw [e];exact al
     ·exact aw j (by omega)
    ·rw [if_pos (by simpa using al)];refine ⟨_,rfl,?_⟩;rw [decide_eq_true (by omega),decide_eq_false fun c1=>al (c1 _ (JD (by omega)))];rfl
   ·rw [if_neg (by simpa using by omega)];refine ⟨-1,rfl,?_⟩;rw [decide_eq_false (by omega),decide_eq_true];rfl;intro s ah;obtain ⟨j,ef,rfl⟩:=uC ah;have:=aw j (by omega)
    rwa [rJ ef] at this
theorem ajg {S:List qq} (aB:S.length≤1000):Pf S (fun ry=>LD ry)=some (!decide (∀ s∈S,qY s)):=by
 unfold Pf Qu;obtain ⟨r,ab,ae⟩:=We aB qj 0 (by omega) (It (by omega)) (fun j h=>absurd h (by omega));rw [show (0:Int)=((0:Nat):Int) from rfl,ab,sb];exact congrArg some ae
theorem ZS (n lo hi:Int):MW n lo hi=some (!(decide (lo≤n) && decide (n≤hi))):=by
 unfold MW;by_cases ab:n<lo
 ·rw [if_pos (decide_eq_true ab),decide_eq_false (show ¬ lo≤n by omega)];rfl
 ·rw [if_neg (by simpa using ab),decide_eq_true (show lo≤n by omega)];by_cases ae:hi<n
  ·rw [decide_eq_true ae,decide_eq_false (show ¬ n≤hi by omega)];rfl
  ·rw [decide_eq_false ae,decide_eq_true (show n≤hi by omega)];rfl
theorem aiW (lo hi n k:Int):I5 lo hi [n,k]=some ((decide (lo≤n) && decide (n≤hi)) && (decide (lo≤k) && decide (k≤hi))):=by
 obtain ⟨m,hm⟩:∃ m,qj=m+3:=⟨qj-3,rfl⟩;unfold I5 Pe Pg;rw [hm,KC.eq_2,if_pos (show decide ((0:Int)<(([n,k]:List Int).length:Int))=true from rfl),qF ⟨sQ _,show (0:Int)<(2:Int) by decide⟩,show ix [n,k] (0:Int)=n from rfl,ZS,sb];cases ak:(decide (lo≤n) && decide (n≤hi))
 ·rfl
 ·rw [show w (0+1:Int)=1 from rfl,if_neg (by decide),KC.eq_2,if_pos (show decide ((1:Int)<(([n,k]:List Int).length:Int))=true from rfl),qF ⟨by decide,show (1:Int)<(2:Int) by decide⟩,show ix [n,k] (1:Int)=k from rfl,ZS,sb];cases ak:(decide (lo≤k) && decide (k≤hi))
  ·rfl
  ·rw [show w (1+1:Int)=2 from rfl,KC.eq_2];rfl
theorem ZO {p:qf} (aB:p.1.length≤1000):Pc p=some (rz p):=by
 have aw:N2 p (fun _=>some (0:Int)) false=some (if (∀ s∈p.1,qY s)∧0≤p.2.1∧p.2.1≤p.2.2∧p.2.2≤50 then 0 else 3):=by
  unfold N2;rw [if_neg (by decide),ajg aB,sb];by_cases h:∀ s∈p.1,qY s
  ·rw [if_neg (by simpa using h),aiW,sb];by_cases ab:(0≤p.2.1∧p.2.1≤50)∧(0≤p.2.2∧p.2.2≤50)
   ·rw [if_pos (by simp [ab])];by_cases ae:p.2.2<p.2.1
    ·rw [if_pos (decide_eq_true ae),if_neg (by omega)]
    ·rw [if_neg (by simpa using by omega),if_pos ⟨h,by omega,by omega,by omega⟩]
   ·rw [if_neg (by simpa [and_assoc] using fun a b c=>by omega),if_neg (by omega)]
  ·rw [if_pos (by simpa using h),if_neg (fun k=>h k.1)]
 unfold Pc rz;rw [N1,sb];have iN:(p.1.length:Int).tmod 2=((p.1.length % 2:Nat):Int):=OY _;by_cases ai:3≤p.1.length∧p.1.length≤7
 ·rw [if_pos (by simp;omega),qF (by decide),iN];by_cases h:p.1.length=3∨p.1.length=5∨p.1.length=7
  ·rw [if_pos h,decide_eq_false (by omega),aw]
  ·rw [if_neg h,decide_eq_true (by omega)];rfl
 ·rw [if_neg (by simp;omega),if_neg (by omega)];rfl
def qu (n:Nat) (o:List Int):Prop:=o.length=n∧o.Nodup∧∀ x∈o,0≤x∧x<(n:Int)
instance (n:Nat) (o:List Int):Decidable (qu n o):=by unfold qu;exact inferInstance
def r4 (p:qf) (o:List Int):Int:=if rz p≠0 then rz p else if qu p.1.length o then 0 else 16
theorem Ws {l:List Int} (ao:l.length≤1000) {v:Int}:∀ (m i:Nat),i≤l.length→l.length-i<m→(∀ j,j<i→ix l (j:Int)≠v)→MV l v (fun _=>some false) m (i:Int)=some (decide (v∈l))
 | 0,_,_,h,_=>absurd h (by omega)
 | m+1,i,hi,hm,aw=>by
   rw [MV];by_cases aR:i<l.length
   ·rw [if_pos (decide_eq_true (by omega)),qF (by omega),Ik i (by omega)];by_cases al:ix l (i:Int)=v
    ·rw [if_pos (decide_eq_true al),decide_eq_true (by rw [←al];exact JD (by omega))]
    ·rw [if_neg (by simpa using al)];refine Ws ao m (i+1) (by omega) (by omega) fun j gi=>?_;by_cases e:j=i
     ·rw [e];exact al
     ·exact aw j (by omega)
   ·rw [if_neg (by simpa using by omega),decide_eq_false];intro ah;obtain ⟨j,ef,e⟩:=uC ah;exact aw j (by omega) (by rw [rJ ef];exact e)
theorem ZQ {l:List Int} (ao:l.length≤1000) (v:Int):MU l v=some (decide (v∈l)):=by
 unfold MU;exact Ws ao qj 0 (by omega) (It (by omega)) (fun j h=>absurd h (by omega))
def Ow (n:Nat) (o:List Int) (i:Nat):Prop:=(o.take i).Nodup∧∀ x∈o.take i,0≤x∧x<(n:Int)
theorem afS {n:Nat} {o:List Int} {i:Nat} (hi:i<o.length):Ow n o (i+1)↔Ow n o i∧(0≤ix o (i:Int)∧ix o (i:Int)<(n:Int))∧ix o (i:Int) ∉ o.take i:=by
 unfold Ow;rw [uo hi,rJ hi,uj];constructor
 ·rintro ⟨⟨ab,_,aF⟩,ba⟩;exact ⟨⟨ab,fun x aj=>ba x (List.mem_append_left _ aj)⟩,ba _ (List.mem_append_right _ (sT.2 rfl)),fun hm=>aF _ hm _ (sT.2 rfl) rfl⟩
 ·rintro ⟨⟨ab,ae⟩,aF,ba⟩;refine ⟨⟨ab,by simp,?_⟩,?_⟩
  ·intro a cu b af e;rw [sT] at af;subst af;subst e;exact ba cu
  ·intro x aj;rcases te.1 aj with aj | aj
   ·exact ae x aj
   ·rw [sT] at aj;subst aj;exact aF
theorem Wp {p:qf} {o:List Int} (ao:o.length≤1000) (aI:o.length=p.1.length):∀ (m i:Nat),i≤o.length→o.length-i<m→Ow p.1.length o i→MQ p o (fun _=>some 0) m (i:Int)=some (if qu p.1.length o then 0 else 16)
 | 0,_,_,h,_=>absurd h (by omega)
 | m+1,i,hi,hm,aw=>by
   rw [MQ];by_cases aR:i<o.length
   ·rw [if_pos (decide_eq_true (by omega)),qF (by omega),Ik i (by omega)];have ft:(¬ (0≤ix o (i:Int)∧ix o (i:Int)<(p.1.length:Int))∨ix o (i:Int)∈o.take i)→¬ qu p.1.length o:=fun af al=>by
     rcases af with af | af
     ·exact af (al.2.2 _ (JD (by omega)))
     ·have:(o.take (i+1)).Nodup:=al.2.1.sublist (List.take_sublist _ _)
      rw [uo aR,uj] at this;exact this.2.2 _ af _ (by rw [rJ aR];simp) rfl
    by_cases ab:ix o (i:Int)<0
    ·rw [if_pos (decide_eq_true ab),if_neg (ft (.inl (by omega)))]
    ·rw [if_neg (by simpa using by omega),qF (by omega)];by_cases ae:(p.1.length:Int)≤ix o (i:Int)
     ·rw [if_pos (decide_eq_true ae),if_neg (ft (.inl (by omega)))]
     ·rw [if_neg (by simpa using by omega),qF (by omega),qF (by omega),tp,ZQ (by rw [List.length_take];omega),sb];by_cases aF:ix o (i:Int)∈o.take i
      ·rw [if_pos (decide_eq_true aF),if_neg (ft (.inr aF))]
      ·rw [if_neg (by simpa using aF)];exact Wp ao aI m (i+1) (by omega) (by omega) ((afS aR).2 ⟨aw,by omega,aF⟩)
   ·(obtain rfl:i=o.length:=by omega);rw [if_neg (by simp),if_pos];unfold Ow at aw;rw [uh] at aw;exact ⟨aI,aw.1,aw.2⟩
theorem aiX {p:qf} (aB:p.1.length≤1000) {o:List Int} (ao:o.length≤1000):LF p o=some (r4 p o):=by
 unfold LF r4;rw [Zz aB,sb,sb];by_cases h:rz p=0
 ·rw [if_neg (show ¬ decide (rz p≠0)=true by simpa using h),if_neg (show ¬ rz p≠0 by simpa using h)];by_cases aI:o.length=p.1.length
  ·rw [if_neg (show ¬ decide ((o.length:Int)≠(p.1.length:Int))=true by simp [aI])];exact Wp ao aI qj 0 (by omega) (It (by omega)) ⟨by simp,by simp⟩
  ·rw [if_pos (show decide ((o.length:Int)≠(p.1.length:Int))=true from decide_eq_true (by omega)),if_neg (fun k=>aI k.1)]
 ·rw [if_pos (decide_eq_true h),if_pos h]
theorem ahM:Sort.SWO Sort.ltInt:=by
 constructor <;> intros <;> simp_all [Sort.ltInt] <;> omega
theorem YE (l:List Int):(Ju l).Perm l∧(Ju l).Pairwise (·≤·):=by
 obtain ⟨⟨ab,_,aF⟩,ba⟩:=Sort.insertionSort_holds (lt:=Sort.ltInt) ahM l.toArray 0 l.length (sE _) (by simp);unfold Ju;generalize Sort.insertionSort Sort.ltInt l.toArray 0 l.length=d at ab aF ba;have ab:d.size=l.length:=by simpa using ab
 have e1:(d.extract 0 l.length).toList=d.toList:=by rw [←ab];simp
 have b':(l.toArray.extract 0 l.length).toList=l:=by simp
 rw [e1,b'] at aF;refine ⟨aF,List.pairwise_iff_getElem.2 fun i j hi aw h_=>?_⟩;have hi':i<d.size:=by simpa using hi
 have ef:j<d.size:=by simpa using aw
 have:=ba i j (sE _) h_ (by omega);rw [getElem!_pos d i hi',getElem!_pos d j ef] at this;simp only [Sort.ltInt,decide_eq_false_iff_not] at this;simp only [Array.getElem_toList];omega
theorem Su {n:Nat} {x:Int}:x∈ql n↔0≤x∧x<(n:Int):=by
 simp only [ql,sD,sH];exact ⟨by rintro ⟨i,hi,rfl⟩;omega,fun h=>⟨x.toNat,by omega,by omega⟩⟩
theorem YX (n:Nat):(ql n).Pairwise (·<·):=by
 unfold ql;rw [List.pairwise_map];exact List.pairwise_lt_range.imp fun h=>by omega
theorem ahU (n:Nat):(ql n).Nodup:=ahf (YX n)
theorem W5:∀ {a b:List Int},a.Nodup→(∀ x∈a,x∈b)→b.length≤a.length→a.Perm b
 | [],b,_,_,h=>by
   rw [sP.1 (show b.length=0 by simpa using h)]
 | x::a,b,aI,ah,h=>by
   have aj:x∈b:=ah x (by simp);obtain ⟨ab,ae⟩:=tU.1 aI;refine (List.Perm.cons x (W5 (b:=b.erase x) ae (fun y aY=>?_) ?_)).trans (List.perm_cons_erase aj).symm
   ·exact (List.mem_erase_of_ne (fun e=>ab (by rw [←e];exact aY))).2 (ah y (by simp [aY]))
   ·rw [List.length_erase_of_mem aj];simp at h;omega
theorem Nk {n:Nat} {o:List Int}:qu n o↔o.Perm (ql n):=by
 constructor
 ·rintro ⟨ab,ae,aF⟩;exact W5 ae (fun x aj=>Su.2 (aF x aj)) (by simp [ql,ab])
 ·intro h;exact ⟨by rw [h.length_eq];simp [ql],h.nodup_iff.2 (ahU n),fun x aj=>Su.1 (h.mem_iff.1 aj)⟩
theorem afI {n:Nat} {o:List Int}:qu n o↔o∈ri n (ql n):=by
 rw [Nk,PM n _ _ (by simp [ql])]
theorem YF {l:List Int}:(∀ j:Nat,j<(Ju l).length→ix (Ju l) (j:Int)=(j:Int))↔qu l.length l:=by
 obtain ⟨ab,ae⟩:=YE l;have ao:=ab.length_eq;constructor
 ·intro h;have e:Ju l=ql l.length:=by
   refine List.ext_getElem (by simp [ql,ao]) fun j a b=>?_;have:=h j a;rw [rJ a] at this;rw [this];simp [ql]
  rw [Nk,←e];exact ab.symm
 ·intro h;have e:Ju l=ql l.length:=by
   refine List.Perm.eq_of_pairwise (le:=fun (a b:Int)=>a≤b) (fun a b _ _ x y=>by omega) ae ((YX _).imp fun h=>by omega) (ab.trans (Nk.1 h))
  intro j aw;rw [rJ aw];simp only [e];simp [ql]
theorem Wn {eK:List Int} (ai:eK.length≤1000) {K:Option (Option (qf×Unit)×Int)}:∀ (m i:Nat),i≤eK.length→eK.length-i<m→(∀ j,j<i→ix eK (j:Int)=(j:Int)) →
  IM eK (fun _=>K) m (i:Int)=if ∀ j:Nat,j<eK.length→ix eK (j:Int)=(j:Int) then K else some (none,16)
 | 0,_,_,h,_=>absurd h (by omega)
 | m+1,i,hi,hm,aw=>by
   rw [IM];by_cases aR:i<eK.length
   ·rw [if_pos (decide_eq_true (by omega)),qF (by omega),Ik i (by omega)];by_cases al:ix eK (i:Int)=(i:Int)
    ·rw [if_neg (by simpa using al)];refine Wn ai m (i+1) (by omega) (by omega) fun j gi=>?_;by_cases e:j=i
     ·rw [e];exact al
     ·exact aw j (by omega)
    ·rw [if_pos (decide_eq_true al),if_neg (fun h=>al (h i aR))]
   ·rw [if_neg (by simpa using by omega),if_pos fun j ao=>aw j (by omega)]
theorem QB {p:qf} (aB:p.1.length≤1000) {o:List Int} (ao:o.length≤12):rV p [o]=some (if r4 p o=0 then (some (p,()),0) else (none,r4 p o)):=by
 unfold rV r4;rw [ZO aB,sb];by_cases h:rz p=0
 ·rw [if_neg (show ¬ decide (rz p≠0)=true by simpa using h)];rw [if_neg (show ¬ rz p≠0 by simpa using h)];obtain ⟨m,hm⟩:=RI;rw [show HE p [o] (fun _=>some (some (p,()),0)) qj 0=HE p [o] (fun _=>some (some (p,()),0)) (m+2) 0 by rw [hm],HE.eq_2,if_pos (show decide ((0:Int)<(([o]:List (List Int)).length:Int))=true from rfl),qF ⟨sQ _,show (0:Int)<(1:Int) by decide⟩,show ix [o] (0:Int)=o from rfl];rw [show QD o=some () from rfl,sb,show QC o=some (Ju o) from if_pos ao,sb];have ah:=YE o;have DG:=ah.1.length_eq;rw [show (0:Int)=((0:Nat):Int) from rfl,Wn (by omega) qj 0 (by omega) (It (by omega)) (fun j h=>absurd h (by omega))];by_cases ab:qu o.length o
  ·rw [if_pos (YF.2 ab)];by_cases aI:o.length=p.1.length
   ·rw [if_neg (show ¬ decide ((o.length:Int)≠(p.1.length:Int))=true by simp [aI]),if_pos (by rw [←aI,if_pos ab]),show w (((0:Nat):Int)+1)=1 from rfl,HE.eq_2];rfl
   ·have ft:¬ qu p.1.length o:=fun k=>aI k.1;rw [if_pos (show decide ((o.length:Int)≠(p.1.length:Int))=true from decide_eq_true (by omega)),if_neg ft];rfl
  ·have ft:¬ qu p.1.length o:=fun k=>ab (by rw [k.1];exact k);rw [if_neg (fun k=>ab (YF.1 k)),if_neg ft];rfl
 ·rw [if_pos (decide_eq_true h),if_pos h,if_neg h]
theorem TG {p:qf} (aB:p.1.length≤1000):rV p []=some (if rz p=0 then (some (p,()),0) else (none,rz p)):=by
 unfold rV;rw [ZO aB,sb];by_cases h:rz p=0
 ·rw [if_neg (show ¬ decide (rz p≠0)=true by simpa using h),if_pos h];obtain ⟨m,hm⟩:=RI;rw [show HE p [] (fun _=>some (some (p,()),0)) qj 0=HE p [] (fun _=>some (some (p,()),0)) (m+2) 0 by rw [hm],HE.eq_2];rfl
 ·rw [if_pos (decide_eq_true h),if_neg h]
structure rj (p:qf):Prop where
 n:p.1.length=3∨p.1.length=5∨p.1.length=7
 s:∀ s∈p.1,qY s
 lo:0≤p.2.1
 le:p.2.1≤p.2.2
 hi:p.2.2≤50
theorem IV {p:qf}:rz p=0↔rj p:=by
 unfold rz;constructor
 ·intro h;split at h
  ·rename_i ab;split at h
   ·rename_i ae;exact ⟨ab,ae.1,ae.2.1,ae.2.2.1,ae.2.2.2⟩
   ·omega
  ·omega
 ·intro h;rw [if_pos h.n,if_pos ⟨h.s,h.lo,h.le,h.hi⟩]
theorem Mt {p:qf} {o:List Int}:r4 p o=0↔rj p∧qu p.1.length o:=by
 unfold r4;by_cases h:rz p=0
 ·rw [if_neg (by simpa using h)];by_cases ab:qu p.1.length o
  ·rw [if_pos ab];exact ⟨fun _=>⟨IV.1 h,ab⟩,fun _=>rfl⟩
  ·rw [if_neg ab];exact ⟨fun k=>by omega,fun k=>absurd k.2 ab⟩
 ·rw [if_pos h];exact ⟨fun k=>absurd k h,fun k=>IV.2 k.1⟩
theorem Ho {S:List qq} {o:List Int} (h:qu S.length o):JM S o:=fun i hi=>h.2.2 _ (JD (by omega))
end Go.Proofs.YtkoioidpbbbaiaaGreat.Ab


namespace Go.Proofs.YtkoioidpbbbaiaaGreat.Ab
open Go
set_option maxRecDepth 20000
set_option maxHeartbeats 4000000
noncomputable def Z':gE :=
 p2 [p0 2 [.jq 0] .box,qh 4 0,qh 5 0] (p2 [p0 9 [.Bs 2] (.zE (.str 3)),p3 10 1,p0 11 [.Bs 10] (.yB 1 1 [.av [] 0 .full] [0]),p0 12 [.cv (.func 40 [] []),.nc 9,.nc 11] (.call 3),p1 8 12,qI 13 8 0,p0 14 [.Bs 8] (.ext 1),p1 6 13,p1 7 14] (.seq (p2 [p3 15 7,qE 16 15 0 .neq] (.cond (.nc 16) (p2 [p1 17 7,qh 4 0,p1 5 17] .ret) .skip)) (p2 [p1 18 6,p1 19 1,p0 20 [.cv (.func 41 [] []),.nc 18,.nc 19] (.call 3),p1 4 20,qh 5 0] .ret)))
theorem aeU:qt Tryz.prog Uu 29=some (Z',21,[.tmp 4,.tmp 5]):=by kernel_rfl
def I4 (p:(qd×(Int×Int))) (order:p_):Option (Int×Int) :=
 (rV p [order]).bind fun aS =>
 match aS with
 | (none,q1) =>
   if (decide (q1≠(0:Int)))=true then
    some ((0:Int),q1)
   else
    none
 | (some bU,q1) =>
   if (decide (q1≠(0:Int)))=true then
    some ((0:Int),q1)
   else
    (K9 (bU.1,()) order).bind fun bj =>
    some (bj,(0:Int))
theorem KB {p:(qd×(Int×Int))} {order:p_} {v:(Int×Int)} (h:I4 p order=some v):qB 29 [(.agg [(.av (p.1.flatMap p7) p.1.length .shared),(h0 p.2.1),(h0 p.2.2)]),(.av (order.map h0) order.length .shared)] (.tuple [(h0 v.1),(h0 v.2)]):=by
 refine qR eG aeU rfl (JG (p5 rfl (p5 rfl rfl))) fun Q bp=>?_;have jJ:qK [.tmp 4,.tmp 5] Q (fun v=>(.tuple [(h0 v.1),(h0 v.2)])) v:=fun T H bE=>bp _ T H bE;unfold I4 at h;unfold Z';conv=>whnf
 obtain ⟨aS,gM,h⟩:=p9 h;rcases aS with ⟨_ | bU,q1⟩
 ·refine ⟨(p5 (H6 (p5 (HD (fun _=>(p5 rfl (p5 rfl rfl))) _ _ _) (p5 rfl (p5 rfl rfl)))) (p5 (PS (p5 (rU (fun _=>rfl) _ _ _) rfl)) rfl)),_,N0 gM,?_⟩;conv=>whnf
  refine bs h (fun gN h=>?_) fun gN h=>?_
  ·rw [gN];(conv=>whnf);exact p8 h jJ rfl rfl
  ·rw [gN];(conv=>whnf);exact r0 h
 ·refine ⟨(p5 (H6 (p5 (HD (fun _=>(p5 rfl (p5 rfl rfl))) _ _ _) (p5 rfl (p5 rfl rfl)))) (p5 (PS (p5 (rU (fun _=>rfl) _ _ _) rfl)) rfl)),_,N0 gM,?_⟩;conv=>whnf
  refine bs h (fun qx h=>?_) fun qx h=>?_
  ·rw [qx];(conv=>whnf);exact p8 h jJ rfl rfl
  ·rw [qx];(conv=>whnf);obtain ⟨bj,qQ,h⟩:=p9 h;refine ⟨qa.pl,_,O6 qQ,?_⟩;(conv=>whnf);exact p8 h jJ rfl rfl

noncomputable def aaa:gE :=
 p2 [p0 3 [.jq 0] .box,qh 6 0,qh 7 0,qh 8 0] (p2 [p0 13 [.nc 3] (.zE (.str 3)),p3 14 1,p0 15 [.Bs 14] (.yB 1 1 [.av [] 0 .full] [0]),p0 16 [.cv (.func 40 [] []),.nc 13,.nc 15] (.call 3),p1 12 16,qI 17 12 0,p0 18 [.Bs 12] (.ext 1),p1 9 17,p1 10 18] (.seq (.block 0 (p2 [p3 20 10,qE 21 20 0 .neq,p1 19 21] (.cond (.nc 19) (p2 [p1 22 10,qh 6 0,qh 7 0,p1 8 22] .ret) (p2 [p0 24 [.nc 3] (.yM 1),qz 25 24 0,qi 26 25,qz 27 3 1,qz 28 27 1,qi 29 28,p3 30 2,p0 31 [.Bs 30] (.yB 1 1 [.int .i64 0] [0]),p0 32 [.cv (.func 50 [] []),.nc 26,.nc 29,.nc 31] (.call 3),p0 33 [.Bs 32] (.un .not),p1 23 33] (.cond (.nc 23) (p2 [qh 6 0,qh 7 0,qh 8 3] .ret) .skip))))) (p2 [p1 34 9,p1 35 1,p1 36 2,p0 37 [.cv (.func 63 [] []),.nc 34,.nc 35,.nc 36] (.call 3),p0 11 [] (.alloc [.int .i64 0,.int .i64 0]),⟨none,[.nc 11,.jq 37],none,none,.st 2⟩] (.seq (rA [p0 38 [.nc 11,.cv (.int .i64 0)] (.zu 2 1),qi 39 38,p0 40 [.nc 11,.cv (.int .i64 1)] (.zu 2 1),qi 41 40,p1 6 39,p1 7 41,qh 8 0]) .ret))))
theorem aeV:qt Tryz.prog Uv 30=some (aaa,42,[.tmp 6,.tmp 7,.tmp 8]):=by kernel_rfl
def JI (p:(qd×(Int×Int))) (order:p_) (rD:Int):Option (Int×Int×Int) :=
 (rV p [order]).bind fun aS =>
 match aS with
 | (none,q1) =>
   if (decide (q1≠(0:Int)))=true then
    some ((0:Int),(0:Int),q1)
   else
    (I5 p.2.1 p.2.2 [rD]).bind fun bj =>
    if bj=true then
     none
    else
     some ((0:Int),(0:Int),(3:Int))
 | (some bU,q1) =>
   if (decide (q1≠(0:Int)))=true then
    some ((0:Int),(0:Int),q1)
   else
    (I5 p.2.1 p.2.2 [rD]).bind fun eK =>
    if eK=true then
     (MT (bU.1,()) order rD).bind fun qW =>
     some (qW.1,qW.2,(0:Int))
    else
     some ((0:Int),(0:Int),(3:Int))
theorem Hw {p:(qd×(Int×Int))} {order:p_} {rD:Int} {v:(Int×Int×Int)} (h:JI p order rD=some v):qB 30 [(.agg [(.av (p.1.flatMap p7) p.1.length .shared),(h0 p.2.1),(h0 p.2.2)]),(.av (order.map h0) order.length .shared),(h0 rD)] (.tuple [(h0 v.1),(h0 v.2.1),(h0 v.2.2)]):=by
 refine qR eG aeV rfl (JG (p5 rfl (p5 rfl (p5 rfl rfl)))) fun Q bp=>?_;have jJ:qK [.tmp 6,.tmp 7,.tmp 8] Q (fun v=>(.tuple [(h0 v.1),(h0 v.2.1),(h0 v.2.2)])) v:=fun T H bE=>bp _ T H bE;unfold JI at h;unfold aaa;conv=>whnf
 obtain ⟨aS,gM,h⟩:=p9 h;rcases aS with ⟨_ | bU,q1⟩
 ·refine ⟨(p5 (H6 (p5 (HD (fun _=>(p5 rfl (p5 rfl rfl))) _ _ _) (p5 rfl (p5 rfl rfl)))) (p5 (PS (p5 (rU (fun _=>rfl) _ _ _) rfl)) rfl)),_,N0 gM,?_⟩;conv=>whnf
  refine bs h (fun gN h=>?_) fun gN h=>?_
  ·rw [gN];(conv=>whnf);exact p8 h jJ rfl rfl
  ·rw [gN];(conv=>whnf);obtain ⟨bj,qx,h⟩:=p9 h;refine ⟨(p5 rfl (p5 rfl (p5 rfl rfl))),_,LC qx,?_⟩;(conv=>whnf);cases bj
   ·(conv=>whnf);replace h:=rr rfl h;exact p8 h jJ rfl rfl
   ·(conv=>whnf);replace h:=rq rfl h;exact r0 h
 ·refine ⟨(p5 (H6 (p5 (HD (fun _=>(p5 rfl (p5 rfl rfl))) _ _ _) (p5 rfl (p5 rfl rfl)))) (p5 (PS (p5 (rU (fun _=>rfl) _ _ _) rfl)) rfl)),_,N0 gM,?_⟩;conv=>whnf
  refine bs h (fun qQ h=>?_) fun qQ h=>?_
  ·rw [qQ];(conv=>whnf);exact p8 h jJ rfl rfl
  ·rw [qQ];(conv=>whnf);obtain ⟨eK,qA,h⟩:=p9 h;refine ⟨(p5 rfl (p5 rfl (p5 rfl rfl))),_,LC qA,?_⟩;(conv=>whnf);cases eK
   ·(conv=>whnf);replace h:=rr rfl h;exact p8 h jJ rfl rfl
   ·(conv=>whnf);replace h:=rq rfl h;obtain ⟨qW,q5,h⟩:=p9 h;refine ⟨qa.pl,_,TQ q5,?_⟩;(conv=>whnf);refine ⟨by decide,?_⟩;(conv=>whnf);refine ⟨by decide,?_⟩;(conv=>whnf);exact p8 h jJ rfl rfl

noncomputable def QW:gE :=
 .loop (some (qc false [1,2,2,2,29])) (.seq (p2 [p3 12 6,p0 13 [.nc 2] (.yM 1),qz 14 13 1,qi 15 14,qn 16 12 15 .leq] (.cond (.nc 16) .skip (.exit 0))) (.seq (.block 1 (.seq (rA [p0 19 [.nc 2] (.zE (.str 3)),p3 20 1,p3 21 6,p0 22 [.cv (.func 65 [] []),.nc 19,.nc 20,.nc 21,.cv (.int .i64 0)] (.call 3),p0 23 [.nc 2] (.zE (.str 3)),p3 24 1,p3 25 6,p0 26 [.cv (.func 65 [] []),.nc 23,.nc 24,.nc 25,.cv (.int .i64 1)] (.call 3),p1 7 22,p1 8 26]) (qV [p1 27 5,p3 28 7,p1 29 7,p0 30 [.Bs 29] (.un .neg),p3 31 8,p1 32 8,p0 33 [.Bs 32] (.un .neg),p0 34 [.jq 27,.jq 28,.jq 30,.jq 31,.jq 33] .max,p1 5 34]))) (qV [p1 17 6,q2 18 17 1,p1 6 18])))
noncomputable def aai:gE :=
 p2 [p0 2 [.jq 0] .box,qh 4 0] (p2 [qh 5 0] (.seq (p2 [p0 9 [.nc 2] (.yM 1),qz 10 9 0,qi 11 10,p1 6 11] (.block 0 QW)) (p2 [p1 35 5,p1 4 35] .ret)))
theorem ae3:qt Tryz.prog Rg 39=some (aai,36,[.tmp 4]):=by kernel_rfl
def MN (p:(qd×(Int×Int))) (order:p_) (p':Int→Option Int):Nat→Int→Int→Option Int
 | 0,_,_=>none
 | m+1,s1,s2 =>
   if (decide (s2≤p.2.2))=true then
    (Kj p order s2 (0:Int)).bind fun aS =>
    (Kj p order s2 (1:Int)).bind fun bj =>
    MN p order p' m (max (max (max (max s1 aS) (w (-aS))) bj) (w (-bj))) (w (s2+(1:Int)))
   else
    p' s1
def Lz (p:(qd×(Int×Int))) (order:p_):Option Int :=
 MN p order (fun yn =>
   some yn) qj (0:Int) p.2.1
theorem aiK {p:(qd×(Int×Int))} {order:p_} {p':Int→Option Int} {s1:Int} {s2:Int} {v:Int} {Q:r1}   (rn:∀ (yn:Int) (bx:ar) (qb:List I),p' yn=some v→ra 36 [(5,(h0 yn))] qb→Q (.exit 0) qb [bx]) {T:List I} (b0:eZ (qc false [1,2,2,2,29]) T=qe 36 [(1,(qS order .shared)),(2,(.ptr 0 0)),(5,(h0 s1)),(6,(h0 s2))]) (h:MN p order p' qj s1 s2=some v) :
  dQ Tryz.prog Rg 39 0 none QW T [ar.cells [(qv p.1 .shared),(h0 p.2.1),(h0 p.2.2)]] Q:=by
 unfold QW;refine wp_loop b0 ?_;refine .intro (fun m T H=>∃ (s1 s2:Int),T=qe 36 [(1,(qS order .shared)),(2,(.ptr 0 0)),(5,(h0 s1)),(6,(h0 s2))]∧H=[ar.cells [(qv p.1 .shared),(h0 p.2.1),(h0 p.2.2)]]∧MN p order p' m s1 s2=some v) qj ⟨s1,s2,rfl,rfl,h⟩ ?_;clear h b0;rintro m T H ⟨s1,s2,rfl,rfl,h⟩;cases m
 ·exact r0 h
 rename_i m;rw [MN.eq_2] at h;conv=>whnf
 refine bs h (fun gM h=>?_) fun gM h=>?_
 ·rw [gM];conv=>whnf
  obtain ⟨aS,gN,h⟩:=p9 h;refine ⟨qa.pl,_,ZM gN,Hj,?_⟩;conv=>whnf
  obtain ⟨bj,qx,h⟩:=p9 h;refine ⟨qa.pl,_,ZM qx,(Uc (fun _ e=>by simp at e) Hj),?_⟩;conv=>whnf
  exact ⟨m,sv m,(max (max (max (max s1 aS) (w (-aS))) bj) (w (-bj))),(w (s2+(1:Int))),rfl,rfl,h⟩
 ·rw [gM];conv=>whnf
  exact rn _ _ _ h ⟨rfl,rfl⟩
theorem Zt {p:(qd×(Int×Int))} {order:p_} {v:Int} (h:Lz p order=some v):qB 39 [(.agg [(.av (p.1.flatMap p7) p.1.length .shared),(h0 p.2.1),(h0 p.2.2)]),(.av (order.map h0) order.length .shared)] (h0 v):=by
 refine qR eG ae3 rfl rfl fun Q bp=>?_;have jJ:qK [.tmp 4] Q (fun v=>(h0 v)) v:=fun T H bE=>bp _ T H bE;unfold Lz at h;unfold aai;obtain ⟨HK,qJ⟩:∃ c,QW=c:=⟨_,rfl⟩;rw [qJ];conv=>whnf
 subst qJ;refine aiK ?_ (by exact rfl) h;intro yn bx qb h qo;obtain ⟨re,rfl⟩:=qo.ex;conv=>whnf
 exact p8 h jJ rfl rfl

def TK (p:(qd×(Int×Int))) (order:p_):Option Int :=
 (Kj p order p.2.1 (0:Int)).bind fun aS =>
 (Kj p order p.2.1 (1:Int)).bind fun bj =>
 (Kj p order p.2.2 (0:Int)).bind fun eK =>
 (Kj p order p.2.2 (1:Int)).bind fun qW =>
 some (max (max (max (max (max (max (max aS (w (-aS))) bj) (w (-bj))) eK) (w (-eK))) qW) (w (-qW)))
end Go.Proofs.YtkoioidpbbbaiaaGreat.Ab


namespace Go.Proofs.YtkoioidpbbbaiaaGreat.Ab
open Go
set_option maxRecDepth 20000
set_option maxHeartbeats 1000000
abbrev q6 (p:qf) (o:List Int) (a:Nat) (d:Int):Int:=rh p.1 o a (q7 d)
def Hz (p:qf) (o:List Int) (d:Int):Int:=max (max (q6 p o 0 d) (-(q6 p o 0 d))) (max (q6 p o 1 d) (-(q6 p o 1 d)))
def qH (p:qf) (o:List Int):Int:=max (Hz p o p.2.1) (Hz p o p.2.2)
theorem acG (p:qf) (o:List Int) (d:Int):0≤Hz p o d:=by unfold Hz;omega
theorem Vk (p:qf) (o:List Int):0≤qH p o:=by have:=acG p o p.2.1;unfold qH;omega
theorem rj.len {p:qf} (h:rj p):3≤p.1.length∧p.1.length≤7:=by have:=h.n;omega
theorem qu.len {p:qf} {o:List Int} (h:rj p) (k:qu p.1.length o):o.length≤10:=by have:=h.len;have:=k.1;omega
theorem I1 {p:qf} {o:List Int} {a:Nat} {d:Int} (h:rj p) (k:qu p.1.length o) (a1:0≤d∧d≤50):-60000≤q6 p o a d∧q6 p o a d≤60000 :=
 afx (B:=600) (qu.len h k) (by omega) fun i hi=>M8 (Jt h.s (Ho k) hi) a1
theorem U' (p:qf) (o:List Int) (a:Nat) {lo d hi:Int} (ab:lo≤d) (ae:d≤hi):(q6 p o a lo≤q6 p o a d∧q6 p o a d≤q6 p o a hi)∨(q6 p o a hi≤q6 p o a d∧q6 p o a d≤q6 p o a lo):=by
 simp only [q6,afz];generalize rh p.1 o a Prod.snd=B;rcases Int.le_total 0 B with h | h
 ·have:=uE ab h;have:=uE ae h;omega
 ·have:=Int.mul_le_mul_of_nonpos_left h ab;have:=Int.mul_le_mul_of_nonpos_left h ae;omega
theorem Ry {p:qf} {o:List Int} {lo d hi:Int} (ab:lo≤d) (ae:d≤hi):Hz p o d≤max (Hz p o lo) (Hz p o hi):=by
 have a:=U' p o 0 ab ae;have b:=U' p o 1 ab ae;unfold Hz;omega
theorem afq (a b c d:Int):max (max (max (max (max (max (max (max 0 a) (-a)) b) (-b)) c) (-c)) d) (-d)=max (max (max a (-a)) (max b (-b))) (max (max c (-c)) (max d (-d))):=by
 rw [show max (max 0 a) (-a)=max a (-a) by omega];simp only [Int.max_assoc]
section
variable {p:qf} {o:List Int}
theorem O5 (h:rj p) (k:qu p.1.length o):K9 (p,()) o=some (qH p o):=by
 have hle:=h.le;have bD:=h.lo;have GO:=h.hi;unfold K9;have fL:=qu.len h k;rw [TP (b:=(p,())) h.s (Ho k) fL k.1.symm (show 0≤p.2.1∧p.2.1≤50 by omega),sb,TP (b:=(p,())) h.s (Ho k) fL k.1.symm (show 0≤p.2.2∧p.2.2≤50 by omega),sb];have aA:=I1 (a:=0) h k (show 0≤p.2.1∧p.2.1≤50 by omega);have aG:=I1 (a:=1) h k (show 0≤p.2.1∧p.2.1≤50 by omega);have aT:=I1 (a:=0) h k (show 0≤p.2.2∧p.2.2≤50 by omega);have br:=I1 (a:=1) h k (show 0≤p.2.2∧p.2.2≤50 by omega);simp only;rw [qC (n := -(q6 p o 0 p.2.1)) (by omega),qC (n := -(q6 p o 1 p.2.1)) (by omega),qC (n := -(q6 p o 0 p.2.2)) (by omega),qC (n := -(q6 p o 1 p.2.2)) (by omega)];exact congrArg some (afq _ _ _ _)
theorem ZN (h:rj p) (k:qu p.1.length o) {d:Int} (a1:0≤d∧d≤50) {a:Nat}:Kj p o d (a:Int)=some (q6 p o a d):=ai7 h.s (Ho k) (qu.len h k) a1
theorem acQ {n:Nat} (h:n≤1000000):n<qj:=It h
theorem Wj (h:rj p) (k:qu p.1.length o):∀ (m i:Nat) (s:Int),p.2.1+i≤p.2.2+1→(p.2.2+1-(p.2.1+i)).toNat<m→0≤s→s≤qH p o→(0<i→Hz p o p.2.1≤s)→(p.2.1+i=p.2.2+1→Hz p o p.2.2≤s) →
  MN p o (fun z=>some z) m s (p.2.1+i)=some (qH p o)
 | 0,_,_,_,h,_,_,_,_=>absurd h (by omega)
 | m+1,i,s,hi,hm,aQ,ab,ae,aF=>by
   have hle:=h.le;have bD:=h.lo;have GO:=h.hi;rw [MN];by_cases aR:p.2.1+i≤p.2.2
   ·rw [if_pos (decide_eq_true aR)];rw [show (0:Int)=((0:Nat):Int) from rfl,ZN h k (d:=p.2.1+i) (by omega),sb];rw [show (1:Int)=((1:Nat):Int) from rfl,ZN h k (d:=p.2.1+i) (by omega),sb];have aA:=I1 (a:=0) h k (show 0≤p.2.1+i∧p.2.1+i≤50 by omega);have aG:=I1 (a:=1) h k (show 0≤p.2.1+i∧p.2.1+i≤50 by omega);rw [qC (n := -(q6 p o 0 (p.2.1+i))) (by omega),qC (n := -(q6 p o 1 (p.2.1+i))) (by omega),qC (by omega)];(have e:max (max (max (max s (q6 p o 0 (p.2.1+i))) (-(q6 p o 0 (p.2.1+i)))) (q6 p o 1 (p.2.1+i))) (-(q6 p o 1 (p.2.1+i)))=max s (Hz p o (p.2.1+i)):=by unfold Hz;simp only [Int.max_assoc]);have b:=Ry (p:=p) (o:=o) (lo:=p.2.1) (d:=p.2.1+i) (hi:=p.2.2) (by omega) aR;rw [e,show p.2.1+(i:Int)+((1:Nat):Int)=p.2.1+((i+1:Nat):Int) by omega];refine Wj h k m (i+1) _ (by omega) (by omega) (by omega) (by unfold qH at *;omega) (fun _=>?_) (fun he=>?_)
    ·by_cases gb:i=0
     ·subst gb;simp only [Int.natCast_zero,Int.add_zero];omega
     ·have:=ae (by omega);omega
    ·rw [show p.2.1+(i:Int)=p.2.2 by omega];omega
   ·rw [if_neg (by simpa using by omega)];have:=ae (by omega);have:=aF (by omega);congr 1;unfold qH at *;omega
theorem Zs (h:rj p) (k:qu p.1.length o):Lz p o=some (qH p o):=by
 have hle:=h.le;have bD:=h.lo;have GO:=h.hi;unfold Lz;have:=Wj h k qj 0 0 (by omega) (acQ (by omega)) (by omega) (Vk p o) (fun h=>absurd h (by omega)) (fun h=>by omega);simpa using this
theorem Qw (aB:p.1.length≤1000) (ao:o.length≤12):I4 p o=some (if r4 p o=0 then (qH p o,0) else (0,r4 p o)):=by
 unfold I4;rw [QB aB ao,sb];by_cases h:r4 p o=0
 ·rw [if_pos h,if_pos h];obtain ⟨ab,ae⟩:=Mt.1 h;simp only;rw [if_neg (by decide),O5 ab ae];rfl
 ·rw [if_neg h,if_neg h];simp only;rw [if_pos (decide_eq_true h)]
theorem TC (aB:p.1.length≤1000) (ao:o.length≤12) (d:Int):JI p o d=some (if r4 p o=0 then (if p.2.1≤d∧d≤p.2.2 then (q6 p o 0 d,q6 p o 1 d,0) else (0,0,3)) else (0,0,r4 p o)):=by
 unfold JI;rw [QB aB ao,sb];by_cases h:r4 p o=0
 ·rw [if_pos h,if_pos h];obtain ⟨ab,ae⟩:=Mt.1 h;have hle:=ab.le;have bD:=ab.lo;have GO:=ab.hi;simp only;rw [if_neg (by decide),N1,sb];by_cases a1:p.2.1≤d∧d≤p.2.2
  ·rw [if_pos (by simp [a1.1,a1.2]),if_pos a1,TP (b:=(p,())) ab.s (Ho ae) (qu.len ab ae) ae.1.symm (by omega)];rfl
  ·rw [if_neg (by simpa using a1),if_neg a1]
 ·rw [if_neg h,if_neg h];simp only;rw [if_pos (decide_eq_true h)]
end
end Go.Proofs.YtkoioidpbbbaiaaGreat.Ab


namespace Go.Proofs.YtkoioidpbbbaiaaGreat.Ab
open Go
noncomputable def P5:gE :=
 .seq (rA [p0 37 [.nc 10] (.zE (.str 2)), p0 38 [] (.build [.int .i64 0, .int .i64 0] []), p0 39 [.Bs 37, .Bs 38] (.other (Oper.mk (some 39) (Op.binOp .eql 117 (Operand.tmp 37) (Operand.tmp 38) 117) 4 "press.go:129" (Array.mk [Edge.mk 0 Ground.data, Edge.mk 1 Ground.data]) none) 0), p1 40 39, cl 41 [.jq 11] 40 false .mU, cl 42 [.jq 41] 40 false .mU, cl 43 [.nc 10] 42 true (.yM 0), cl 44 [.Bs 43] 42 true (.zE .one), cl 45 [.nc 10] 42 true (.yM 1), cl 46 [.Bs 45] 42 true (.zE .one), cl 47 [.jq 0] 42 true .mU, cl 48 [.Bs 47] 42 true .z4, cl 49 [.Bs 48] 42 true (.yM 0), cl 50 [.Bs 49] 42 true (.yM 1), cl 51 [.Bs 50] 42 true (.yM 0), cl 52 [.Bs 51] 42 true (.zE .one), cl 53 [.Bs 46, .Bs 52] 42 true (.bin .mul), cl 54 [.Bs 44, .Bs 53] 42 true (.bin .add), cl 55 [.Bs 54, .cv (.int .i64 0)] 42 true (.bin .eql), cl 56 [.nc 42, .Bs 55, .cv (.bool false)] 40 false .pick, p0 57 [.nc 40, .cv (.bool true), .Bs 56] .pick, p0 8 [.cv (.av [] 0 .full)] (.nil 3), p1 9 57]) .ret
noncomputable def SZ:gE :=
 .ov false [p3 80 0,p0 81 [.Bs 80] .z4,qz 82 81 3,qi 83 82,p3 84 0,p3 85 3,p0 86 [.Bs 85,.cv (.int .i64 0)] (.kY 1),qi 87 86,p0 88 [.cv (.func 77 [] []),.jq 84,.jq 87] (.call 9),p3 89 12,⟨none,[.Bs 83,.Bs 88,.Bs 89],none,none,.zR (.int .i64)⟩]
noncomputable def P6:gE :=
 p2 [p3 73 0,p3 74 0,p3 75 3,p0 76 [.Bs 75,.cv (.int .i64 0)] (.kY 1),qi 77 76,p0 78 [.cv (.func 77 [] []),.jq 74,.jq 77] (.call 9),p0 79 [.cv (.func 81 [] []),.nc 73,.nc 78] (.call 2),p1 12 79] SZ
noncomputable def S1:gE :=
 .ov true [p0 98 [.nc 10] (.yM 0),qi 99 98,p0 100 [.Bs 99] (.un .neg),p0 101 [.nc 10] (.yM 1),qi 102 101,p1 103 0,p0 104 [.Bs 103] .z4,qz 105 104 0,qz 106 105 1,qz 107 106 0,qi 108 107,qn 109 102 108 .mul,qn 110 100 109 .sub,p0 111 [.Bs 110,.cv (.int .i64 0)] (.build [.int .i64 0,.int .i64 0] [(0,1),(1,1)]),⟨none,[.nc 14,.jq 111],none,none,.st 2⟩]
noncomputable def X1:gE :=
 .seq (rA [p1 120 1,p1 121 3,p0 122 [.Bs 121,.cv (.int .i64 0)] (.kY 1),qi 123 122,rv 124 120 123 1,qi 125 124,p0 126 [.Bs 15] (.zE (.str 2)),p0 127 [.Bs 125,.Bs 126] (.build [.int .i64 0,.int .i64 0,.int .i64 0] [(0,1),(1,2)]),p0 128 [.Bs 127] (.yB 1 3 [.int .i64 0,.int .i64 0,.int .i64 0] [0]),p1 8 128,p0 9 [.cv (.bool true)] .mU]) .ret
noncomputable def P7:gE :=
 .seq (p2 [p1 118 13,p0 119 [.Bs 118] (.un .not)] (.cond (.nc 119) (p2 [p0 8 [.cv (.av [] 0 .full)] (.nil 3),p0 9 [.cv (.bool false)] .mU] .ret) .skip)) X1
noncomputable def P8:gE :=
 p2 [p1 113 12,p0 114 [.Bs 14] (.zE (.str 2)),p0 115 [.Bs 113,.Bs 114] (.zQ (.str 2) true (some (.agg [.int .i64 0,.int .i64 0]))),p1 112 115,qI 116 112 0,p0 117 [.Bs 112] (.ext 1),p0 15 [] (.alloc [.int .i64 0,.int .i64 0]),⟨none,[.nc 15,.jq 116],none,none,.st 2⟩,p1 13 117] P7
noncomputable def OL:gE :=
 p2 [p0 90 [.nc 10] (.yM 0),qi 91 90,p0 92 [.Bs 91] (.un .neg),p0 93 [.nc 10] (.yM 1),qi 94 93,p0 95 [.Bs 94] (.un .neg),p0 96 [.Bs 92,.Bs 95] (.build [.int .i64 0,.int .i64 0] [(0,1),(1,1)]),p0 14 [] (.alloc [.int .i64 0,.int .i64 0]),⟨none,[.nc 14,.jq 96],none,none,.st 2⟩] (.seq (p2 [p1 97 11] (.cond (.nc 97) S1 .skip)) P8)
noncomputable def NC:gE :=
 p2 [p3 59 0,p0 60 [.Bs 59] .z4,qz 61 60 3,qi 62 61,p3 63 0,p3 64 3,p0 65 [.Bs 64,.cv (.int .i64 0)] (.kY 1),qi 66 65,p0 67 [.cv (.func 77 [] []),.jq 63,.jq 66] (.call 9),p0 68 [.Bs 62,.Bs 67] (.zQ (.int .i64) true (some .a0)),p1 58 68,qI 69 58 0,qI 70 58 1,p1 12 69,p1 13 70] (.seq (p2 [p1 71 13,p0 72 [.Bs 71] (.un .not)] (.cond (.nc 72) P6 .skip)) OL)
noncomputable def OK:gE :=
 .seq (rA [p3 21 0,p0 22 [.Bs 21] .z4,qz 23 22 0,qz 24 23 1,qz 25 24 0,qi 26 25,p3 27 0,p0 28 [.Bs 27] .z4,qz 29 28 0,qz 30 29 1,qz 31 30 1,qi 32 31,qn 33 26 32 .eql,p1 11 33]) (.seq (p2 [p3 34 3,q3 35 34,qE 36 35 0 .eql] (.cond (.nc 36) P5 .skip)) NC)
noncomputable def SY:gE :=
 p2 [p3 16 0,p3 17 1,p1 18 2,p3 19 3,p0 20 [.cv (.func 80 [] []),.jq 16,.jq 17,.jq 18,.jq 19] (.call 9),p0 10 [] (.alloc [.int .i64 0,.int .i64 0]),⟨none,[.nc 10,.jq 20],none,none,.st 2⟩] OK
noncomputable def P4:gE :=
 p2 [p0 8 [.cv (.av [] 0 .full)] (.nil 3),p0 9 [.cv (.bool false)] .mU] SY
theorem Sq:qt Go.Proofs.Tryz.prog M6 60=some (P4,129,[.tmp 8,.tmp 9]):=by kernel_rfl
end Go.Proofs.YtkoioidpbbbaiaaGreat.Ab


namespace Go.Proofs.YtkoioidpbbbaiaaGreat.Ab
open Go
set_option maxRecDepth 20000
set_option maxHeartbeats 4000000
abbrev Hf:=((List (Int×Int))×(Int×Int))×Unit
abbrev rY (b:Hf) (m:Nat):I:=.bS [.av (b.1.1.flatMap p7) b.1.1.length .shared,h0 b.1.2.1,h0 b.1.2.2,.map m]
def H3 (b:Hf) (m:Nat) (H:List ar):Prop:=∃ (es:List (Nat×I×I)) (I7:Nat),H[m]?=some (.map es I7) ∧
 ∀ e∈es,∃ (x:Int) (id c:Nat) (A:rp),e.2.1=h0 x∧e.2.2=.map id∧id≠m∧H[id]?=some (.map (ru A) c)∧N3 b x=some A
theorem H3.more {b:Hf} {m:Nat} {H:List ar} (h:H3 b m H) (Z:List ar):H3 b m (H++Z):=by
 obtain ⟨es,I7,ab,ae⟩:=h;refine ⟨es,I7,by rw [si (sa.1 ab).1];exact ab,fun e he=>?_⟩;obtain ⟨x,id,c,A,aA,aG,aT,br,bg⟩:=ae e he;exact ⟨x,id,c,A,aA,aG,aT,by rw [si (sa.1 br).1];exact br,bg⟩
theorem Vo {x:Int}:∀ {es:List (Nat×I×I)} {n:Nat},(∀ e∈es,∃ y:Int,e.2.1=h0 y)→(∃ i e,fH (h0 x) es n=some (some (n+i))∧es[i]?=some e∧e.2.1=h0 x)∨fH (h0 x) es n=some none
 | [],n,_=>.inr rfl
 | (i,k,v)::es,n,h=>by
   obtain ⟨y,aY⟩:=h (i,k,v) (by simp);simp only at aY;subst aY;have he:gK (h0 x) (h0 y)=some (decide (x=y)):=by
    simp only [gK,if_true,Option.some.injEq];rw [vE];simp
   by_cases e:x=y
   ·subst e;refine .inl ⟨0,_,?_,rfl,rfl⟩;simp only [fH,he,decide_true];rfl
   ·rcases Vo (x:=x) (es:=es) (n:=n+1) (fun e he=>h e (by simp [he])) with ⟨j,b',ab,ae,aF⟩ | ab
    ·refine .inl ⟨j+1,b',?_,by simpa using ae,aF⟩;simp only [fH,he];rw [decide_eq_false e];show fH (h0 x) es (n+1)=_;rw [ab];congr 2;omega
    ·refine .inr ?_;simp only [fH,he];rw [decide_eq_false e];exact ab
def Im (m:Nat) (H H':List ar):Prop:=H.length≤H'.length∧∀ j,j≠m→j<H.length→H'[j]?=H[j]?
def IC (b:Hf) (order:List Int) (qm:Int) (Mp:List Int):Option (List qy×Bool) :=
 (MX b order qm Mp).bind fun left =>
 match Mp with
 | []=>some ([],decide (left=(0,0)) || (decide (b.1.2.1=b.1.2.2) && decide (w (left.1+w (left.2*b.1.2.1))=0)))
 | cy::_ =>
   (K_ b cy).bind fun x=>(N3 b x).bind fun A =>
   match J9 A (if b.1.2.1=b.1.2.2 then (w (w (-left.1)-w (left.2*b.1.2.1)),0) else (w (-left.1),w (-left.2))) with
   | none=>some ([],false)
   | some s=>qk (0≤cy∧cy<(order.length:Int)) <| some ([(ix order cy,s)],true)
theorem ZK {b:Hf} {order:List Int} {qm:Int} {v:List qy×Bool} (h:IC b order qm []=some v) {m lo:Nat} {H:List ar} (bD:lo≤H.length) :
  v.1=[]∧∃ o,Sem Tryz.prog (.fn 60) [rY b m,.av (order.map h0) order.length .shared,h0 qm,.av [] 0 .full] H lo (.tuple [.av [] 0 .shared,B v.2]) (H++[o]):=by
 unfold IC at h;obtain ⟨left,ao,h⟩:=p9 h;obtain rfl:=Option.some.inj h;refine ⟨rfl,.cells [h0 left.1,h0 left.2],?_⟩;refine rI eG Sq rfl (a'.append _ _ _) fun Q bp=>?_;unfold P4 SY;obtain ⟨abQ,Li⟩:∃ c,OK=c:=⟨_,rfl⟩;rw [Li];conv=>whnf
 refine ⟨_,_,call9 (bs:=[lp b,.av (order.map h0) order.length .shared,h0 qm,.av (([]:List Int).map h0) ([]:List Int).length .shared]) rfl (p5 (Ii b) (p5 (rU (fun _=>rfl) _ _ _) (p5 rfl (p5 rfl rfl)))) (QJ ao),?_⟩;conv=>whnf
 rw [tj bD];refine Ew (x:=ar.cells [h0 0,h0 0]) (by first | exact qp.h | rfl | (simp [sc,I.settle];done)) ?_
 conv=>whnf
 rw [rZ];subst Li;unfold OK;obtain ⟨B9,LS⟩:∃ c,NC=c:=⟨_,rfl⟩;obtain ⟨a7,cf⟩:∃ c,P5=c:=⟨_,rfl⟩;rw [LS,cf];conv=>whnf
 subst cf;unfold P5;conv=>whnf
 refine Ew (x:=ar.cells [h0 left.1,h0 left.2]) (by first | exact qp.h | rfl | (simp [sc,I.settle];done)) ?_
 conv=>whnf
 refine ⟨.bool (decide (left=(0,0))),_,fun C=>W' rfl rfl (aaP (fs:=acP Tryz.prog 117) (by kernel_rfl) (by kernel_rfl) (by kernel_rfl) (by kernel_rfl) (by kernel_rfl) _ _ _ _ (.inl rfl)),?_⟩;conv=>whnf
 by_cases bk:left=(0,0)
 ·rw [decide_eq_true bk];conv=>whnf
  rw [decide_eq_true bk] at bp;exact bp _ _ _ ⟨.inr rfl,lI.refl _,rfl⟩
 ·rw [decide_eq_false bk];rw [decide_eq_false bk] at bp;conv=>whnf
  by_cases aq:b.1.2.1=b.1.2.2
  ·rw [decide_eq_true aq];rw [decide_eq_true aq] at bp;(conv=>whnf);refine Ew (x:=ar.cells [h0 left.1,h0 left.2]) (by first | exact qp.h | rfl | (simp [sc,I.settle];done)) ?_
   (conv=>whnf);refine Ew (x:=ar.cells [h0 left.1,h0 left.2]) (by first | exact qp.h | rfl | (simp [sc,I.settle];done)) ?_
   (conv=>whnf);exact bp _ _ _ ⟨.inr rfl,lI.refl _,rfl⟩
  ·rw [decide_eq_false aq];rw [decide_eq_false aq] at bp;(conv=>whnf);exact bp _ _ _ ⟨.inr rfl,lI.refl _,rfl⟩
theorem YR {b:Hf} {order:List Int} {cy:Int} {left:q9} {A:rp} {v:List qy×Bool} (h:(match J9 A (if b.1.2.1=b.1.2.2 then (w (w (-left.1)-w (left.2*b.1.2.1)),0) else (w (-left.1),w (-left.2))) with
  | none=>some ([],false)
  | some s=>qk (0≤cy∧cy<(order.length:Int)) <| some ([(ix order cy,s)],true))=some v) {m lo p10 id c:Nat} {H:List ar} {Y4 Y9 Y_ Y' Qq Za Qs YY:I} (bD:lo≤H.length) (dp:H[p10]?=some (.cells [h0 left.1,h0 left.2])) (aE:H[id]?=some (.map (ru A) c)) {Q:cQ→List I→List ar→Prop}
  (bp:∀ T bx bK,(rX (H++[bx,bK]) T [.tmp 8,.tmp 9]).map jg=some (.tuple [.av (v.1.flatMap qw) v.1.length .shared,B v.2])→Q .ret T (H++[bx,bK])) :
  dQ Tryz.prog M6 60 lo none OL (qe 129 [(0,rY b m),(1,.av (order.map h0) order.length .shared),(3,.av [h0 cy] 1 (.own 1)),(8,Za),(9,Qs),(10,.ptr p10 0),(11,.bool (decide (b.1.2.1=b.1.2.2))),(12,.map id),(13,YY),(36,Y4),(58,Y9),(72,Y_),(73,Y'),(78,Qq)]) H Q:=by
 have Li:∀ Z,(H++Z)[p10]?=some (.cells [h0 left.1,h0 left.2]):=fun Z=>by rw [si (sa.1 dp).1];exact dp
 have gid:∀ Z,(H++Z)[id]?=some (.map (ru A) c):=fun Z=>by rw [si (sa.1 aE).1];exact aE
 obtain ⟨Kg,Om⟩:∃ Kg,Kg=(if b.1.2.1=b.1.2.2 then (w (w (-left.1)-w (left.2*b.1.2.1)),0) else (w (-left.1),w (-left.2))):=⟨_,rfl⟩;rw [←Om] at h;have fin:∀ v0 Zb,dQ Tryz.prog M6 60 lo none P8 (qe 129 [(0,v0),(1,.av (order.map h0) order.length .shared),(3,.av [h0 cy] 1 (.own 1)),(8,Za),(9,Qs),(10,.ptr p10 0),(12,.map id),(13,YY),(14,.ptr H.length 0),(36,Y4),(58,Y9),(72,Y_),(73,Y'),(78,Qq),(97,Zb)]) (H++[ar.cells [h0 Kg.1,h0 Kg.2]]) Q:=by
  intro v0 Zb;unfold P8;obtain ⟨f',Hv⟩:∃ c,P7=c:=⟨_,rfl⟩;rw [Hv];conv=>whnf
  refine Ew (x:=ar.cells [h0 Kg.1,h0 Kg.2]) (by first | exact qp.h | rfl | (simp [sc,I.settle];done)) ?_
  conv=>whnf
  rcases aeH Kg A with ⟨s,i,e,aJ,aN,cb,hq⟩ | ⟨aJ,aN⟩
  ·rw [aJ] at h;obtain ⟨jT,h⟩:=q_ h;obtain rfl:=Option.some.inj h;refine ⟨rfl,_,_,gid _,some i,aN,e,cb,?_⟩;rw [hq];(conv=>whnf);rw [tj (show lo≤(H++[ar.cells [h0 Kg.1,h0 Kg.2]]).length by simp;omega)];refine Ew (x:=ar.cells [h0 0,h0 0]) (by first | exact qp.h | rfl | (simp [sc,I.settle];done)) ?_
   (conv=>whnf);rw [rZ];subst Hv;unfold P7 X1;(conv=>whnf);refine ⟨⟨sQ _,by decide⟩,?_⟩;(conv=>whnf);refine ⟨jT,?_⟩;rw [rG h0 order cy jT];(conv=>whnf);refine Ew (x:=ar.cells [h0 s.1,h0 s.2]) (by first | exact qp.h | rfl | (simp [sc,I.settle];done)) ?_
   (conv=>whnf);rw [sy];exact bp _ _ _ rfl
  ·rw [aJ] at h;obtain rfl:=Option.some.inj h;refine ⟨rfl,_,_,gid _,none,aN,_,rfl,?_⟩;(conv=>whnf);rw [tj (show lo≤(H++[ar.cells [h0 Kg.1,h0 Kg.2]]).length by simp;omega)];refine Ew (x:=ar.cells [h0 0,h0 0]) (by first | exact qp.h | rfl | (simp [sc,I.settle];done)) ?_
   (conv=>whnf);rw [rZ];subst Hv;unfold P7;(conv=>whnf);rw [sy];exact bp _ _ _ rfl
 unfold OL;obtain ⟨nu,Nb⟩:∃ c,P8=c:=⟨_,rfl⟩;obtain ⟨b6,iP⟩:∃ c,S1=c:=⟨_,rfl⟩;rw [Nb,iP];conv=>whnf
 refine Ew dp ?_;conv=>whnf
 refine Ew dp ?_;conv=>whnf
 rw [tj bD];refine Ew (x:=ar.cells [h0 0,h0 0]) (by first | exact qp.h | rfl | (simp [sc,I.settle];done)) ?_
 conv=>whnf
 rw [rZ];by_cases aq:b.1.2.1=b.1.2.2
 ·rw [decide_eq_true aq];rw [if_pos aq] at Om;conv=>whnf
  subst iP;unfold S1;conv=>whnf
  refine Ew (Li _) ?_;conv=>whnf
  refine Ew (Li _) ?_;conv=>whnf
  rw [tj bD];refine Ew (x:=ar.cells [h0 (w (-left.1)),h0 (w (-left.2))]) (by first | exact qp.h | rfl | (simp [sc,I.settle];done)) ?_
  conv=>whnf
  rw [rZ];subst Nb;rw [Om] at fin;exact fin _ _
 ·rw [decide_eq_false aq];rw [if_neg aq] at Om;conv=>whnf
  subst Nb;rw [Om] at fin;exact fin _ _
theorem Vn {H:List ar} {bx bK:ar}:lI (H++[bx,bK]) (H++[.dead,.dead]):=by
 refine ⟨by simp,fun id o aq=>?_⟩;by_cases h:id<H.length
 ·rw [si h] at aq ⊢;exact .inr aq
 ·rw [List.getElem?_append_right (by omega)] at aq;refine .inl ?_
  match ae:id-H.length with
  | 0=>rw [ae] at aq;exact (Option.some.inj aq).symm
  | 1=>rw [ae] at aq;exact (Option.some.inj aq).symm
  | n+2=>rw [ae] at aq;cases aq
theorem ZL {b:Hf} {order:List Int} {qm cy:Int} {v:List qy×Bool} (h:IC b order qm [cy]=some v) {m lo:Nat} {H:List ar} (bD:lo≤m) (bG:H3 b m H) :
  ∃ H',H3 b m H'∧Im m H H'∧Sem Tryz.prog (.fn 60) [rY b m,.av (order.map h0) order.length .shared,h0 qm,.av [h0 cy] 1 (.uniq 1)] H lo (.tuple [.av (v.1.flatMap qw) v.1.length .shared,B v.2]) H':=by
 unfold IC at h;obtain ⟨left,ao,h⟩:=p9 h;obtain ⟨x,aj,h⟩:=p9 h;obtain ⟨A,aL,h⟩:=p9 h;have PC:=bG;obtain ⟨es,I7,hm,J6⟩:=PC;have er:=(sa.1 hm).1;have Sg:∀ Z,(H++Z)[m]?=some (.map es I7):=fun Z=>by rw [si er];exact hm
 have aj3:([rY b m,.av (order.map h0) order.length .shared,h0 qm,.av [h0 cy] 1 .shared]:List I).map I.gw=[lp b,.av (order.map h0) order.length .shared,h0 qm,.av [h0 cy] 1 .shared]:=rfl;have start:∀ (Q:cQ→List I→List ar→Prop),dQ Tryz.prog M6 60 lo none NC (qe 129 [(0,rY b m),(1,.av (order.map h0) order.length .shared),(3,.av [h0 cy] 1 (.own 1)),(8,.av [] 0 (.uniq 3)),(9,.bool false),(10,.ptr H.length 0),(11,.bool (decide (b.1.2.1=b.1.2.2))),(36,.bool false)]) (H++[ar.cells [h0 left.1,h0 left.2]]) Q →
   dQ Tryz.prog M6 60 lo none P4 (qe 129 [(0,rY b m),(1,.av (order.map h0) order.length .shared),(2,h0 qm),(3,.av [h0 cy] 1 (.uniq 1))]) H Q:=by
  intro Q a_;unfold P4 SY;obtain ⟨abQ,Li⟩:∃ c,OK=c:=⟨_,rfl⟩;rw [Li];conv=>whnf
  refine ⟨_,_,call9 (bs:=[lp b,.av (order.map h0) order.length .shared,h0 qm,.av (([cy]:List Int).map h0) ([cy]:List Int).length .shared]) rfl (p5 (Ii b) (p5 (rU (fun _=>rfl) _ _ _) (p5 rfl (p5 rfl rfl)))) (QJ ao),?_⟩;conv=>whnf
  rw [tj (show lo≤H.length by omega)];refine Ew (x:=ar.cells [h0 0,h0 0]) (by first | exact qp.h | rfl | (simp [sc,I.settle];done)) ?_
  conv=>whnf
  rw [rZ];subst Li;unfold OK;obtain ⟨B9,LS⟩:∃ c,NC=c:=⟨_,rfl⟩;obtain ⟨a7,cf⟩:∃ c,P5=c:=⟨_,rfl⟩;rw [LS,cf];conv=>whnf
  subst LS;exact a_
 have adw:∀ e∈es,∃ y:Int,e.2.1=h0 y:=fun e he=>by
  obtain ⟨y,_,_,_,ab,_⟩:=J6 e he;exact ⟨y,ab⟩
 rcases Vo (x:=x) (n:=0) adw with ⟨i,e,aJ,aN,cb⟩ | aJ
 ·obtain ⟨y,id,c,T4,aA,aG,aT,br,bg⟩:=J6 e (sw aN);rw [cb] at aA;have adO:x=y:=by injection aA
  subst adO;rw [aL] at bg;obtain rfl:=Option.some.inj bg;rw [sC] at aJ;refine ⟨(H++[ar.cells [h0 left.1,h0 left.2]])++[.dead,.dead],(bG.more _).more _,⟨by simp,fun j _ aw=>by rw [sy,si aw]⟩,?_⟩;refine rI eG Sq rfl (by rw [sy];exact a'.append _ _ _) fun Q bp=>?_;refine start Q ?_;unfold NC;obtain ⟨bt,eS⟩:∃ c,P6=c:=⟨_,rfl⟩;obtain ⟨nv,JP⟩:∃ c,OL=c:=⟨_,rfl⟩;rw [eS,JP];conv=>whnf
  refine ⟨⟨sQ _,by decide⟩,?_⟩;conv=>whnf
  refine ⟨_,_,call9 (bs:=[lp b,h0 cy]) rfl (p5 (Ii b) (p5 rfl rfl)) (LI aj),?_⟩;conv=>whnf
  refine ⟨rfl,_,_,Sg _,some i,aJ,e,aN,?_⟩;rw [aG];conv=>whnf
  subst JP;refine YR (A:=A) (c:=c) h (by simp;omega) (I_ _ _) (by rw [si (sa.1 br).1];exact br) fun T bx bK ai=>?_;exact bp _ _ _ ⟨.inr rfl,Vn,ai⟩
 ·obtain ⟨c,D,cp⟩:=ajd aL;obtain ⟨H1,bW⟩:∃ H1,H1=H++[ar.cells [h0 left.1,h0 left.2]]:=⟨_,rfl⟩;have jU:H1.length=H.length+1:=by rw [bW];simp
  have nP:H1[m]?=some (.map es I7):=by rw [bW];exact Sg _
  obtain ⟨H2,ch⟩:∃ H2,H2=(H1++[ar.map (ru A) c]).set m (.map (es++[(I7,h0 x,.map H1.length)]) (I7+1)):=⟨_,rfl⟩;have eF:H2.length=H.length+2:=by rw [ch];simp [jU]
  have aO:∀ j,j≠m→H2[j]?=(H1++[ar.map (ru A) c])[j]?:=fun j aw=>by rw [ch,se (by omega)]
  have VY:H2[H1.length]?=some (.map (ru A) c):=by rw [aO _ (by omega)];exact I_ _ _
  have adr:H2[m]?=some (.map (es++[(I7,h0 x,.map H1.length)]) (I7+1)):=by rw [ch];exact sk (by simp;omega)
  have acV:H3 b m H2:=by
   refine ⟨_,_,adr,fun e he=>?_⟩;rcases te.1 he with he | he
   ·obtain ⟨y,id,dU,T4,aA,aG,aT,br,bg⟩:=J6 e he;have aE:=(sa.1 br).1;refine ⟨y,id,dU,T4,aA,aG,aT,?_,bg⟩;rw [aO _ aT,bW,sy,si aE];exact br
   ·obtain rfl:=sT.1 he;exact ⟨x,H1.length,c,A,rfl,rfl,by omega,VY,aL⟩
  refine ⟨H2++[.dead,.dead],acV.more _,⟨by simp [eF];omega,fun j aw mo=>?_⟩,?_⟩
  ·rw [si (by omega),aO _ aw,bW,sy,si mo]
  have KY:a' lo H (H2++[.dead,.dead]):=by
   refine ⟨by simp [eF];omega,fun j ab ae=>?_⟩;rw [si (by omega),aO _ (by omega),bW,sy,si (by omega)]
  refine rI eG Sq rfl KY fun Q bp=>?_;refine start Q ?_;rw [←bW];unfold NC;obtain ⟨bt,eS⟩:∃ c,P6=c:=⟨_,rfl⟩;obtain ⟨nv,JP⟩:∃ c,OL=c:=⟨_,rfl⟩;rw [eS,JP];conv=>whnf
  refine ⟨⟨sQ _,by decide⟩,?_⟩;conv=>whnf
  refine ⟨_,_,call9 (bs:=[lp b,h0 cy]) rfl (p5 (Ii b) (p5 rfl rfl)) (LI aj),?_⟩;conv=>whnf
  refine ⟨rfl,_,_,nP,none,aJ,_,rfl,?_⟩;conv=>whnf
  subst eS;unfold P6;obtain ⟨a9,ca⟩:∃ c,SZ=c:=⟨_,rfl⟩;rw [ca];conv=>whnf
  refine ⟨⟨sQ _,by decide⟩,?_⟩;conv=>whnf
  refine ⟨_,_,call9 (bs:=[lp b,h0 cy]) rfl (p5 (Ii b) (p5 rfl rfl)) (LI aj),?_⟩;conv=>whnf
  have zg:∀ (j i:Nat) (k v:I),(ru A)[j]?=some (i,k,v)→cr 8 k=true∧cr 8 v=true:=fun j i k v aw=>by
   obtain ⟨a,_,cu⟩:=sD.1 (sw aw);obtain ⟨_,ae⟩:=Prod.mk.inj cu;obtain ⟨rfl,rfl⟩:=Prod.mk.inj ae;exact ⟨H6 (p5 rfl (p5 rfl rfl)),H6 (p5 rfl (p5 rfl rfl))⟩
  refine ⟨_,_,abU (args:=[rY b m,h0 x]) (es:=ru A) (clock:=c) (D:=D) (p5 (Ii b) (p5 rfl rfl)) zg cp _ _,?_⟩;conv=>whnf
  subst ca;unfold SZ;conv=>whnf
  refine ⟨⟨sQ _,by decide⟩,?_⟩;conv=>whnf
  refine ⟨_,_,call9 (bs:=[lp b,h0 cy]) rfl (p5 (Ii b) (p5 rfl rfl)) (LI aj),?_⟩;conv=>whnf
  rw [tj bD];refine ⟨rfl,es,I7,by rw [si (by omega)];exact nP,none,aJ,?_⟩;conv=>whnf
  rw [←ch];subst JP;refine YR (A:=A) (c:=c) (p10:=H.length) (id:=H1.length) h (by omega) (by rw [aO _ (by omega),si (by omega),bW];exact I_ _ _) VY fun T bx bK ai=>?_;exact bp _ _ _ ⟨.inr rfl,Vn,ai⟩

def ZX (places:p_) (lo hi sum:Int) (Qe:(p_→Int→Int→Int→Option Bool)) (p':Unit→Option Bool):Nat→Int→Option Bool
 | 0,_=>none
 | m+1,s1 =>
   if (decide (s1≤hi))=true then
    qk (0≤(1:Int)∧(1:Int)≤(places.length:Int)) <|
    qk (0≤(0:Int)∧(0:Int)<(places.length:Int)) <|
    (Qe (places.drop (1:Int).toNat) lo hi (w (sum-(w ((ix places (0:Int))*s1))))).bind fun aS =>
    if aS=true then
     some true
    else
     ZX places lo hi sum Qe p' m (w (s1+(1:Int)))
   else
    p' ()
def ajf (Qe:p_→Int→Int→Int→Option Bool) (places:p_) (lo hi sum:Int):Option Bool :=
 if (decide ((places.length:Int)=(0:Int)))=true then
  some (decide (sum=(0:Int)))
 else
  if (decide ((places.length:Int)=(1:Int)))=true then
   qk (0≤(0:Int)∧(0:Int)<(places.length:Int)) <|
   if (decide ((ix places (0:Int))≠(0:Int)))=true then
    qk ((ix places (0:Int))≠0) <|
    if (decide ((sum.tmod (ix places (0:Int)))=(0:Int)))=true then
     qk ((ix places (0:Int))≠0) <|
     if (decide (lo≤(w (sum.tdiv (ix places (0:Int))))))=true then
      qk ((ix places (0:Int))≠0) <|
      if (decide ((w (sum.tdiv (ix places (0:Int))))≤hi))=true then
       some true
      else
       if (decide ((ix places (0:Int))=(0:Int)))=true then
        some (decide (sum=(0:Int)))
       else
        some false
     else
      if (decide ((ix places (0:Int))=(0:Int)))=true then
       some (decide (sum=(0:Int)))
      else
       some false
    else
     if (decide ((ix places (0:Int))=(0:Int)))=true then
      some (decide (sum=(0:Int)))
     else
      some false
   else
    if (decide ((ix places (0:Int))=(0:Int)))=true then
     some (decide (sum=(0:Int)))
    else
     some false
  else
   ZX places lo hi sum Qe (fun _ =>
     some false) qj lo
def ZW:Nat→p_→Int→Int→Int→Option Bool
 | 0=>fun _ _ _ _=>none
 | m+1=>fun places lo hi sum=>ajf (ZW m) places lo hi sum
def TU (places:p_) (lo hi sum:Int):Option Bool:=ZW qj places lo hi sum

def TN (p:(qd×(Int×Int))) (order:p_) (bits:Int) (p':p_→Int→Int→Option Bool):Nat→p_→Int→Int→Int→Option Bool
 | 0,_,_,_,_=>none
 | m+1,s1,s2,dk,G' =>
   if (decide (G'<(order.length:Int)))=true then
    qk (0≤G'∧G'<(order.length:Int)) <|
    qk (0≤(ix order G')∧(ix order G')<(p.1.length:Int)) <|
    (MY G' (order.length:Int)).bind fun aS =>
    qk (0≤G') <|
    if (decide ((w ((BitVec.ofInt IntKind.i64.bits (bits.fdiv (2 ^ (Nat.min G'.toNat IntKind.i64.bits))) &&& BitVec.ofInt IntKind.i64.bits (1:Int)).toNat:Int))=(1:Int)))=true then
     qk ((s1.length+1)*8≤140737488355328) <|
     TN p order bits p' m (s1++[aS]) s2 dk (w (G'+(2:Int)))
    else
     TN p order bits p' m s1 (w (s2+(w (aS*(ix p.1 (ix order G')).1)))) (w (dk+(w (aS*(ix p.1 (ix order G')).2)))) (w (G'+(2:Int)))
   else
    p' s1 s2 dk
def ai2 (p:(qd×(Int×Int))) (order:p_) (qm bits:Int):Option Bool :=
 TN p order bits (fun yn oT Gz =>
   if (decide (p.2.1=p.2.2))=true then
    (TU yn (w ((-10:Int)*p.2.1)) (w ((100:Int)+(w ((10:Int)*p.2.1)))) (w ((w (-oT))-(w (Gz*p.2.1))))).bind fun bj =>
    some bj
   else
    (TU yn (0:Int) (100:Int) (w (-oT))).bind fun eK =>
    if eK=true then
     (TU yn (-10:Int) (10:Int) (w (-Gz))).bind fun qW =>
     some qW
    else
     some false) qj ([]:List Int) (0:Int) (0:Int) qm

def ZY (bits:Int) (p':Int→Option Int):Nat→Int→Int→Option Int
 | 0,_,_=>none
 | m+1,s1,s2 =>
   if (decide (s2<(8:Int)))=true then
    qk (0≤s2) <|
    ZY bits p' m (w (s1+(w ((BitVec.ofInt IntKind.i64.bits (bits.fdiv (2 ^ (Nat.min s2.toNat IntKind.i64.bits))) &&& BitVec.ofInt IntKind.i64.bits (1:Int)).toNat:Int)))) (w (s2+(1:Int)))
   else
    p' s1
def ajk (bits:Int):Option Int :=
 ZY bits (fun yn =>
   some yn) qj (0:Int) (0:Int)

def QF (order:p_) (qm s2:Int) (Lm:Bool→Option Int):Nat→Bool→Int→Option Int
 | 0,_,_=>none
 | m+1,dk,G' =>
   if (decide (G'<(order.length:Int)))=true then
    if dk=true then
     qk (0≤G') <|
     if (decide ((w ((BitVec.ofInt IntKind.i64.bits (s2.fdiv (2 ^ (Nat.min G'.toNat IntKind.i64.bits))) &&& BitVec.ofInt IntKind.i64.bits (1:Int)).toNat:Int))=(0:Int)))=true then
      QF order qm s2 Lm m dk (w (G'+(1:Int)))
     else
      qk ((2:Int)≠0) <|
      QF order qm s2 Lm m (decide ((G'.tmod (2:Int))=qm)) (w (G'+(1:Int)))
    else
     QF order qm s2 Lm m dk (w (G'+(1:Int)))
   else
    Lm dk
def QE (p:(qd×(Int×Int))) (order:p_) (qm s1:Int) (rm:Unit→Option Int):Nat→Int→Option Int
 | 0,_=>none
 | m+1,s2 =>
   qk (0≤(order.length:Int)) <|
   if (decide (s2<(w ((1:Int)*2 ^ (Nat.min (order.length:Int).toNat 64)))))=true then
    QF order qm s2 (fun yn =>
      if yn=true then
       (ajk s2).bind fun aS =>
       if (decide (aS=s1))=true then
        (ai2 p order qm s2).bind fun bj =>
        if bj=true then
         some s1
        else
         QE p order qm s1 rm m (w (s2+(1:Int)))
       else
        QE p order qm s1 rm m (w (s2+(1:Int)))
      else
       QE p order qm s1 rm m (w (s2+(1:Int)))) qj true (0:Int)
   else
    rm ()
def ZU (p:(qd×(Int×Int))) (order:p_) (qm:Int) (p':Unit→Option Int):Nat→Int→Option Int
 | 0,_=>none
 | m+1,s1 =>
   if (decide (s1<(2:Int)))=true then
    QE p order qm s1 (fun _ =>
      ZU p order qm p' m (w (s1+(1:Int)))) qj (0:Int)
   else
    p' ()
def ZT (p:(qd×(Int×Int))) (order:p_) (qm:Int):Option Int :=
 ZU p order qm (fun _ =>
   some (2:Int)) qj (0:Int)
end Go.Proofs.YtkoioidpbbbaiaaGreat.Ab


namespace Go.Proofs.YtkoioidpbbbaiaaGreat.Ab
open Go
set_option maxRecDepth 20000
set_option maxHeartbeats 1000000
def ID (p:qf) (o:List Int) (a:Nat):Prop:=q6 p o a p.2.1=0∧q6 p o a p.2.2=0
instance (p:qf) (o:List Int) (a:Nat):Decidable (ID p o a):=by unfold ID;exact inferInstance
def JB (p:qf) (o:List Int) (a i:Nat) (s:qq):Prop :=
 qU p.1 o a [(i:Int)] (q7 p.2.1)+qG o.length i*q7 p.2.1 s=0∧qU p.1 o a [(i:Int)] (q7 p.2.2)+qG o.length i*q7 p.2.2 s=0
instance (p:qf) (o:List Int) (a i:Nat) (s:qq):Decidable (JB p o a i s):=by unfold JB;exact inferInstance
def JH (t:Nat):qq:=(((t % 101:Nat):Int),((t / 101:Nat):Int)-10)
theorem Yz {t:Nat} (h:t<2121):qY (JH t):=by unfold qY JH;simp only;omega
theorem Yy {s:qq} (h:qY s):∃ t,t<2121∧JH t=s:=by
 obtain ⟨ab,ae,aF,ba⟩:=h;refine ⟨(s.2+10).toNat*101+s.1.toNat,by omega,?_⟩;unfold JH;exact Prod.ext (by simp only;omega) (by simp only;omega)
def KH (p:qf) (o:List Int) (a i:Nat):Prop:=∃ t,t<2121∧JB p o a i (JH t)
instance (p:qf) (o:List Int) (a i:Nat):Decidable (KH p o a i):=by unfold KH;exact inferInstance
theorem Pq {p:qf} {o:List Int} {a i:Nat}:KH p o a i↔∃ s,qY s∧JB p o a i s:=by
 constructor
 ·rintro ⟨t,ab,ae⟩;exact ⟨_,Yz ab,ae⟩
 ·rintro ⟨s,ab,ae⟩;obtain ⟨t,aF,rfl⟩:=Yy ab;exact ⟨t,aF,ae⟩
theorem YU {L H U V:Int} (h:L=H):(U+V*L=0∧U+V*H=0)↔U+V*L=0:=by subst h;simp
theorem Tu {L H U V:Int} (h:L≠H):(U+V*L=0∧U+V*H=0)↔U=0∧V=0:=by
 constructor
 ·rintro ⟨ab,ae⟩;have aF:V*(H-L)=0:=by grind
  rcases Int.mul_eq_zero.1 aF with ba | ba
  ·subst ba;simp at ab;exact ⟨ab,rfl⟩
  ·omega
 ·rintro ⟨rfl,rfl⟩;simp
theorem acJ {p:qf} {o:List Int} {a:Nat}:ID p o a↔qU p.1 o a [] Prod.fst+qU p.1 o a [] Prod.snd*p.2.1=0∧qU p.1 o a [] Prod.fst+qU p.1 o a [] Prod.snd*p.2.2=0:=by
 unfold ID q6;rw [←Ot,←Ot,Nj,Nj]
theorem Vq {p:qf} {o:List Int} {a i:Nat} {s:qq}:JB p o a i s ↔
  (qU p.1 o a [(i:Int)] Prod.fst+qG o.length i*s.1)+(qU p.1 o a [(i:Int)] Prod.snd+qG o.length i*s.2)*p.2.1=0 ∧
  (qU p.1 o a [(i:Int)] Prod.fst+qG o.length i*s.1)+(qU p.1 o a [(i:Int)] Prod.snd+qG o.length i*s.2)*p.2.2=0:=by
 unfold JB;rw [Nj,Nj];have e:∀ (U V x c d D:Int),U+V*D+x*(c+d*D)=(U+x*c)+(V+x*d)*D:=fun U V x c d D=>by grind
 unfold q7;rw [e,e]
section
variable {p:qf} {o:List Int}
theorem ZJ (h:rj p) (k:qu p.1.length o) {a:Nat}:IC (p,()) o (a:Int) []=some ([],decide (ID p o a)):=by
 have hle:=h.le;have bD:=h.lo;have GO:=h.hi;unfold IC;rw [QI (b:=(p,())) (W:=[]) h.s (Ho k) (qu.len h k) k.1.symm (by simp),sb];have a7:=RH (a:=a) (W:=[]) h.s (Ho k) (qu.len h k);have a9:=Tp (a:=a) (W:=[]) h.s (Ho k) (qu.len h k);have bt:=Hm (b:=p.2.1) (B:=50) a9 (by omega);simp only;rw [qC (n:=qU p.1 o a [] Prod.snd*p.2.1) (by omega),qC (by omega)];congr 2;rw [vE];simp only [Bool.or_eq_true,sq,decide_eq_true_eq,Prod.mk.injEq];rw [acJ];by_cases he:p.2.1=p.2.2
 ·rw [YU he];constructor
  ·rintro (⟨ab,ae⟩ | ⟨_,ab⟩)
   ·rw [ab,ae];simp
   ·exact ab
  ·exact fun ab=>.inr ⟨he,ab⟩
 ·rw [Tu he];constructor
  ·rintro (ab | ⟨ab,_⟩)
   ·exact ab
   ·exact absurd ab he
  ·exact .inl
theorem afD {s:rp×Nat} {k v:q9} {e:Nat×q9×q9} (h:e∈(HX s k v).1):(e.2.1=k∧e.2.2=v)∨e∈s.1:=by
 unfold HX at h;split at h
 ·obtain ⟨x,aj,rfl⟩:=sD.1 h;by_cases al:k=x.2.1
  ·rw [if_pos al];exact .inl ⟨rfl,rfl⟩
  ·rw [if_neg al];exact .inr aj
 ·rcases te.1 h with h | h
  ·exact .inr h
  ·obtain rfl:=sT.1 h;exact .inl ⟨rfl,rfl⟩
theorem afE (s:rp×Nat) (k v:q9):∃ e∈(HX s k v).1,e.2.1=k:=by
 unfold HX;split
 ·rename_i h;obtain ⟨x,aj,al⟩:=List.any_eq_true.1 h;exact ⟨_,tc aj,by rw [if_pos (of_decide_eq_true al)]⟩
 ·exact ⟨(s.2,k,v),by simp,rfl⟩
theorem afF {s:rp×Nat} {k v:q9} {e:Nat×q9×q9} (h:e∈s.1):∃ cV∈(HX s k v).1,cV.2.1=e.2.1:=by
 unfold HX;split
 ·refine ⟨_,tc h,?_⟩;by_cases al:k=e.2.1
  ·rw [if_pos al];exact al
  ·rw [if_neg al]
 ·exact ⟨e,by simp [h],rfl⟩
theorem YG (lo hi x:Int):∀ (t:Nat) (e:Nat×q9×q9),e∈(Hq lo hi x t).1→∃ iE,iE<t∧e.2.2=JH iE∧e.2.1=H5 lo hi x (JH iE).2 (JH iE).1
 | 0,e,h=>by simp [Hq] at h
 | t+1,e,h=>by
   unfold Hq at h;rcases afD h with ⟨ab,ae⟩ | ab
   ·exact ⟨t,by omega,ae,ab⟩
   ·obtain ⟨iE,ae,aF⟩:=YG lo hi x t e ab;exact ⟨iE,by omega,aF⟩
theorem Tq (lo hi x:Int):∀ (t iE:Nat),iE<t→∃ e∈(Hq lo hi x t).1,e.2.1=H5 lo hi x (JH iE).2 (JH iE).1
 | 0,_,h=>absurd h (by omega)
 | t+1,iE,h=>by
   unfold Hq;by_cases e:iE=t
   ·subst e;exact afE _ _ _
   ·obtain ⟨e1,ab,ae⟩:=Tq lo hi x t iE (by omega);obtain ⟨b',aF,ba⟩:=afF (k:=H5 lo hi x ((t / 101:Nat)-10) ((t % 101:Nat))) (v:=((t % 101:Nat),(t / 101:Nat)-10)) ab;exact ⟨b',aF,ba.trans ae⟩
theorem aeF {A:rp} {k:q9} (h:J9 A k=none):∀ e∈A,e.2.1≠k:=by
 unfold J9 at h;rw [Option.map_eq_none_iff,List.find?_eq_none] at h;intro e he al;exact h e he (decide_eq_true al.symm)
theorem aeG {A:rp} {k v:q9} (h:J9 A k=some v):∃ e∈A,e.2.1=k∧e.2.2=v:=by
 unfold J9 at h;obtain ⟨e,ab,ae⟩:=Option.map_eq_some_iff.1 h;have aF:=List.find?_some ab;exact ⟨e,List.mem_of_find?_eq_some ab,(of_decide_eq_true aF).symm,ae⟩
theorem Wb {L H x:Int} {s:qq} (aj:-10≤x∧x≤10) (ah:qY s) (fq:0≤L∧L≤50):H5 L H x s.2 s.1=if L=H then (x*q7 L s,0) else (x*s.1,x*s.2):=by
 have af:=M8 ah fq;obtain ⟨ab,ae,aF,ba⟩:=ah;have bm:=Hm (a:=s.2) (b:=L) (A:=10) (B:=50) (by omega) (by omega);have cw:=Hm (a:=x) (b:=q7 L s) (A:=10) (B:=600) aj (by omega);have e2:=Hm (a:=x) (b:=s.1) (A:=10) (B:=100) aj (by omega);have lQ:=Hm (a:=x) (b:=s.2) (A:=10) (B:=10) aj (by omega);unfold H5;rw [qC (n:=s.2*L) (by omega),show s.1+s.2*L=q7 L s from rfl,qC (n:=q7 L s) (by omega),qC (n:=x*q7 L s) (by omega),qC (n:=x*s.1) (by omega),qC (n:=x*s.2) (by omega)]
def Ie (lo:Int) (s:qq):Int:=max (max s.1 (q7 lo s)) (-(q7 lo s))
def HO:List Int→Int
 | []=>0
 | x::r=>x+HO r
theorem YN:∀ (a b:List Int),HO (a++b)=HO a+HO b
 | [],b=>by simp [HO]
 | x::a,b=>by simp only [List.cons_append,HO,YN a b];omega
theorem ahK {a b:List Int} (h:a.Perm b):HO a=HO b:=by
 induction h with
 | nil=>rfl
 | cons x _ a8=>simp only [HO,a8]
 | swap x y l=>simp only [HO];omega
 | trans _ _ ab ae=>exact ab.trans ae
theorem YM {α:Type} [Inhabited α] (g:α→Int) (l:List α):∀ (k:Nat),k≤l.length→qO k (fun i=>g (ix l (i:Int)))=HO ((l.take k).map g)
 | 0,_=>rfl
 | k+1,h=>by
   rw [uo (by omega),sJ,YN,←YM g l k (by omega)];simp only [qO,sG,uA,HO];rw [rJ (by omega)];omega
theorem Tt {α:Type} [Inhabited α] (g:α→Int) (l:List α):qO l.length (fun i=>g (ix l (i:Int)))=HO (l.map g):=by
 rw [YM g l _ (sd _),uh]
theorem Sl {n i:Nat} (h:i<n):ix (ql n) (i:Int)=(i:Int):=by
 rw [rJ (by simpa [ql] using h)];simp [ql]
theorem Ls (n:Nat):(ql n).length=n:=by simp [ql]
theorem YK {S:List qq} {o:List Int} (k:qu S.length o) (g:qq→Int):qO o.length (fun i=>g (qM S o i))=HO (S.map g):=by
 have e1:=Tt (fun j=>g (ix S j)) o;have b':=Tt (fun j=>g (ix S j)) (ql S.length);have dA:=Tt g S;rw [ahK ((Nk.1 k).map _),←b',Ls] at e1;rw [←dA];refine e1.trans (Kx fun i hi=>?_);simp only [Sl hi]
theorem ahJ {n:Nat} {g f:Nat→Int} (e:∀ i,i<n → -(f i)≤g i∧g i≤f i):-(qO n f)≤qO n g∧qO n g≤qO n f:=by
 induction n with
 | zero=>simp [qO]
 | succ n a8 =>
   have ab:=a8 fun i hi=>e i (by omega);have ae:=e n (by omega);simp only [qO];omega
theorem PA {lo:Int} {s:qq} (ah:qY s) (ao:0≤lo∧lo≤50):0≤Ie lo s∧Ie lo s≤600:=by
 have ab:=M8 ah ao;have ae:=ah.1;have aF:=ah.2.1;unfold Ie;omega
theorem W1 {far lo:Int} (aP:0≤far∧far≤10) (ao:0≤lo∧lo≤50):∀ (l:List qq) (n:Int),(∀ s∈l,qY s)→0≤n→n+6000*l.length≤1000000→JE far lo l n=n+far*HO (l.map (Ie lo))
 | [],n,_,_,_=>by simp [JE,HO]
 | s::r,n,ah,aI,af=>by
   have al:=ah s (by simp);have de:=M8 al ao;have bm:=Hm (a:=s.2) (b:=lo) (A:=10) (B:=50) ⟨al.2.2.1,al.2.2.2⟩ (by omega);have cw:=PA al ao;have e2:=Hm (a:=far) (b:=Ie lo s) (A:=10) (B:=600) (by omega) (by omega);have lQ:=Int.mul_nonneg aP.1 cw.1;have ab:=al.1;have ae:=al.2.1;rw [List.length_cons] at af;unfold JE;rw [qC (n:=s.2*lo) (by omega),show s.1+s.2*lo=q7 lo s from rfl,qC (n:=q7 lo s) (by omega),qC (n := -(q7 lo s)) (by omega),show max (max s.1 (q7 lo s)) (-(q7 lo s))=Ie lo s from rfl,qC (n:=far*Ie lo s) (by omega),qC (by omega)];rw [W1 aP ao r _ (fun s hl=>ah s (by simp [hl])) (by omega) (by omega),sG];simp only [HO];rw [Int.mul_add];omega
theorem Sw (h:rj p) (k:qu p.1.length o) {a:Nat} {W:List Int} {f:qq→Int} (aP:∀ s,qY s → -(Ie p.2.1 s)≤f s∧f s≤Ie p.2.1 s) :
  -(qG o.length (o.length-1)*HO (p.1.map (Ie p.2.1)))≤qU p.1 o a W f∧qU p.1 o a W f≤qG o.length (o.length-1)*HO (p.1.map (Ie p.2.1)):=by
 have hle:=h.le;have bD:=h.lo;have GO:=h.hi;have aI:=h.n;rw [←k.1] at aI;rw [←YK k (Ie p.2.1),←OX];refine ahJ fun i hi=>?_;have ah:=Jt h.s (Ho k) hi;have aO:=PA ah (lo:=p.2.1) (by omega);have a_:-(qG o.length (o.length-1))≤qG o.length i∧qG o.length i≤qG o.length (o.length-1):=by unfold qG;omega
 split
 ·have ab:=aP _ ah;have ae:=Hm a_ ab;exact ae
 ·have:=Int.mul_nonneg (show 0≤qG o.length (o.length-1) by omega) aO.1;omega
theorem ajc (h:rj p) (k:qu p.1.length o) {a i:Nat} (hi:i<o.length):∃ A,N3 (p,()) (qG o.length i)=some A∧(∀ e∈A,qY e.2.2∧e.2.1=H5 p.2.1 p.2.2 (qG o.length i) e.2.2.2 e.2.2.1)∧∀ s,qY s→JB p o a i s→∃ e∈A,e.2.1=H5 p.2.1 p.2.2 (qG o.length i) s.2 s.1:=by
 have hle:=h.le;have bD:=h.lo;have GO:=h.hi;have aI:=h.n;have KX:=h.len;have aj1:=k.1;have fL:=qu.len h k;unfold N3;simp only;rw [qF (by omega),show ((p.1.length:Int)-1)=((o.length-1:Nat):Int) by omega,qC (n:=((o.length-1:Nat):Int)) (by omega),QG (b:=(p,())) fL k.1.symm (by omega),sb];have Sb:0≤qG o.length (o.length-1)∧qG o.length (o.length-1)≤10:=by unfold qG;omega
 have V2:=W1 Sb (lo:=p.2.1) (by omega) p.1 0 h.s (by omega) (by omega);rw [Int.zero_add] at V2;rw [V2];obtain ⟨M,CA⟩:∃ M,M=qG o.length (o.length-1)*HO (p.1.map (Ie p.2.1)):=⟨_,rfl⟩;have ajU:0≤M∧M≤1000000:=by
  have ab:=Sw h k (a:=0) (W:=[]) (f:=fun _=>0) fun s ah=>by have:=PA ah (lo:=p.2.1) (by omega);omega
  have ae:=OW (n:=o.length) (g:=fun i=>Ie p.2.1 (qM p.1 o i)) (B:=600) fun i hi=>by have:=PA (Jt h.s (Ho k) hi) (lo:=p.2.1) (by omega);omega
  rw [YK k (Ie p.2.1)] at ae;have aF:=Hm (a:=qG o.length (o.length-1)) (A:=10) (by omega) ae;rw [←CA] at ab aF;omega
 rw [←CA,qC (n := -M) (by omega)];have hk:=Nm hi fL;obtain ⟨x,aj⟩:∃ x,x=qG o.length i:=⟨_,rfl⟩;rw [←aj] at hk ⊢;refine ⟨_,rfl,fun e he=>?_,fun s ah VX=>?_⟩
 ·obtain ⟨iE,ab,ae,aF⟩:=YG _ _ _ _ _ (tf.1 he).1;have ba:iE<2121:=by
   by_cases aQ:x=0
   ·rw [if_pos aQ] at ab;omega
   ·rw [if_neg aQ] at ab;exact ab
  rw [ae];exact ⟨Yz ba,aF⟩
 ·have hP:∃ e∈(Hq p.2.1 p.2.2 x (if x=0 then 1 else 2121)).1,e.2.1=H5 p.2.1 p.2.2 x s.2 s.1:=by
   by_cases aQ:x=0
   ·rw [if_pos aQ];obtain ⟨e,ab,ae⟩:=Tq p.2.1 p.2.2 x 1 0 (by omega);refine ⟨e,ab,ae.trans ?_⟩;subst aQ;unfold H5;simp only [Int.zero_mul]
   ·rw [if_neg aQ];obtain ⟨t,ab,ae⟩:=Yy ah;rw [←ae];exact Tq _ _ _ _ _ ab
  obtain ⟨e,ab,ae⟩:=hP;refine ⟨e,tf.2 ⟨ab,?_⟩,ae⟩;rw [ae,Wb hk ah (by omega)];have CY:=Vq.1 VX;rw [←aj] at CY;by_cases he:p.2.1=p.2.2
  ·rw [if_pos he];(have bP:=Sw h k (a:=a) (W:=[(i:Int)]) (f:=q7 p.2.1) fun s ah=>by unfold Ie;omega);have bQ:=VX.1;rw [←aj] at bQ;rw [←CA] at bP;simp only [sq,decide_eq_true_eq];omega
  ·rw [if_neg he];rw [Tu he] at CY;(have bP:=Sw h k (a:=a) (W:=[(i:Int)]) (f:=Prod.fst) fun s ah=>by have:=ah.1;unfold Ie;omega);rw [←CA] at bP;have bQ:=CY.1;simp only [sq,decide_eq_true_eq];omega
theorem Wc (h:rj p) (k:qu p.1.length o) {a i:Nat} (hi:i<o.length) {s:qq} (ah:qY s) :
  H5 p.2.1 p.2.2 (qG o.length i) s.2 s.1=(if p.2.1=p.2.2 then (w (w (-(qU p.1 o a [(i:Int)] Prod.fst))-w (qU p.1 o a [(i:Int)] Prod.snd*p.2.1)),0) else (w (-(qU p.1 o a [(i:Int)] Prod.fst)),w (-(qU p.1 o a [(i:Int)] Prod.snd))))↔JB p o a i s:=by
 have hle:=h.le;have bD:=h.lo;have GO:=h.hi;have a7:=RH (a:=a) (W:=[(i:Int)]) h.s (Ho k) (qu.len h k);have a9:=Tp (a:=a) (W:=[(i:Int)]) h.s (Ho k) (qu.len h k);have bt:=Hm (b:=p.2.1) (B:=50) a9 (by omega);rw [Wb (Nm hi (qu.len h k)) ah (by omega),Vq];rw [qC (n := -(qU p.1 o a [(i:Int)] Prod.fst)) (by omega),qC (n:=qU p.1 o a [(i:Int)] Prod.snd*p.2.1) (by omega),qC (n := -(qU p.1 o a [(i:Int)] Prod.snd)) (by omega),qC (by omega)];generalize qU p.1 o a [(i:Int)] Prod.fst=U;generalize qU p.1 o a [(i:Int)] Prod.snd=V;generalize qG o.length i=x;by_cases he:p.2.1=p.2.2
 ·rw [if_pos he,if_pos he,YU he,Prod.mk.injEq];have e:U+x*s.1+(V+x*s.2)*p.2.1=U+V*p.2.1+x*q7 p.2.1 s:=by unfold q7;grind
  rw [e];constructor
  ·rintro ⟨ab,_⟩;omega
  ·intro ab;exact ⟨by omega,rfl⟩
 ·rw [if_neg he,if_neg he,Tu he,Prod.mk.injEq];constructor
  ·rintro ⟨ab,ae⟩;omega
  ·rintro ⟨ab,ae⟩;exact ⟨by omega,by omega⟩
theorem ZI (h:rj p) (k:qu p.1.length o) {a i:Nat} (hi:i<o.length) :
  (∃ s,IC (p,()) o (a:Int) [(i:Int)]=some ([(ix o (i:Int),s)],true)∧qY s∧JB p o a i s)∨(IC (p,()) o (a:Int) [(i:Int)]=some ([],false)∧¬ KH p o a i):=by
 unfold IC;rw [QI (b:=(p,())) (W:=[(i:Int)]) h.s (Ho k) (qu.len h k) k.1.symm (by simp),sb];obtain ⟨A,aL,ab,ae⟩:=ajc h k (a:=a) hi;simp only;rw [QG (b:=(p,())) (qu.len h k) k.1.symm hi,sb,aL,sb];cases al:J9 A (if p.2.1=p.2.2 then (w (w (-(qU p.1 o a [(i:Int)] Prod.fst))-w (qU p.1 o a [(i:Int)] Prod.snd*p.2.1)),0) else (w (-(qU p.1 o a [(i:Int)] Prod.fst)),w (-(qU p.1 o a [(i:Int)] Prod.snd)))) with
 | none =>
   refine .inr ⟨rfl,fun ak=>?_⟩;obtain ⟨s,ah,aP⟩:=Pq.1 ak;obtain ⟨e,he,adv⟩:=ae s ah aP;exact aeF al e he (adv.trans ((Wc h k hi ah).2 aP))
 | some s =>
   obtain ⟨e,he,Da,rfl⟩:=aeG al;obtain ⟨ah,pO⟩:=ab e he;refine .inl ⟨e.2.2,?_,ah,(Wc h k hi ah).1 (pO.symm.trans Da)⟩;simp only;rw [qF (by omega)]
end
end Go.Proofs.YtkoioidpbbbaiaaGreat.Ab


namespace Go.Proofs.YtkoioidpbbbaiaaGreat.Ab
open Go
set_option maxRecDepth 20000
set_option maxHeartbeats 4000000
def ai0 (p:(qd×(Int×Int))) (order:p_):Option Int :=
 (ZT p order (0:Int)).bind fun aS =>
 (ZT p order (1:Int)).bind fun bj =>
 some (w (aS+bj))

def aiz (p:(qd×(Int×Int))) (order:p_):Option (Int×Int) :=
 (LF p order).bind fun aS =>
 if (decide (aS≠(0:Int)))=true then
  (LF p order).bind fun bj =>
  some ((0:Int),bj)
 else
  (ai0 p order).bind fun eK =>
  some (eK,(0:Int))
end Go.Proofs.YtkoioidpbbbaiaaGreat.Ab


namespace Go.Proofs.YtkoioidpbbbaiaaGreat.Ab
open Go
set_option maxRecDepth 20000
set_option maxHeartbeats 1000000
section
variable {p:qf} {o:List Int}
theorem qu.Wy (h:rj p) (k:qu p.1.length o):o.length≤7:=by have:=h.len;have:=k.1;omega
def JA (p:qf) (o:List Int) (a:Nat):Nat:=if ID p o a then 0 else if ∃ i,i<o.length∧i % 2=a∧KH p o a i then 1 else 2
theorem Vm (p:qf) (o:List Int) (a:Nat):JA p o a≤2:=by unfold JA;split <;> (try split) <;> omega
end
end Go.Proofs.YtkoioidpbbbaiaaGreat.Ab


namespace Go.Proofs.YtkoioidpbbbaiaaGreat.Ab
open Go
set_option maxRecDepth 20000
set_option maxHeartbeats 4000000
noncomputable def QS:gE :=
 .loop (some (qc false [1,3,4,1,58])) (.seq (p2 [p3 17 8,p3 18 2,q3 19 18,qn 20 17 19 .lss] (.cond (.nc 20) .skip (.exit 0))) (.seq (.block 1 (p2 [p3 23 2,p3 24 8,rv 25 23 24 3,p0 26 [.Bs 25] (.zE (.str 3)),p0 9 [] (.alloc [.int .i64 0,.int .i64 0,.int .i64 0]),⟨none,[.nc 9,.jq 26],none,none,.st 3⟩] (.seq (rA [p0 27 [.nc 9] (.yM 0),qi 28 27,qE 29 28 0 .lss,p1 30 29,cl 31 [.nc 9] 30 false (.yM 0),cl 32 [.Bs 31] 30 false (.zE .one),cl 33 [.nc 3] 30 false (.yM 0),cl 34 [.Bs 33] 30 false (.zE .one),cl 35 [.jq 34] 30 false .zJ,cl 36 [.Bs 32,.Bs 35] 30 false (.bin .geq),p0 37 [.nc 30,.cv (.bool true),.Bs 36] .pick,p1 38 37,cl 39 [.nc 8] 38 false .mU,cl 40 [.Bs 39,.cv (.int .i64 0)] 38 false (.bin .gtr),cl 41 [.jq 40] 38 false .mU,cl 42 [.nc 9] 41 true (.yM 0),cl 43 [.Bs 42] 41 true (.zE .one),cl 44 [.nc 2] 41 true .mU,cl 45 [.nc 8] 41 true .mU,cl 46 [.Bs 45,.cv (.int .i64 1)] 41 true (.bin .sub),cl 47 [.Bs 44,.Bs 46] 41 true (.kY 3),cl 48 [.Bs 47] 41 true (.yM 0),cl 49 [.Bs 48] 41 true (.zE .one),cl 50 [.Bs 43,.Bs 49] 41 true (.bin .leq),cl 51 [.nc 41,.Bs 50,.cv (.bool false)] 38 false .pick,p0 52 [.nc 38,.cv (.bool true),.Bs 51] .pick,p1 53 52,cl 54 [.nc 9] 53 false (.yM 1),cl 55 [.Bs 54] 53 false (.zE (.str 2)),⟨some 56,[.cv (.func 53 [] []),.nc 55],some (53,false),none,.call 3⟩,cl 57 [.Bs 56] 53 false (.un .not),p0 58 [.nc 53,.cv (.bool true),.Bs 57] .pick]) (.cond (.nc 58) (p2 [qh 6 0,qh 7 3] .ret) .skip)))) (qV [p1 21 8,q2 22 21 1,p1 8 22])))
noncomputable def Z6:gE :=
 p2 [p0 3 [.jq 0] .box,qh 6 0,qh 7 0] (.seq (p2 [p0 10 [.nc 3] (.zE (.str 3)),p3 11 1,p0 12 [.cv (.func 52 [] []),.nc 10,.nc 11] (.call 3),qE 13 12 0 .neq] (.cond (.nc 13) (p2 [p0 14 [.Bs 3] (.zE (.str 3)),p1 15 1,p0 16 [.cv (.func 52 [] []),.nc 14,.nc 15] (.call 3),qh 6 0,p1 7 16] .ret) .skip)) (.seq (p2 [qh 8 0] (.block 0 QS)) (.seq (p2 [p0 59 [.Bs 3] (.zE (.str 3)),p3 60 2,p0 61 [.cv (.func 54 [] []),.nc 59,.nc 60] (.call 3),p1 62 1,p0 63 [.cv (.func 39 [] []),.nc 61,.nc 62] (.call 3),qE 64 63 0 .gtr] (.cond (.nc 64) (p2 [qh 6 0,qh 7 23] .ret) .skip)) (p2 [p1 65 2,q3 66 65,p1 6 66,qh 7 0] .ret))))
theorem aeP:qt Tryz.prog Rf 20=some (Z6,67,[.tmp 6,.tmp 7]):=by kernel_rfl
def K7 (p:(qd×(Int×Int))) (changes:(List (Int×(Int×Int)))) (p':Unit→Option (Int×Int)):Nat→Int→Option (Int×Int)
 | 0,_=>none
 | m+1,s1 =>
   if (decide (s1<(changes.length:Int)))=true then
    qk (0≤s1∧s1<(changes.length:Int)) <|
    if (decide ((ix changes s1).1<(0:Int)))=true then
     some ((0:Int),(3:Int))
    else
     if (decide ((p.1.length:Int)≤(ix changes s1).1))=true then
      some ((0:Int),(3:Int))
     else
      if (decide ((0:Int)<s1))=true then
       qk (0≤(w (s1-(1:Int)))∧(w (s1-(1:Int)))<(changes.length:Int)) <|
       if (decide ((ix changes s1).1≤(ix changes (w (s1-(1:Int)))).1))=true then
        some ((0:Int),(3:Int))
       else
        (MR ((ix changes s1).2)).bind fun eK =>
        if eK=true then
         K7 p changes p' m (w (s1+(1:Int)))
        else
         some ((0:Int),(3:Int))
      else
       (MR ((ix changes s1).2)).bind fun qW =>
       if qW=true then
        K7 p changes p' m (w (s1+(1:Int)))
       else
        some ((0:Int),(3:Int))
   else
    p' ()
def Lx (p:(qd×(Int×Int))) (order:p_) (changes:(List (Int×(Int×Int)))):Option (Int×Int) :=
 (LF p order).bind fun aS =>
 if (decide (aS≠(0:Int)))=true then
  (LF p order).bind fun bj =>
  some ((0:Int),bj)
 else
  K7 p changes (fun _ =>
    (O_ p changes).bind fun q8 =>
    (Lz q8 order).bind fun r5 =>
    if (decide ((0:Int)<r5))=true then
     some ((0:Int),(23:Int))
    else
     some ((changes.length:Int),(0:Int))) qj (0:Int)
theorem aiw {p:(qd×(Int×Int))} {changes:(List (Int×(Int×Int)))} {p':Unit→Option (Int×Int)} {s1:Int} {order:p_} {v:(Int×Int)} {Q:r1}   (jJ:qK [.tmp 6,.tmp 7] Q (fun v=>(.tuple [(h0 v.1),(h0 v.2)])) v) (rn:∀ (rk:List ar) (qb:List I),p' ()=some v→ra 67 [(1,(qS order .shared)),(2,(.av (changes.flatMap qw) changes.length .shared)),(3,(.ptr 0 0))] qb→Q (.exit 0) qb (ar.cells [(qv p.1 .shared),(h0 p.2.1),(h0 p.2.2)]::rk)) {T:List I} (b0:eZ (qc false [1,3,4,1,58]) T=qe 67 [(1,(qS order .shared)),(2,(.av (changes.flatMap qw) changes.length .shared)),(3,(.ptr 0 0)),(8,(h0 s1))]) (h:K7 p changes p' qj s1=some v) :
  dQ Tryz.prog Rf 20 0 none QS T [ar.cells [(qv p.1 .shared),(h0 p.2.1),(h0 p.2.2)]] Q:=by
 unfold QS;refine wp_loop b0 ?_;refine .intro (fun m T H=>∃ (s1:Int) (T':List ar),T=qe 67 [(1,(qS order .shared)),(2,(.av (changes.flatMap qw) changes.length .shared)),(3,(.ptr 0 0)),(8,(h0 s1))]∧H=(ar.cells [(qv p.1 .shared),(h0 p.2.1),(h0 p.2.2)]::T')∧K7 p changes p' m s1=some v) qj ⟨s1,[],rfl,rfl,h⟩ ?_;clear h b0;rintro m T H ⟨s1,T',rfl,rfl,h⟩;cases m
 ·exact r0 h
 rename_i m;rw [K7.eq_2] at h;conv=>whnf
 refine bs h (fun qQ h=>?_) fun qQ h=>?_
 ·rw [qQ];conv=>whnf
  refine qD h id fun qA h=>?_;rw [r6 qw 3 H8 changes s1 qA];conv=>whnf
  refine Ew (x:=ar.cells [(h0 (0:Int)),(h0 (0:Int)),(h0 (0:Int))]) (by first | exact qp.h | rfl | (simp [sc,I.settle];done)) ?_
  conv=>whnf
  rw [rZ];refine Ew (x:=ar.cells [(h0 (ix changes s1).1),(h0 (ix changes s1).2.1),(h0 (ix changes s1).2.2)]) (by first | exact qp.h | rfl | (simp [sc,I.settle];done)) ?_
  conv=>whnf
  refine bs h (fun q5 h=>?_) fun q5 h=>?_
  ·rw [q5];(conv=>whnf);exact p8 h jJ rfl rfl
  ·rw [q5];(conv=>whnf);refine Ew (x:=ar.cells [(h0 (ix changes s1).1),(h0 (ix changes s1).2.1),(h0 (ix changes s1).2.2)]) (by first | exact qp.h | rfl | (simp [sc,I.settle];done)) ?_
   (conv=>whnf);refine bs h (fun qP h=>?_) fun qP h=>?_
   ·rw [qP];(conv=>whnf);exact p8 h jJ rfl rfl
   ·rw [qP];(conv=>whnf);refine bs h (fun qT h=>?_) fun qT h=>?_
    ·rw [qT];(conv=>whnf);refine Ew (x:=ar.cells [(h0 (ix changes s1).1),(h0 (ix changes s1).2.1),(h0 (ix changes s1).2.2)]) (by first | exact qp.h | rfl | (simp [sc,I.settle];done)) ?_
     (conv=>whnf);refine qD h id fun qN h=>?_;rw [r6 qw 3 H8 changes (w (s1-(1:Int))) qN];(conv=>whnf);refine bs h (fun r3 h=>?_) fun r3 h=>?_
     ·rw [r3];(conv=>whnf);exact p8 h jJ rfl rfl
     ·rw [r3];(conv=>whnf);refine Ew (x:=ar.cells [(h0 (ix changes s1).1),(h0 (ix changes s1).2.1),(h0 (ix changes s1).2.2)]) (by first | exact qp.h | rfl | (simp [sc,I.settle];done)) ?_
      (conv=>whnf);obtain ⟨eK,IX,h⟩:=p9 h;refine ⟨qa.pl,_,TM IX,Hj,?_⟩;(conv=>whnf);cases eK
      ·(conv=>whnf);replace h:=rr rfl h;exact p8 h jJ rfl rfl
      ·(conv=>whnf);replace h:=rq rfl h;exact ⟨m,sv m,(w (s1+(1:Int))),_,rfl,rfl,h⟩
    ·rw [qT];(conv=>whnf);refine Ew (x:=ar.cells [(h0 (ix changes s1).1),(h0 (ix changes s1).2.1),(h0 (ix changes s1).2.2)]) (by first | exact qp.h | rfl | (simp [sc,I.settle];done)) ?_
     (conv=>whnf);obtain ⟨qW,I',h⟩:=p9 h;refine ⟨qa.pl,_,TM I',Hj,?_⟩;(conv=>whnf);cases qW
     ·(conv=>whnf);replace h:=rr rfl h;exact p8 h jJ rfl rfl
     ·(conv=>whnf);replace h:=rq rfl h;exact ⟨m,sv m,(w (s1+(1:Int))),_,rfl,rfl,h⟩
 ·rw [qQ];conv=>whnf
  exact rn _ _ h ⟨rfl,rfl⟩
theorem aix {p:(qd×(Int×Int))} {order:p_} {changes:(List (Int×(Int×Int)))} {v:(Int×Int)} (h:Lx p order changes=some v):qB 20 [(.agg [(.av (p.1.flatMap p7) p.1.length .shared),(h0 p.2.1),(h0 p.2.2)]),(.av (order.map h0) order.length .shared),(.av (changes.flatMap qw) changes.length .shared)] (.tuple [(h0 v.1),(h0 v.2)]):=by
 refine qR eG aeP rfl (JG (p5 rfl (p5 rfl rfl))) fun Q bp=>?_;have jJ:qK [.tmp 6,.tmp 7] Q (fun v=>(.tuple [(h0 v.1),(h0 v.2)])) v:=fun T H bE=>bp _ T H bE;unfold Lx at h;unfold Z6;obtain ⟨HK,qJ⟩:∃ c,QS=c:=⟨_,rfl⟩;rw [qJ];conv=>whnf
 obtain ⟨aS,gM,h⟩:=p9 h;refine ⟨qa.pl,_,ZD gM,?_⟩;conv=>whnf
 refine bs h (fun gN h=>?_) fun gN h=>?_
 ·rw [gN];conv=>whnf
  obtain ⟨bj,qx,h⟩:=p9 h;refine ⟨qa.pl,_,ZD qx,?_⟩;conv=>whnf
  exact p8 h jJ rfl rfl
 ·rw [gN];conv=>whnf
  subst qJ;refine aiw ?_ ?_ (by exact rfl) h
  ·exact fun T H bE=>jJ T H bE
  ·intro rk qb h qo;obtain ⟨re,rfl⟩:=qo.ex;(conv=>whnf);obtain ⟨q8,Iu,h⟩:=p9 h;refine ⟨qa.pl,_,aiZ Iu,?_⟩;(conv=>whnf);obtain ⟨r5,Ja,h⟩:=p9 h;refine ⟨qa.pl,_,Zt Ja,?_⟩;(conv=>whnf);refine bs h (fun Jb h=>?_) fun Jb h=>?_
   ·rw [Jb];(conv=>whnf);exact p8 h jJ rfl rfl
   ·rw [Jb];(conv=>whnf);exact p8 h jJ rfl rfl
end Go.Proofs.YtkoioidpbbbaiaaGreat.Ab


namespace Go.Proofs.YtkoioidpbbbaiaaGreat.Ab
open Go
set_option maxRecDepth 20000
set_option maxHeartbeats 1000000
def r7:List qy→List qq→List qq
 | [],S=>S
 | c::r,S=>r7 r (S.set c.1.toNat c.2)
theorem OU:∀ (l:List qy) (S:List qq),(r7 l S).length=S.length
 | [],_=>rfl
 | c::r,S=>by rw [r7,OU r];simp
def HC (n:Int):List qy→Int→Prop
 | [],_=>True
 | c::r,m=>m≤c.1∧c.1<n∧qY c.2∧HC n r (c.1+1)
instance afH (n:Int):∀ (l:List qy) (m:Int),Decidable (HC n l m)
 | [],_=>isTrue trivial
 | c::r,m=>by unfold HC;exact @instDecidableAnd _ _ _ (@instDecidableAnd _ _ _ (@instDecidableAnd _ _ _ (afH n r (c.1+1))))
theorem Tk {n:Int}:∀ {l:List qy} {S:List qq} {m:Int},HC n l m→(∀ s∈S,qY s)→∀ s∈r7 l S,qY s
 | [],_,_,_,h=>h
 | c::r,S,m,ao,h=>by
   refine Tk (l:=r) ao.2.2.2 fun s ah=>?_;rcases List.mem_or_eq_of_mem_set ah with ab | ab
   ·exact h s ab
   ·rw [ab];exact ao.2.2.1
theorem Vh {n:Nat} (aI:n≤1000):∀ (l:List qy) (S:List qq) (m:Int),S.length=n→0≤m→m≤1000→M' n l S m=some (if HC n l m then some (r7 l S) else none)
 | [],S,m,_,_,_=>rfl
 | c::r,S,m,cp,hm,nP=>by
   unfold M';rw [qC (n:=(n:Int)-1) (by omega),N1,sb];by_cases ab:m≤c.1∧c.1<(n:Int)
   ·rw [if_pos (by simp;omega),ZB,sb];by_cases ae:qY c.2
    ·rw [if_neg (by simpa using ae),qF (by omega),qC (by omega),Vh aI r _ _ (by simp [cp]) (by omega) (by omega)];by_cases aF:HC n r (c.1+1)
     ·rw [if_pos aF,if_pos ⟨ab.1,ab.2,ae,aF⟩];rfl
     ·rw [if_neg aF,if_neg fun k=>aF k.2.2.2]
    ·rw [if_pos (by simpa using ae),if_neg fun k=>ae k.2.2.1]
   ·rw [if_neg (by simp;omega),if_neg fun k=>ab ⟨k.1,k.2.1⟩]
theorem Vg {n:Nat}:∀ (l:List qy) (S:List qq) (m:Int),S.length=n→0≤m→HC n l m→LQ l S=some (r7 l S)
 | [],_,_,_,_,_=>rfl
 | c::r,S,m,cp,hm,ao=>by
   unfold LQ;have ab:=ao.1;have ae:=ao.2.1;rw [qF (by omega)];exact Vg r _ (c.1+1) (by simp [cp]) (by omega) ao.2.2.2
section
variable {p:qf} {o:List Int} {l:List qy}
theorem TA (aB:p.1.length≤1000) (ao:o.length≤12) (ak:l.length≤1000):Kh p o l=some (if r4 p o=0 then (if HC p.1.length l 0 then (if 0<qH (r7 l p.1,p.2) o then (0,23) else ((l.length:Int),0)) else (0,3)) else (0,r4 p o)):=by
 unfold Kh;rw [QB aB ao,sb];by_cases h:r4 p o=0
 ·rw [if_pos h,if_pos h];obtain ⟨ad,al⟩:=Mt.1 h;have KX:=ad.len;simp only;rw [if_neg (by decide),qF ⟨fun e=>by rw [e] at KX;simp at KX,aB,ak⟩,Vh aB l p.1 0 rfl (by omega) (by omega),sb];by_cases ab:HC p.1.length l 0
  ·rw [if_pos ab,if_pos ab];simp only;have dg:rj (r7 l p.1,p.2):=⟨by rw [OU];exact ad.n,Tk ab ad.s,ad.lo,ad.le,ad.hi⟩;rw [O5 dg (by rw [OU];exact al),sb];by_cases ae:0<qH (r7 l p.1,p.2) o
   ·rw [if_pos (decide_eq_true ae),if_pos ae]
   ·rw [if_neg (by simpa using ae),if_neg ae]
  ·rw [if_neg ab,if_neg ab]
 ·rw [if_neg h,if_neg h];simp only;rw [if_pos (decide_eq_true h)]
theorem Wg (aB:p.1.length≤1000) (ak:l.length≤1000) {K:Option (Int×Int)}:∀ (m i:Nat),i≤l.length→l.length-i<m→∀ (t:Int),(i=0→t=0)→(0<i→t=(ix l ((i-1:Nat):Int)).1+1∧0<t∧t≤1000) →
  K7 p l (fun _=>K) m (i:Int)=if HC p.1.length (l.drop i) t then K else some (0,3)
 | 0,_,_,h,_,_,_=>absurd h (by omega)
 | m+1,i,hi,hm,t,aQ,ab=>by
   rw [K7];by_cases aR:i<l.length
   ·rw [if_pos (decide_eq_true (by omega)),qF (by omega),s0 aR,←rJ aR,Ik i (by omega)];have a8:=Wg aB ak (K:=K) m (i+1) (by omega) (by omega) ((ix l (i:Int)).1+1) (fun e=>by omega);by_cases cu:(ix l (i:Int)).1<0
    ·rw [if_pos (decide_eq_true cu),if_neg];intro k;have:=k.1;by_cases e:i=0
     ·have:=aQ e;omega
     ·have:=ab (by omega);omega
    ·rw [if_neg (by simpa using by omega)];by_cases af:(p.1.length:Int)≤(ix l (i:Int)).1
     ·rw [if_pos (decide_eq_true af),if_neg fun k=>by have:=k.2.1;omega]
     ·rw [if_neg (by simpa using by omega),ZE];have fin:t≤(ix l (i:Int)).1→((some (decide (qY (ix l (i:Int)).2))).bind fun r=>if r=true then K7 p l (fun _=>K) m ((i+1:Nat):Int) else some (0,3))=if HC p.1.length (ix l (i:Int)::l.drop (i+1)) t then K else some (0,3):=fun ax=>by
       rw [sb];by_cases ah:qY (ix l (i:Int)).2
       ·rw [if_pos (decide_eq_true ah),a8 fun _=>⟨by simp,by omega,by omega⟩];by_cases ai:HC p.1.length (l.drop (i+1)) ((ix l (i:Int)).1+1)
        ·rw [if_pos ai,if_pos ⟨ax,by omega,ah,ai⟩]
        ·rw [if_neg ai,if_neg fun k=>ai k.2.2.2]
       ·rw [if_neg (by simpa using ah),if_neg fun k=>ah k.2.2.1]
      by_cases e:0<i
      ·obtain ⟨t1,t2,t3⟩:=ab e;rw [if_pos (decide_eq_true (by omega)),qC (by omega),show (i:Int)-1=((i-1:Nat):Int) by omega,qF (by omega)];by_cases a1:(ix l (i:Int)).1≤(ix l ((i-1:Nat):Int)).1
       ·rw [if_pos (decide_eq_true a1),if_neg fun k=>by have:=k.1;omega]
       ·rw [if_neg (by rw [decide_eq_true_eq];exact a1)];exact fin (by omega)
      ·rw [if_neg (by simpa using by omega)];exact fin (by have:=aQ (by omega);omega)
   ·rw [if_neg (by simpa using by omega),vd (by omega),if_pos (show HC _ [] t from trivial)]
theorem aiv (aB:p.1.length≤1000) (ao:o.length≤12) (ak:l.length≤1000):Lx p o l=some (if r4 p o=0 then (if HC p.1.length l 0 then (if 0<qH (r7 l p.1,p.2) o then (0,23) else ((l.length:Int),0)) else (0,3)) else (0,r4 p o)):=by
 unfold Lx;rw [aiX aB (by omega),sb,sb];by_cases h:r4 p o=0
 ·rw [if_neg (show ¬ decide (r4 p o≠0)=true by simpa using h),if_pos h];obtain ⟨ad,al⟩:=Mt.1 h;have KX:=ad.len;have:=Wg aB ak (K:=(O_ p l).bind fun q8=>(Lz q8 o).bind fun r5=>if (decide ((0:Int)<r5))=true then some ((0:Int),(23:Int)) else some ((l.length:Int),(0:Int))) qj 0 (by omega) (It (by omega)) 0 (fun _=>rfl) (fun h=>absurd h (by omega));rw [tq] at this;refine this.trans ?_;by_cases ab:HC p.1.length l 0
  ·rw [if_pos ab,if_pos ab];unfold O_;rw [qF ⟨fun e=>by rw [e] at KX;simp at KX,aB,ak⟩,Vg l p.1 0 rfl (by omega) ab,sb,sb];have dg:rj (r7 l p.1,p.2):=⟨by rw [OU];exact ad.n,Tk ab ad.s,ad.lo,ad.le,ad.hi⟩;rw [Zs dg (by rw [OU];exact al),sb];by_cases ae:0<qH (r7 l p.1,p.2) o
   ·rw [if_pos (decide_eq_true ae),if_pos ae]
   ·rw [if_neg (by simpa using ae),if_neg ae]
  ·rw [if_neg ab,if_neg ab]
 ·rw [if_pos (decide_eq_true h),if_neg h]
end
end Go.Proofs.YtkoioidpbbbaiaaGreat.Ab


namespace Go.Proofs.YtkoioidpbbbaiaaGreat.Ab
open Go
noncomputable def agJ:gE :=
 .ov false [p1 48 9,p1 49 10,p0 50 [.Bs 49] (.yB 1 1 [.int .i64 0] [0]),p0 51 [.jq 48,.jq 50] (.app 1 8),p1 9 51]
noncomputable def SR:gE :=
 p2 [p3 44 0,p3 45 10,p0 46 [.cv (.func 77 [] []),.jq 44,.jq 45] (.call 9),qE 47 46 0 .gtr] (.cond (.nc 47) agJ .skip)
noncomputable def SS:gE :=
 .seq (p2 [p3 34 0,p3 35 1,p3 36 2,p3 37 10,p0 38 [.Bs 37] (.yB 1 1 [.int .i64 0] [0]),p0 39 [.cv (.func 60 [] []),.jq 34,.jq 35,.jq 36,.jq 38] (.call 1),p1 33 39,qI 40 33 0,p0 41 [.Bs 33] (.ext 1),p1 11 40,p1 12 41] (p2 [p1 42 12] (.cond (.nc 42) (p2 [p1 43 11,p1 6 43] .ret) .skip))) SR
noncomputable def XY:gE :=
 .seq (p2 [p3 29 10,qE 30 29 2 .rem,p3 31 2,qn 32 30 31 .neq] (.cond (.nc 32) (.exit 1) .skip)) SS
noncomputable def XZ:gE :=
 .block 1 (p2 [p3 28 26,p1 10 28] XY)
noncomputable def SU:gE :=
 .ov true [p1 59 13,p3 60 1,p3 61 15,rv 62 60 61 1,qi 63 62,p3 64 0,p0 65 [.Bs 64] .z4,qz 66 65 0,qz 67 66 0,qi 68 67,p3 69 1,p3 70 1,q3 71 70,qE 72 71 1 .sub,p3 73 15,qn 74 72 73 .sub,rv 75 69 74 1,qi 76 75,rv 77 68 76 2,p0 78 [.Bs 77] (.zE (.str 2)),p0 79 [.Bs 63,.Bs 78] (.build [.int .i64 0,.int .i64 0,.int .i64 0] [(0,1),(1,2)]),p0 80 [.Bs 79] (.yB 1 3 [.int .i64 0,.int .i64 0,.int .i64 0] [0]),p0 81 [.jq 59,.jq 80] (.app 3 24),p1 13 81]
noncomputable def X0:gE :=
 .block 3 (p2 [p0 57 [.nc 53,.nc 55] (.kY 1),qi 58 57,p1 15 58] SU)
noncomputable def P2:gE :=
 .loop (some (qc false [0,2,11,1,39,3,28])) (p2 [p0 56 [.nc 55,.nc 54] (.bin .lss)] (.seq (.cond (.nc 56) .skip (.exit 2)) (.seq X0 (qV [q2 82 55 1,p1 55 82]))))
noncomputable def SV:gE :=
 .seq (p2 [p1 53 9,p0 54 [.nc 53] .zJ,qh 55 0] (.block 2 P2)) (p2 [p1 83 13,p1 6 83] .ret)
noncomputable def P3:gE :=
 .loop (some (qc false [0,3,6,1,15,2,57])) (p2 [p0 27 [.nc 26,.nc 25] (.bin .lss)] (.seq (.cond (.nc 27) .skip (.exit 0)) (.seq XZ (qV [q2 52 26 1,p1 26 52]))))
noncomputable def SW:gE :=
 .seq (p2 [p3 24 1,q3 25 24,qh 26 0] (.block 0 P3)) (p2 [p0 13 [.cv (.av [] 0 .full)] (.nil 3)] SV)
noncomputable def XX:gE :=
 .seq (p2 [p3 17 0,p3 18 1,p3 19 2,p0 20 [.cv (.func 60 [] []),.jq 17,.jq 18,.jq 19,.cv (.av [] 0 .full)] (.call 1),p1 16 20,qI 21 16 0,p0 22 [.Bs 16] (.ext 1),p1 7 21,p1 8 22] (p2 [p1 23 8] (.cond (.nc 23) (p2 [p0 6 [.cv (.av [] 0 .full)] (.nil 3)] .ret) .skip))) (p2 [p0 9 [.cv (.av [] 0 .full)] (.nil 1)] SW)
noncomputable def P1:gE :=
 p2 [p0 6 [.cv (.av [] 0 .full)] (.nil 3)] XX
theorem Sp:qt Go.Proofs.Tryz.prog LM 57=some (P1,84,[.tmp 6]):=by kernel_rfl
end Go.Proofs.YtkoioidpbbbaiaaGreat.Ab


namespace Go.Proofs.YtkoioidpbbbaiaaGreat.Ab
open Go
set_option maxRecDepth 20000
set_option maxHeartbeats 4000000
def JN (b:Hf) (order:List Int) (qm:Int):List Int→Nat→List Int→Option (Nat×(List qy ⊕ List Int))
 | [],k,ad=>some (k,.inr ad)
 | i::r,k,ad =>
   if i.tmod 2≠qm then JN b order qm r (k+1) ad
   else (IC b order qm [i]).bind fun q=>if q.2=true then some (k+1,.inl q.1) else
    (K_ b i).bind fun p=>JN b order qm r (k+1) (if 0<p then ad++[i] else ad)
def JF (b:Hf) (order:List Int):List Int→List qy→Option (List qy)
 | [],out=>some out
 | i::r,out=>qk (0≤i∧i<(order.length:Int)) <| qk (0≤w (w (order.length-1)-i)∧w (w (order.length-1)-i)<(order.length:Int)) <|
   qk (0≤ix order (w (w (order.length-1)-i))∧ix order (w (w (order.length-1)-i))<(b.1.1.length:Int)) <|
   JF b order r (out++[(ix order i,ix b.1.1 (ix order (w (w (order.length-1)-i))))])
theorem afL {b:Hf} {m lo:Nat} {order ad:List Int} {v:List qy} (h:JF b order ad []=some v) (ao:ad.length≤1000) {T:List I} {H:List ar} {Q:cQ→List I→List ar→Prop}
  (b0:eZ [true,true,false,false,false,false,false,false,false,false,false,false,false,true,false,false,false,false,false,false,false,false,false,false,false,false,false,false,false,false,false,false,false,false,false,false,false,false,false,false,false,false,false,false,false,false,false,false,false,false,false,false,false,true,true,true,false,false,false,false,false,false,false,false,false,false,false,false,false,false,false,false,false,false,false,false,false,false,false,false,false,false,false,false] T=qe 84 [(0,rY b m),(1,.av (order.map h0) order.length .shared),(13,.av [] 0 (.uniq 3)),(53,.av (ad.map h0) ad.length (.own 1)),(54,h0 ad.length),(55,h0 0)])
  (bp:∀ Y5 Y6 Y7 Y8,Q (.exit 2) (qe 84 [(0,rY b m),(1,.av (order.map h0) order.length .shared),(13,.av (v.flatMap qw) v.length (.uniq 3)),(53,Y5),(54,Y6),(55,Y7),(56,Y8)]) H) :
  dQ Tryz.prog LM 57 lo none P2 T H Q:=by
 unfold P2;refine wp_loop b0 ?_;refine .intro (fun hr T H'=>∃ (i:Nat) (out:List qy),i≤ad.length∧hr=ad.length-i∧out.length=i∧JF b order (ad.drop i) out=some v∧T=qe 84 [(0,rY b m),(1,.av (order.map h0) order.length .shared),(13,.av (out.flatMap qw) out.length (.uniq 3)),(53,.av (ad.map h0) ad.length (.own 1)),(54,h0 ad.length),(55,h0 i)]∧H'=H) ad.length ⟨0,[],sE _,rfl,rfl,h,rfl,rfl⟩ ?_;clear b0 h;rintro hr T H' ⟨i,out,hi,rfl,aq,al,rfl,rfl⟩;conv=>whnf
 refine HL (fun aR=>?_) (fun aR=>?_)
 ·have HN:i<ad.length:=by omega
  have IG:0≤(i:Int)∧(i:Int)<(ad.length:Int):=by omega
  rw [s0 HN] at al;unfold JF at al;obtain ⟨cf,al⟩:=q_ al;obtain ⟨ca,al⟩:=q_ al;obtain ⟨eS,al⟩:=q_ al;unfold X0;obtain ⟨f',Hv⟩:∃ c,SU=c:=⟨_,rfl⟩;rw [Hv];conv=>whnf
  refine ⟨IG,?_⟩;rw [rG h0 ad (i:Int) IG,rJ HN];conv=>whnf
  subst Hv;unfold SU;conv=>whnf
  refine ⟨cf,?_⟩;rw [rG h0 order _ cf];conv=>whnf
  refine ⟨ca,?_⟩;rw [rG h0 order _ ca];conv=>whnf
  refine ⟨eS,?_⟩;rw [r6 p7 2 q' b.1.1 _ eS];conv=>whnf
  refine ⟨rfl,by decide,?_⟩;conv=>whnf
  refine ⟨by decide,by omega,?_⟩;conv=>whnf
  have rS:IntKind.i64.wrap ((i:Int)+1)=((i+1:Nat):Int):=by rw [HU _ (by omega) (by omega)];omega
  refine ⟨ad.length-(i+1),by omega,i+1,_,by omega,rfl,by simp [aq],al,?_,rfl⟩;rw [rS,ug,sA];rfl
 ·have:i=ad.length:=by omega
  subst this;rw [List.drop_length] at al;obtain rfl:=Option.some.inj al;conv=>whnf
  exact bp _ _ _ _
theorem ahR {n i:Nat} (h:i<n):(ql n).drop i=(i:Int)::(ql n).drop (i+1):=by
 have ao:i<(ql n).length:=by rw [ME];exact h
 rw [s0 ao];simp [ql]
theorem adZ {b:Hf} {m lo k:Nat} {order:List Int} {qm:Int} {res:List qy ⊕ List Int} (h:JN b order qm (ql order.length) 0 []=some (k,res)) (ao:order.length≤1000) {Hs:Nat→List ar}
  (cp:∀ (i:Nat) q,(i:Int).tmod 2=qm→IC b order qm [(i:Int)]=some q→Sem Tryz.prog (.fn 60) [rY b m,.av (order.map h0) order.length .shared,h0 qm,.av [h0 (i:Int)] 1 (.uniq 1)] (Hs i) lo (.tuple [.av (q.1.flatMap qw) q.1.length .shared,B q.2]) (Hs (i+1)))
  (bJ:∀ i:Nat,(i:Int).tmod 2≠qm→Hs (i+1)=Hs i) {T:List I} {Q:cQ→List I→List ar→Prop}
  (b0:eZ [true,true,true,false,false,false,false,false,false,true,false,false,false,false,false,false,false,false,false,false,false,false,false,false,false,true,true,false,false,false,false,false,false,false,false,false,false,false,false,false,false,false,false,false,false,false,false,false,false,false,false,false,false,false,false,false,false,false,false,false,false,false,false,false,false,false,false,false,false,false,false,false,false,false,false,false,false,false,false,false,false,false,false,false] T=qe 84 [(0,rY b m),(1,.av (order.map h0) order.length .shared),(2,h0 qm),(9,.av [] 0 (.uniq 1)),(25,h0 order.length),(26,h0 0)])
  (ac2:∀ q T,res=.inl q→rX (Hs k) T [.tmp 6]=some [.av (q.flatMap qw) q.length .shared]→Q .ret T (Hs k))
  (ac3:∀ ad Y1 Y2 Y3,res=.inr ad→ad.length≤order.length→Q (.exit 0) (qe 84 [(0,rY b m),(1,.av (order.map h0) order.length .shared),(2,h0 qm),(9,.av (ad.map h0) ad.length (.uniq 1)),(25,Y1),(26,Y2),(27,Y3)]) (Hs k)) :
  dQ Tryz.prog LM 57 lo none P3 T (Hs 0) Q:=by
 unfold P3;refine wp_loop b0 ?_;refine .intro (fun hr T H'=>∃ (i:Nat) (ad:List Int),i≤order.length∧hr=order.length-i∧ad.length≤i∧JN b order qm ((ql order.length).drop i) i ad=some (k,res)∧T=qe 84 [(0,rY b m),(1,.av (order.map h0) order.length .shared),(2,h0 qm),(9,.av (ad.map h0) ad.length (.uniq 1)),(25,h0 order.length),(26,h0 i)]∧H'=Hs i) order.length ⟨0,[],sE _,rfl,sd _,h,rfl,rfl⟩ ?_;clear b0 h;rintro hr T H' ⟨i,ad,hi,rfl,ads,al,rfl,rfl⟩;conv=>whnf
 have rS:i<order.length→IntKind.i64.wrap ((i:Int)+1)=((i+1:Nat):Int):=fun _=>by rw [HU _ (by omega) (by omega)];omega
 refine HL (fun aR=>?_) (fun aR=>?_)
 ·have HN:i<order.length:=by omega
  rw [ahR HN] at al;unfold JN at al;unfold XZ XY;obtain ⟨bt,eS⟩:∃ c,SS=c:=⟨_,rfl⟩;rw [eS];conv=>whnf
  refine ⟨by decide,?_⟩;conv=>whnf
  by_cases Ll:(i:Int).tmod 2=qm
  ·rw [decide_eq_false (show ¬ ((i:Int).tmod 2≠qm) from fun h=>h Ll)];rw [if_neg (fun h=>h Ll)] at al;obtain ⟨q,a_,al⟩:=p9 al;(conv=>whnf);subst eS;unfold SS;obtain ⟨a9,ca⟩:∃ c,SR=c:=⟨_,rfl⟩;rw [ca];(conv=>whnf);refine ⟨_,_,rF (cp i q Ll a_),?_⟩;(conv=>whnf);obtain ⟨q1,aW⟩:=q;cases aW with
   | true =>
     rw [if_pos rfl] at al;obtain ⟨ab,ae⟩:=Prod.mk.inj (Option.some.inj al);subst ab;(conv=>whnf);exact ac2 _ _ ae.symm rfl
   | false =>
     rw [if_neg (by simp)] at al;obtain ⟨pl,hk,al⟩:=p9 al;(conv=>whnf);subst ca;unfold SR;(conv=>whnf);refine ⟨_,_,call9 (bs:=[lp b,h0 i]) rfl (p5 (Ii b) (p5 rfl rfl)) (LI hk),?_⟩;(conv=>whnf);refine HL (fun aB=>?_) (fun aB=>?_)
     ·rw [if_pos aB] at al;(conv=>whnf);refine ⟨rfl,by decide,?_⟩;(conv=>whnf);refine ⟨by decide,by omega,?_⟩;(conv=>whnf);refine ⟨order.length-(i+1),by omega,i+1,_,by omega,rfl,by simp;omega,al,?_,rfl⟩;rw [rS HN,sJ,sA];rfl
     ·rw [if_neg aB] at al;(conv=>whnf);exact ⟨order.length-(i+1),by omega,i+1,ad,by omega,rfl,by omega,al,by rw [rS HN];rfl,rfl⟩
  ·rw [decide_eq_true (show (i:Int).tmod 2≠qm from Ll)];rw [if_pos Ll] at al;(conv=>whnf);refine ⟨order.length-(i+1),by omega,i+1,ad,by omega,rfl,by omega,al,by rw [rS HN];rfl,?_⟩;rw [bJ i Ll]
 ·have:i=order.length:=by omega
  subst this;rw [vd (by rw [ME];omega)] at al;obtain ⟨ab,ae⟩:=Prod.mk.inj (Option.some.inj al);subst ab;conv=>whnf
  exact ac3 _ _ _ _ ae.symm ads
def LG (b:Hf) (order:List Int) (qm:Int):Option (List qy) :=
 qk (order.length≤1000) <|
 (IC b order qm []).bind fun r=>if r.2=true then some [] else
 (JN b order qm (ql order.length) 0 []).bind fun q=>match q.2 with
 | .inl l=>some l
 | .inr ad=>JF b order ad []
theorem Im.refl (m:Nat) (H:List ar):Im m H H:=⟨sd _,fun _ _ _=>rfl⟩
theorem Im.trans {m:Nat} {H H1 H2:List ar} (h:Im m H H1) (k:Im m H1 H2):Im m H H2 :=
 ⟨Nat.le_trans h.1 k.1,fun j aw ao=>by rw [k.2 j aw (by have:=h.1;omega),h.2 j aw ao]⟩
theorem ZG {b:Hf} {order:List Int} {qm:Int} {v:List qy} (h:LG b order qm=some v) {m lo:Nat} {H:List ar} (bD:lo≤m) (bG:H3 b m H) :
  ∃ H' c,(c=.shared∨c=.uniq 3∨c=.own 3)∧H3 b m H'∧Im m H H'∧Sem Tryz.prog (.fn 57) [rY b m,.av (order.map h0) order.length .shared,h0 qm] H lo (.av (v.flatMap qw) v.length c) H':=by
 unfold LG at h;obtain ⟨aI,h⟩:=q_ h;obtain ⟨r,ai,h⟩:=p9 h;have er:m<H.length:=by obtain ⟨_,_,ab,_⟩:=bG;exact (sa.1 ab).1
 obtain ⟨dC,o,ac4⟩:=ZK ai (m:=m) (lo:=lo) (H:=H) (by omega);obtain ⟨aS,bj⟩:=r;have dC:aS=[]:=dC;subst dC
 classical
 obtain ⟨Hs,gL,Nc⟩:=Ps (fun i rO H9=>H3 b m rO→(H3 b m H9∧Im m rO H9∧a' lo rO H9)∧(∀ q,(i:Int).tmod 2=qm→IC b order qm [(i:Int)]=some q→Sem Tryz.prog (.fn 60) [rY b m,.av (order.map h0) order.length .shared,h0 qm,.av [h0 (i:Int)] 1 (.uniq 1)] rO lo (.tuple [.av (q.1.flatMap qw) q.1.length .shared,B q.2]) H9)∧((i:Int).tmod 2≠qm→H9=rO)) (H++[o]) (fun i rO=>by
  by_cases aP:H3 b m rO
  ·by_cases hm:(i:Int).tmod 2=qm
   ·cases a_:IC b order qm [(i:Int)] with
    | none=>exact ⟨rO,fun _=>⟨⟨aP,Im.refl _ _,a'.refl _ _⟩,(fun q _ h=>by cases h),fun h=>absurd hm h⟩⟩
    | some q =>
      obtain ⟨H',f1,f2,f3⟩:=ZL a_ bD aP;exact ⟨H',fun _=>⟨⟨f1,f2,f3.1⟩,(fun fW _ h=>by obtain rfl:=Option.some.inj h;exact f3),fun h=>absurd hm h⟩⟩
   ·exact ⟨rO,fun _=>⟨⟨aP,Im.refl _ _,a'.refl _ _⟩,fun q h _=>absurd h hm,fun _=>rfl⟩⟩
  ·exact ⟨rO,fun h=>absurd h aP⟩)
 have c1:∀ i,H3 b m (Hs i)∧Im m H (Hs i)∧a' lo H (Hs i):=fun i=>by
  induction i with
  | zero=>rw [gL];exact ⟨bG.more _,⟨by simp,fun j _ aw=>by rw [si aw]⟩,a'.append _ _ _⟩
  | succ i a8 =>
    obtain ⟨⟨aA,aG,aT⟩,_,_⟩:=Nc i a8.1;exact ⟨aA,a8.2.1.trans aG,a8.2.2.trans aT⟩
 have start:∀ (Q:cQ→List I→List ar→Prop) (B9:gE),SW=B9→(bj=true→∀ T,rX (H++[o]) T [.tmp 6]=some [.av [] 0 (.uniq 3)]→Q .ret T (H++[o]))→(bj=false→∀ Kf,dQ Tryz.prog LM 57 lo none B9 (qe 84 [(0,rY b m),(1,.av (order.map h0) order.length .shared),(2,h0 qm),(6,.av [] 0 (.uniq 3)),(7,Kf),(9,.av [] 0 (.uniq 1)),(23,.bool false)]) (H++[o]) Q) →
   dQ Tryz.prog LM 57 lo none P1 (qe 84 [(0,rY b m),(1,.av (order.map h0) order.length .shared),(2,h0 qm)]) H Q:=by
  intro Q B9 adg ab ae;unfold P1 XX;rw [adg];conv=>whnf
  refine ⟨_,_,rF ac4,?_⟩;conv=>whnf
  cases bj with
  | true =>
    (conv=>whnf);exact ab rfl _ rfl
  | false =>
    (conv=>whnf);exact ae rfl _
 cases bj with
 | true =>
   rw [if_pos rfl] at h;obtain rfl:=Option.some.inj h;refine ⟨H++[o],.uniq 3,.inr (.inl rfl),bG.more _,⟨by simp,fun j _ aw=>by rw [si aw]⟩,?_⟩;refine rI eG Sp rfl (a'.append _ _ _) fun Q bp=>?_;refine start Q _ rfl (fun _ T b0=>?_) (fun h=>by cases h);exact bp _ _ _ ⟨.inr rfl,lI.refl _,by rw [b0];rfl⟩
 | false =>
   rw [if_neg (by simp)] at h;obtain ⟨⟨k,res⟩,ak,h⟩:=p9 h;have pB:∀ (Q:cQ→List I→List ar→Prop),
     (∀ q T,res=.inl q→rX (Hs k) T [.tmp 6]=some [.av (q.flatMap qw) q.length .shared]→Q .ret T (Hs k)) →
     (∀ ad,res=.inr ad→∃ bo,JF b order ad []=some bo∧∀ T,rX (Hs k) T [.tmp 6]=some [.av (bo.flatMap qw) bo.length (.uniq 3)]→Q .ret T (Hs k)) →
     dQ Tryz.prog LM 57 lo none P1 (qe 84 [(0,rY b m),(1,.av (order.map h0) order.length .shared),(2,h0 qm)]) H Q:=by
    intro Q ab ae;refine start Q _ rfl (fun h=>by cases h) fun _ Kf=>?_;unfold SW;obtain ⟨a9,ca⟩:∃ c,P3=c:=⟨_,rfl⟩;obtain ⟨nv,JP⟩:∃ c,SV=c:=⟨_,rfl⟩;rw [ca,JP];(conv=>whnf);subst ca;rw [←gL];refine adZ (b:=b) (m:=m) (lo:=lo) ak aI (Hs:=Hs) (fun i q hm a_=>(Nc i (c1 i).1).2.1 q hm a_) (fun i hm=>(Nc i (c1 i).1).2.2 hm) (by exact rfl) (fun q T a_ b0=>?_) (fun ad Y1 Y2 Y3 a_ xe=>?_)
    ·(conv=>whnf);exact ab q T a_ b0
    ·obtain ⟨bo,aq,ai⟩:=ae ad a_;(conv=>whnf);subst JP;unfold SV;obtain ⟨a7,cf⟩:∃ c,P2=c:=⟨_,rfl⟩;rw [cf];(conv=>whnf);subst cf;refine afL (b:=b) (m:=m) (lo:=lo) aq (by omega) (by exact rfl) fun Y5 Y6 Y7 Y8=>?_;(conv=>whnf);exact ai _ rfl
   have Nf:=c1 k;cases res with
   | inl l =>
     obtain rfl:=Option.some.inj h;refine ⟨Hs k,.shared,.inl rfl,Nf.1,Nf.2.1,?_⟩;refine rI eG Sp rfl Nf.2.2 fun Q bp=>?_;refine pB Q (fun q T a_ b0=>?_) (fun ad a_=>by cases a_);injection a_ with a_;subst a_;exact bp _ _ _ ⟨.inr rfl,lI.refl _,by rw [b0];rfl⟩
   | inr ad =>
     refine ⟨Hs k,.uniq 3,.inr (.inl rfl),Nf.1,Nf.2.1,?_⟩;refine rI eG Sp rfl Nf.2.2 fun Q bp=>?_;refine pB Q (fun q T a_ b0=>by cases a_) (fun bh a_=>⟨v,?_,fun T b0=>?_⟩)
     ·injection a_ with a_;subst a_;exact h
     ·exact bp _ _ _ ⟨.inr rfl,lI.refl _,by rw [b0];rfl⟩
end Go.Proofs.YtkoioidpbbbaiaaGreat.Ab


namespace Go.Proofs.YtkoioidpbbbaiaaGreat.Ab
open Go
noncomputable def agC:gE :=
 p2 [p3 19 3, qE 20 19 0 .lss] (.cond (.nc 20) (qV [p0 21 [.cv (.str (ByteArray.mk (Array.mk [108, 101, 110, 32, 111, 117, 116, 32, 111, 102, 32, 114, 97, 110, 103, 101])))] (.other (Oper.mk (some 21) (Op.makeInterface 9 (Operand.const (Value.string (ByteArray.mk (Array.mk [108, 101, 110, 32, 111, 117, 116, 32, 111, 102, 32, 114, 97, 110, 103, 101]))))) 20 "slices.go:496" (Array.mk []) none) 0), ⟨none, [.Bs 21], none, none, .other (Oper.mk none (Op.panic (Operand.tmp 21)) 0 "slices.go:496" (Array.mk [Edge.mk 0 Ground.data]) none) 0⟩]) .skip)
noncomputable def agD:gE :=
 p2 [p1 15 3,p1 16 5,q3 17 16,qn 18 15 17 .add,p1 3 18] agC
noncomputable def agE:gE :=
 .block 1 (p2 [p0 13 [.nc 9,.nc 11] (.kY 1),qi 14 13,p1 5 14] agD)
noncomputable def agF:gE :=
 .ov false [p1 31 6,p1 32 8,p0 33 [.jq 31,.jq 32] (.app 3 24),p1 6 33]
noncomputable def agG:gE :=
 .block 3 (p2 [p0 29 [.nc 25,.nc 27] (.kY 1),qi 30 29,p1 8 30] agF)
noncomputable def agH:gE :=
 .seq (p2 [p1 25 0,p0 26 [.nc 25] .zJ,qh 27 0] (.block 2 (.loop (some (qc false [6,1,18,3,8])) (p2 [p0 28 [.nc 27,.nc 26] (.bin .lss)] (.seq (.cond (.nc 28) .skip (.exit 2)) (.seq agG (qV [q2 34 27 1,p1 27 34]))))))) (p2 [p1 35 6,p1 2 35] .ret)
noncomputable def agI:gE :=
 .seq (p2 [p3 9 0,p0 10 [.nc 9] .zJ,qh 11 0] (.block 0 (.loop (some (qc false [0,1,2,1,5,3,24])) (p2 [p0 12 [.nc 11,.nc 10] (.bin .lss)] (.seq (.cond (.nc 12) .skip (.exit 0)) (.seq agE (qV [q2 22 11 1,p1 11 22]))))))) (p2 [p1 23 3,p0 24 [.cv (.func 76 [] []),.cv (.av [] 0 .full),.nc 23] (.call 0),p1 6 24] agH)
noncomputable def XW:gE :=
 p2 [p0 2 [.cv (.av [] 0 .full)] (.nil 3)] (p2 [qh 3 0] agI)
theorem aeq:qt Go.Proofs.Tryz.prog UL 56=some (XW,36,[.tmp 2]):=by kernel_rfl
end Go.Proofs.YtkoioidpbbbaiaaGreat.Ab


namespace Go.Proofs.YtkoioidpbbbaiaaGreat.Ab
open Go
set_option maxRecDepth 20000
set_option maxHeartbeats 4000000
noncomputable def Qh (k:Nat) (args:List I):Option I:=match ga Go.Proofs.Tryz.prog jD (Qm []) 300 (.fn k) args [] 0 with
 | some (r,H2)=>match bM H2 0 H2.length 0 8 r with
   | some v=>match cr 8 v with
     | true=>some v
     | false=>none
   | none=>none
 | none=>none
theorem Yp {k:Nat} {args:List I} {v:I} (h:Qh k args=some v):nn Go.Proofs.Tryz.prog k args v:=by
 unfold Qh at h;split at h
 ·rename_i r H2 ak;split at h
  ·rename_i u aP;split at h
   ·rename_i aB;cases h;have ah:=(Cb eG jD (YQ (l:=[]) (by simp)) (W7 U4) 300).Ha ak;refine ⟨⟨a'.refl _ _,ah.2.1,fun B aa J S w xs ag aI ad=>CallsIn.mono (ah.2.2 B aa J S w xs ag aI ad) fun e w' he=>?_⟩,aB⟩;cases e with
    | returned x=>exact xG ag (fun id aE=>by simp at aE) aP he
    | panicked c=>exact he.elim
    | outgrown=>exact he.elim
   ·cases h
  ·cases h
 ·cases h
def PG:I→Bool
 | .av [] 0 (.uniq 3)=>true
 | _=>false
theorem V_ {v:I} (h:PG v=true):v=.av [] 0 (.uniq 3):=by
 unfold PG at h;split at h
 ·rfl
 ·cases h
theorem acS:((List.range 20).all fun n=>match Qh 76 [.av [] 0 .full,.int .i64 ((n+1:Nat):Int)] with | some v=>PG v | none=>false)=true:=by kernel_rfl
theorem acT {n:Nat} (h:n<20):qB 76 [.av [] 0 .full,h0 ((n+1:Nat):Int)] (.av [] 0 (.uniq 3)):=by
 have:=List.all_eq_true.1 acS n (sH.2 h);split at this
 ·rename_i v ad;rw [V_ this] at ad;exact Yp ad
 ·cases this
theorem aco:(match Qh 56 [.av [.av [] 0 .shared,.av [] 0 .shared] 2 (.uniq 1)] with | some v=>PG v | none=>false)=true:=by kernel_rfl
theorem acm:qB 56 [.av [.av [] 0 .shared,.av [] 0 .shared] 2 (.uniq 1)] (.av [] 0 (.uniq 3)):=by
 have:=aco;split at this
 ·rename_i v ad;rw [V_ this] at ad;exact Yp ad
 ·cases this
abbrev LE (l:List qy):I:=.av (l.flatMap qw) l.length .shared
theorem acn {l1 l2:List qy} (aI:l1.length+l2.length≤20) {H:List ar} {lo:Nat}:Sem Tryz.prog (.fn 56) [.av [LE l1,LE l2] 2 (.uniq 1)] H lo (.av ((l1++l2).flatMap qw) (l1++l2).length (.uniq 3)) H:=by
 by_cases aQ:l1.length+l2.length=0
 ·obtain rfl:=sP.1 (show l1.length=0 by omega);obtain rfl:=sP.1 (show l2.length=0 by omega);have:=Yt (H:=H) (by rfl) acm;exact ⟨a'.refl _ _,this.2⟩
 obtain ⟨k,al⟩:∃ k,l1.length+l2.length=k+1:=⟨l1.length+l2.length-1,by omega⟩;refine rI eG aeq rfl (a'.refl _ _) fun Q bp=>?_;unfold XW;conv=>whnf
 have bI:IntKind.i64.wrap (0+(l1.length:Int))=(l1.length:Int):=by rw [HU _ (by omega) (by omega)];omega
 have bX:IntKind.i64.wrap ((l1.length:Int)+(l2.length:Int))=((l1.length+l2.length:Nat):Int):=by rw [HU _ (by omega) (by omega)];omega
 refine .intro (fun m T H'=>(m=2∧T=qe 36 [(0,.av [LE l1,LE l2] 2 (.own 1)),(3,h0 0),(9,.av [LE l1,LE l2] 2 .shared),(10,h0 2),(11,h0 0)]∧H'=H)∨(m=1∧T=qe 36 [(0,.av [LE l1,LE l2] 2 (.own 1)),(3,h0 l1.length),(9,.av [LE l1,LE l2] 2 .shared),(10,h0 2),(11,h0 1)]∧H'=H)∨(m=0∧T=qe 36 [(0,.av [LE l1,LE l2] 2 (.own 1)),(3,h0 ((l1.length+l2.length:Nat):Int)),(9,.av [LE l1,LE l2] 2 .shared),(10,h0 2),(11,h0 2)]∧H'=H)) 2 (.inl ⟨rfl,rfl,rfl⟩) ?_;rintro m T H' (⟨rfl,rfl,rfl⟩ | ⟨rfl,rfl,rfl⟩ | ⟨rfl,rfl,rfl⟩)
 ·conv=>whnf
  refine ⟨by decide,?_⟩;conv=>whnf
  rw [bI,decide_eq_false (show ¬ ((l1.length:Int)<0) by omega)];conv=>whnf
  exact ⟨1,by decide,.inr (.inl ⟨rfl,rfl,rfl⟩)⟩
 ·conv=>whnf
  refine ⟨by decide,?_⟩;conv=>whnf
  rw [bX,decide_eq_false (show ¬ (((l1.length+l2.length:Nat):Int)<0) by omega)];conv=>whnf
  exact ⟨0,by decide,.inr (.inr ⟨rfl,rfl,rfl⟩)⟩
 ·conv=>whnf
  rw [al];refine ⟨_,_,Oc (p5 rfl (p5 rfl rfl)) (acT (n:=k) (by omega)) _ _,?_⟩;conv=>whnf
  have bm:(l1.flatMap qw).length=l1.length*3:=rf qw 3 (fun _=>rfl) l1;have cw:(l2.flatMap qw).length=l2.length*3:=rf qw 3 (fun _=>rfl) l2;refine .intro (fun m T H2=>(m=2∧T=qe 36 [(6,.av [] 0 (.uniq 3)),(25,.av [LE l1,LE l2] 2 (.own 1)),(26,h0 2),(27,h0 0)]∧H2=H')∨(m=1∧T=qe 36 [(6,.av (l1.flatMap qw) l1.length (.uniq 3)),(25,.av [LE l1,LE l2] 2 (.own 1)),(26,h0 2),(27,h0 1)]∧H2=H')∨(m=0∧T=qe 36 [(6,.av ((l1++l2).flatMap qw) (l1++l2).length (.uniq 3)),(25,.av [LE l1,LE l2] 2 (.own 1)),(26,h0 2),(27,h0 2)]∧H2=H')) 2 (.inl ⟨rfl,rfl,rfl⟩) ?_;rintro m T H2 (⟨rfl,rfl,rfl⟩ | ⟨rfl,rfl,rfl⟩ | ⟨rfl,rfl,rfl⟩)
  ·(conv=>whnf);refine ⟨by decide,?_⟩;(conv=>whnf);refine ⟨bm,by omega,rfl,by omega,?_⟩;(conv=>whnf);refine ⟨1,by decide,.inr (.inl ⟨rfl,?_,rfl⟩)⟩;rw [sC];rfl
  ·(conv=>whnf);refine ⟨by decide,?_⟩;(conv=>whnf);refine ⟨cw,by omega,rfl,by omega,?_⟩;(conv=>whnf);refine ⟨0,by decide,.inr (.inr ⟨rfl,?_,rfl⟩)⟩;rw [ug,sA];rfl
  ·(conv=>whnf);exact bp _ _ _ ⟨.inr rfl,lI.refl _,rfl⟩

noncomputable def aaq:gE :=
 p2 [p0 2 [.jq 0] .box,p0 3 [.jq 1] .box,qh 4 0] (p2 [qz 5 2 0,qi 6 5,qz 7 3 0,qi 8 7,qn 9 6 8 .sub,p1 4 9] .ret)
theorem afa:qt Tryz.prog UN 59=some (aaq,10,[.tmp 4]):=by kernel_rfl
def ZH (x:(Int×(Int×Int))) (y:(Int×(Int×Int))):Option Int :=
 some (w (x.1-y.1))
theorem ai1 {x:(Int×(Int×Int))} {y:(Int×(Int×Int))} {v:Int} (h:ZH x y=some v):qB 59 [(.agg [(h0 x.1),(h0 x.2.1),(h0 x.2.2)]),(.agg [(h0 y.1),(h0 y.2.1),(h0 y.2.2)])] (h0 v):=by
 refine qR eG afa rfl rfl fun Q bp=>?_;have jJ:qK [.tmp 4] Q (fun v=>(h0 v)) v:=fun T H bE=>bp _ T H bE;unfold ZH at h;unfold aaq;conv=>whnf
 exact p8 h jJ rfl rfl
end Go.Proofs.YtkoioidpbbbaiaaGreat.Ab


namespace Go.Proofs.YtkoioidpbbbaiaaGreat.Ab
open Go
noncomputable def agK:gE :=
 .ov false [p1 7 0,p3 8 4,p1 9 4,p0 10 [.Bs 9] (.conv .u64),p0 11 [.cv (.func 79 [] []),.nc 10] (.call 3),p1 12 1,p0 13 [.cv (.func 78 [] []),.jq 7,.cv (.int .i64 0),.jq 8,.jq 11,.jq 12] (.call 1)]
noncomputable def SX:gE :=
 p2 [p3 5 0,q3 6 5,p1 4 6] agK
theorem WH:qt Go.Proofs.Tryz.prog UM 58=some (SX,14,[]):=by kernel_rfl
noncomputable def OO:gE :=
 p2 [p1 26 0,p1 27 1,p1 28 2,p1 29 4,p0 30 [.cv (.func 90 [] []),.jq 26,.jq 27,.jq 28,.jq 29] (.call 1)] .ret
noncomputable def agY:gE :=
 p2 [p1 33 0,p1 34 1,p1 35 2,p1 36 4,p0 37 [.cv (.func 91 [] []),.jq 33,.jq 34,.jq 35,.jq 36] (.call 1)] .ret
noncomputable def agZ:gE :=
 p2 [p3 40 0,p3 41 1,p3 42 2,p3 43 4,p0 44 [.cv (.func 92 [] []),.jq 40,.jq 41,.jq 42,.jq 43] (.call 1)] (qV [p1 45 3,qE 46 45 1 .sub,p1 3 46])
noncomputable def ag0:gE :=
 p2 [p3 62 2,qE 63 62 1 .sub,p1 64 13,p3 65 1,qn 66 64 65 .sub,qn 67 63 66 .sub,p1 13 67] (qV [qh 14 1])
noncomputable def ag1:gE :=
 p2 [p3 57 0,p3 58 1,p3 59 2,p3 60 4,p0 61 [.cv (.func 94 [] []),.jq 57,.jq 58,.jq 59,.jq 60] (.call 1)] ag0
noncomputable def ag2:gE :=
 p2 [p3 76 0,p3 77 1,p3 78 2,p3 79 4,p0 80 [.cv (.func 95 [] []),.jq 76,.jq 77,.jq 78,.jq 79] (.call 1)] (.cond (.nc 80) .ret .skip)
noncomputable def ag3:gE :=
 p2 [p3 98 0,p1 99 1,p3 100 2,p1 101 13,p3 102 4,p0 103 [.cv (.func 96 [] []),.jq 98,.jq 99,.jq 100,.jq 101,.jq 102] (.call 1),p1 15 103] (p2 [p1 104 15,p1 1 104] (.exit 1))
noncomputable def ag4:gE :=
 p2 [p3 129 0,p1 130 1,p3 131 16,p3 132 3,p3 133 4,p0 134 [.cv (.func 78 [] []),.jq 129,.jq 130,.jq 131,.jq 132,.jq 133] (.call 1)] (qV [p1 135 16,q2 136 135 1,p1 1 136])
noncomputable def ag5:gE :=
 p2 [p1 126 18,p1 127 20,qn 128 126 127 .geq,p1 10 128] ag4
noncomputable def agQ:gE :=
 p2 [p3 140 0,p3 141 16,q2 142 141 1,p1 143 2,p3 144 3,p3 145 4,p0 146 [.cv (.func 78 [] []),.jq 140,.jq 142,.jq 143,.jq 144,.jq 145] (.call 1)] (qV [p1 147 16,p1 2 147])
noncomputable def agR:gE :=
 p2 [p1 137 19,p1 138 20,qn 139 137 138 .geq,p1 10 139] agQ
noncomputable def agS:gE :=
 p2 [p1 121 12,qE 122 121 8 .quo,p1 20 122] (p2 [p3 123 18,p3 124 19,qn 125 123 124 .lss] (.cond (.nc 125) ag5 agR))
noncomputable def agT:gE :=
 p2 [p3 115 16,p3 116 1,qn 117 115 116 .sub,p3 118 2,p3 119 16,qn 120 118 119 .sub,p1 18 117,p1 19 120] agS
noncomputable def agU:gE :=
 p2 [p3 106 0,p3 107 1,p3 108 2,p1 109 13,p3 110 4,p0 111 [.cv (.func 97 [] []),.jq 106,.jq 107,.jq 108,.jq 109,.jq 110] (.call 1),p1 105 111,qI 112 105 0,p0 113 [.Bs 105] (.ext 1),p1 16 112,p1 17 113] (p2 [p1 114 17,p1 11 114] agT)
noncomputable def agV:gE :=
 .seq (.seq (rA [p3 81 1,qE 82 81 0 .gtr,p1 83 82,cl 84 [.nc 4] 83 true .mU,cl 85 [.nc 0] 83 true .mU,cl 86 [.nc 1] 83 true .mU,cl 87 [.Bs 86,.cv (.int .i64 1)] 83 true (.bin .sub),cl 88 [.Bs 85,.Bs 87] 83 true (.kY 3),cl 89 [.Bs 88] 83 true (.zE (.str 3)),cl 90 [.nc 0] 83 true .mU,cl 91 [.nc 13] 83 true .mU,cl 92 [.Bs 90,.Bs 91] 83 true (.kY 3),cl 93 [.Bs 92] 83 true (.zE (.str 3)),cl 94 [.nc 84,.nc 89,.nc 93] 83 true (.call 6),cl 95 [.Bs 94,.cv (.int .i64 0)] 83 true (.bin .lss),cl 96 [.Bs 95] 83 true (.un .not),p0 97 [.nc 83,.Bs 96,.cv (.bool false)] .pick]) (.cond (.nc 97) ag3 .skip)) agU
noncomputable def agW:gE :=
 .seq (p2 [p3 68 10,p1 69 68,cl 70 [.nc 11] 69 true .mU,p0 71 [.Bs 69,.Bs 70,.cv (.bool false)] .pick,p1 72 71,cl 73 [.jq 14] 72 true .mU,cl 74 [.Bs 73,.cv (.int .i64 1)] 72 true (.bin .eql),p0 75 [.Bs 72,.Bs 74,.cv (.bool false)] .pick] (.cond (.nc 75) ag2 .skip)) agV
noncomputable def agX:gE :=
 p2 [p3 48 0,p3 49 1,p3 50 2,p3 51 4,p0 52 [.cv (.func 93 [] []),.jq 48,.jq 49,.jq 50,.jq 51] (.call 1),p1 47 52,qI 53 47 0,p0 54 [.Bs 47] (.ext 1),p1 13 53,p1 14 54] (.seq (p2 [p3 55 14,qE 56 55 2 .eql] (.cond (.nc 56) ag1 .skip)) agW)
noncomputable def S8:gE :=
 .seq (p2 [p3 31 3,qE 32 31 0 .eql] (.cond (.nc 32) agY .skip)) (.seq (p2 [p3 38 10,p0 39 [.Bs 38] (.un .not)] (.cond (.nc 39) agZ .skip)) agX)
noncomputable def OP:gE :=
 .block 1 (p2 [p3 21 2,p3 22 1,qn 23 21 22 .sub,p1 12 23] (.seq (p2 [p3 24 12,qE 25 24 12 .leq] (.cond (.nc 25) OO .skip)) S8))
noncomputable def S7:gE :=
 p2 [p0 10 [.cv (.bool true)] .mU] (p2 [p0 11 [.cv (.bool true)] .mU] (.block 0 (.loop (some (qc false [0,5,5,2,136])) OP)))
theorem WK:qt Go.Proofs.Tryz.prog UX 78=some (S7,148,[]):=by kernel_rfl
noncomputable def ag9:gE :=
 .block 3 (rA [p3 37 0,p3 38 9,p3 39 0,p3 40 9,qE 41 40 1 .sub,p3 42 0,p3 43 9,qE 44 43 1 .sub,rv 45 42 44 3,p0 46 [.Bs 45] (.zE (.str 3)),p3 47 0,p3 48 9,rv 49 47 48 3,p0 50 [.Bs 49] (.zE (.str 3)),rv 51 37 38 3,⟨none,[.jq 51,.jq 46],none,none,.st 3⟩,rv 52 39 41 3,⟨none,[.jq 52,.jq 50],none,none,.st 3⟩])
noncomputable def ag_:gE :=
 .seq (.seq (rA [p3 18 9,p3 19 1,qn 20 18 19 .gtr,p1 21 20,cl 22 [.nc 3] 21 true .mU,cl 23 [.nc 0] 21 true .mU,cl 24 [.nc 9] 21 true .mU,cl 25 [.Bs 23,.Bs 24] 21 true (.kY 3),cl 26 [.Bs 25] 21 true (.zE (.str 3)),cl 27 [.nc 0] 21 true .mU,cl 28 [.nc 9] 21 true .mU,cl 29 [.Bs 28,.cv (.int .i64 1)] 21 true (.bin .sub),cl 30 [.Bs 27,.Bs 29] 21 true (.kY 3),cl 31 [.Bs 30] 21 true (.zE (.str 3)),cl 32 [.nc 22,.nc 26,.nc 31] 21 true (.call 6),cl 33 [.Bs 32,.cv (.int .i64 0)] 21 true (.bin .lss),p0 34 [.nc 21,.Bs 33,.cv (.bool false)] .pick]) (.cond (.nc 34) .skip (.exit 2))) (.seq ag9 (qV [p1 35 9,qE 36 35 1 .sub,p1 9 36]))
noncomputable def aha:gE :=
 .block 1 (p2 [p3 17 8,p1 9 17] (.block 2 (.loop (some (qc false [0,4,4,2,43])) ag_)))
noncomputable def ahb:gE :=
 .seq (p2 [p3 12 8,p3 13 2,qn 14 12 13 .lss] (.cond (.nc 14) .skip (.exit 0))) (.seq aha (qV [p1 15 8,q2 16 15 1,p1 8 16]))
noncomputable def Tg:gE :=
 p2 [p3 10 1,q2 11 10 1,p1 8 11] (.block 0 (.loop (some (qc false [0,4,4,1,44])) ahb))
theorem WM:qt Go.Proofs.Tryz.prog U3 90=some (Tg,53,[]):=by kernel_rfl
end Go.Proofs.YtkoioidpbbbaiaaGreat.Ab


namespace Go.Proofs.YtkoioidpbbbaiaaGreat.Ab
open Go
set_option maxRecDepth 20000
set_option maxHeartbeats 4000000
def qZ (S:List qy) (j:Nat):qy:=ix S (j:Int)
def K5 (S:List qy) (j:Nat):List qy:=(S.set (j+1) (qZ S j)).set j (qZ S (j+1))
def On (x y:qy):Bool:=decide (w (x.1-y.1)<0)
def Ih:Nat→List qy→List qy
 | 0,S=>S
 | j+1,S=>if On (qZ S (j+1)) (qZ S j)=true then Ih j (K5 S j) else S
def IY:Nat→Nat→List qy→List qy
 | 0,_,S=>S
 | m+1,i,S=>IY m (i+1) (Ih i S)
def Hh (S:List qy):List qy:=IY (S.length-1) 1 S
theorem YO (S:List qy) (j:Nat):(K5 S j).length=S.length:=by simp [K5]
theorem V5:∀ (j:Nat) (S:List qy),(Ih j S).length=S.length
 | 0,S=>rfl
 | j+1,S=>by
   unfold Ih;split
   ·rw [V5 j,YO]
   ·rfl
theorem Yw (S:List qy) (i:Nat) (c:qy) (h:i<S.length):(((S.flatMap qw).set (i*3) (h0 c.1)).set (i*3+1) (h0 c.2.1)).set (i*3+2) (h0 c.2.2)=(S.set i c).flatMap qw:=by
 induction S generalizing i with
 | nil=>exact absurd h (by simp)
 | cons s S a8 =>
   cases i with
   | zero=>rfl
   | succ i =>
     have:=a8 i (by simpa using h);show (((h0 s.1::h0 s.2.1::h0 s.2.2::S.flatMap qw).set ((i+1)*3) (h0 c.1)).set ((i+1)*3+1) (h0 c.2.1)).set ((i+1)*3+2) (h0 c.2.2)=h0 s.1::h0 s.2.1::h0 s.2.2::(S.set i c).flatMap qw;rw [←this,show (i+1)*3=i*3+1+1+1 by omega];rfl
abbrev IP (S:List qy):ar:=.cells (S.flatMap qw)
theorem adR {H:List ar} {id lo n:Nat} (bD:lo≤id) {S:List qy} (aI:S.length=n) (za:n≤100) (ag:H[id]?=some (IP S)) :
  Sem Tryz.prog (.fn 90) [.ref id 0 n none 3,h0 0,h0 n,.func 59 [] []] H lo (.tuple []) (H.set id (IP (Hh S))):=by
 have aE:=(sa.1 ag).1;refine rI eG WM rfl ⟨by simp,fun j ab ae=>by rw [se (by omega)]⟩ fun Q bp=>?_;have CI:Nat.ble lo id=true:=tj bD;have gs:∀ c:ar,(H.set id c)[id]?=some c:=fun c=>by rw [sk aE]
 have KJ:∀ c e:ar,(H.set id c).set id e=H.set id e:=fun c e=>List.set_set ..;unfold Tg;conv=>whnf
 refine .intro (fun m T H'=>∃ (i:Nat) (S':List qy),1≤i∧(i≤n∨i=1)∧m=n-i∧S'.length=n∧IY (n-i) i S'=Hh S∧T=qe 53 [(0,.ref id 0 n none 3),(1,h0 0),(2,h0 n),(3,.func 59 [] []),(8,h0 i)]∧H'=H.set id (IP S')) (n-1) ⟨1,S,sd _,.inr rfl,rfl,aI,by rw [←aI];rfl,rfl,?_⟩ ?_
 ·obtain ⟨ab,ae⟩:=sa.1 ag;rw [←ae,List.set_getElem_self]
 rintro m T H' ⟨i,S',adt,adu,rfl,pk,he,rfl,rfl⟩;have Vl:i<n→IntKind.i64.wrap ((i:Int)+1)=((i+1:Nat):Int):=fun _=>by rw [HU _ (by omega) (by omega)];omega
 conv=>whnf
 refine HL (fun aR=>?_) (fun aR=>?_)
 ·have HN:i<n:=by omega
  conv=>whnf
  refine .intro (fun j T H'=>∃ bL:List qy,j≤i∧bL.length=n∧Ih j bL=Ih i S'∧T=qe 53 [(0,.ref id 0 n none 3),(1,h0 0),(2,h0 n),(3,.func 59 [] []),(8,h0 i),(9,h0 j)]∧H'=H.set id (IP bL)) i ⟨S',sd _,pk,rfl,rfl,rfl⟩ ?_;rintro j T H' ⟨bL,aw,RO,Ml,rfl,rfl⟩;have pE:(bL.flatMap qw).length=bL.length*3:=rf qw 3 (fun _=>rfl) bL;conv=>whnf
  cases j with
  | zero =>
    (conv=>whnf);refine ⟨n-(i+1),by omega,i+1,bL,by omega,by omega,rfl,RO,?_,by rw [Vl HN];rfl,rfl⟩;rw [←he,show n-i=(n-(i+1))+1 by omega];show _=IY (n-(i+1)) (i+1) (Ih i S');rw [←Ml];rfl
  | succ y =>
    (have hw:IntKind.i64.wrap (((y+1:Nat):Int)-1)=(y:Int):=by rw [HU _ (by omega) (by omega)];omega);rw [decide_eq_true (show (0:Int)<((y+1:Nat):Int) by omega)];(conv=>whnf);refine ⟨by omega,?_⟩;(conv=>whnf);refine Ew (gs _) ?_;(have gM:0≤((y+1:Nat):Int)∧((y+1:Nat):Int)<(bL.length:Int):=by omega);(have iS:0≤(y:Int)∧(y:Int)<(bL.length:Int):=by omega);(conv=>whnf);refine Qg qw 3 H8 bL ((y+1:Nat):Int) gM rfl ?_;(conv=>whnf);refine K3 qw 3 H8 bL ((y+1:Nat):Int) gM 1 rfl ?_;(conv=>whnf);refine K3 qw 3 H8 bL ((y+1:Nat):Int) gM 2 rfl ?_;(conv=>whnf);rw [hw];refine ⟨by omega,?_⟩;(conv=>whnf);refine Ew (gs _) ?_;(conv=>whnf);refine Qg qw 3 H8 bL (y:Int) iS rfl ?_;(conv=>whnf);refine K3 qw 3 H8 bL (y:Int) iS 1 rfl ?_;(conv=>whnf);refine K3 qw 3 H8 bL (y:Int) iS 2 rfl ?_;(conv=>whnf);refine ⟨p5 (H6 (p5 rfl (p5 rfl (p5 rfl rfl)))) (p5 (H6 (p5 rfl (p5 rfl (p5 rfl rfl)))) rfl),[.agg [h0 (qZ bL (y+1)).1,h0 (qZ bL (y+1)).2.1,h0 (qZ bL (y+1)).2.2],.agg [h0 (qZ bL y).1,h0 (qZ bL y).2.1,h0 (qZ bL y).2.2]],rfl,h0 (w ((qZ bL (y+1)).1-(qZ bL y).1)),rfl,ai1 rfl,Hj,?_⟩;(conv=>whnf);have mv:decide (w ((qZ bL (y+1)).1-(qZ bL y).1)<0)=On (qZ bL (y+1)) (qZ bL y):=rfl;rw [mv];have h':Ih (y+1) bL=if On (qZ bL (y+1)) (qZ bL y)=true then Ih y (K5 bL y) else bL:=rfl;cases ak:On (qZ bL (y+1)) (qZ bL y) with
    | false =>
      rw [ak,if_neg (by decide)] at h';(conv=>whnf);refine ⟨n-(i+1),by omega,i+1,bL,by omega,by omega,rfl,RO,?_,by rw [Vl HN];rfl,rfl⟩;rw [←he,show n-i=(n-(i+1))+1 by omega];show _=IY (n-(i+1)) (i+1) (Ih i S');rw [←Ml,h']
    | true =>
      rw [ak,if_pos rfl] at h';(conv=>whnf);rw [hw];refine ⟨by omega,?_⟩;(conv=>whnf);refine Ew (gs _) ?_;(conv=>whnf);refine Qg qw 3 H8 bL (y:Int) iS rfl ?_;(conv=>whnf);refine K3 qw 3 H8 bL (y:Int) iS 1 rfl ?_;(conv=>whnf);refine K3 qw 3 H8 bL (y:Int) iS 2 rfl ?_;(conv=>whnf);refine ⟨by omega,?_⟩;(conv=>whnf);refine Ew (gs _) ?_;(conv=>whnf);refine Qg qw 3 H8 bL ((y+1:Nat):Int) gM rfl ?_;(conv=>whnf);refine K3 qw 3 H8 bL ((y+1:Nat):Int) gM 1 rfl ?_;(conv=>whnf);refine K3 qw 3 H8 bL ((y+1:Nat):Int) gM 2 rfl ?_;(conv=>whnf);refine ⟨by omega,?_⟩;(conv=>whnf);rw [CI];refine Ew (gs _) ?_;(conv=>whnf);rw [show 0+((y+1:Nat):Int).toNat*3=(y+1)*3 by omega];refine Gn (by omega) ?_;(conv=>whnf);refine Gn (by rw [sZ];omega) ?_;(conv=>whnf);refine Gn (by rw [sZ,sZ];omega) ?_;(conv=>whnf);have e1:=Yw bL (y+1) (qZ bL y) (by omega);obtain ⟨jz,RP⟩:∃ jz,jz=bL.set (y+1) (qZ bL y):=⟨_,rfl⟩;(have KX:jz.length=n:=by rw [RP,sZ];exact RO);rw [←RP] at e1;have ajZ:(jz.flatMap qw).length=jz.length*3:=rf qw 3 (fun _=>rfl) jz;erw [e1,KJ];refine ⟨by omega,?_⟩;(conv=>whnf);rw [CI];refine Ew (gs _) ?_;(conv=>whnf);rw [show 0+(y:Int).toNat*3=y*3 by omega];refine Gn (by omega) ?_;(conv=>whnf);refine Gn (by rw [sZ];omega) ?_;(conv=>whnf);refine Gn (by rw [sZ,sZ];omega) ?_;(conv=>whnf);have b':=Yw jz y (qZ bL (y+1)) (by omega);erw [b',KJ];(conv=>whnf);rw [hw];refine ⟨y,by omega,jz.set y (qZ bL (y+1)),by omega,by rw [sZ];exact KX,?_,rfl,rfl⟩;rw [←Ml,h',RP];rfl
 ·have bk:n-i=0:=by omega
  rw [bk] at he;have he:S'=Hh S:=he;subst he;conv=>whnf
  exact bp _ _ _ ⟨.inl rfl,lI.refl _,rfl⟩
theorem afP {H:List ar} {id lo n:Nat} (bD:lo≤id) {S:List qy} {J8:Int} (aI:S.length=n) (za:n≤12) (ag:H[id]?=some (IP S)) :
  Sem Tryz.prog (.fn 78) [.ref id 0 n none 3,h0 0,h0 n,h0 J8,.func 59 [] []] H lo (.tuple []) (H.set id (IP (Hh S))):=by
 refine rI eG WK rfl ⟨by simp,fun j ab ae=>by rw [se (by omega)]⟩ fun Q bp=>?_;unfold S7;obtain ⟨Ru,JO⟩:∃ c,OP=c:=⟨_,rfl⟩;rw [JO];conv=>whnf
 refine .intro (fun m T H'=>T=qe 148 [(0,.ref id 0 n none 3),(1,h0 0),(2,h0 n),(3,h0 J8),(4,.func 59 [] []),(10,B true),(11,B true)]∧H'=H) 0 ⟨rfl,rfl⟩ ?_;rintro m T H' ⟨rfl,rfl⟩;subst JO;unfold OP;obtain ⟨a7,cf⟩:∃ c,OO=c:=⟨_,rfl⟩;obtain ⟨Rt,LR⟩:∃ c,S8=c:=⟨_,rfl⟩;rw [cf,LR];conv=>whnf
 rw [show IntKind.i64.wrap ((n:Int)-0)=(n:Int) by rw [HU _ (by omega) (by omega)];omega,decide_eq_true (show (n:Int)≤12 by omega)];conv=>whnf
 subst cf;unfold OO;conv=>whnf
 refine ⟨_,_,rF (adR bD aI (by omega) ag),?_⟩;conv=>whnf
 exact bp _ _ _ ⟨.inr rfl,lI.refl _,rfl⟩
theorem ahz {H:List ar} {id lo n:Nat} (bD:lo≤id) {S:List qy} (aI:S.length=n) (za:n≤12) (ag:H[id]?=some (IP S)) :
  Sem Tryz.prog (.fn 58) [.ref id 0 n none 3,.func 59 [] []] H lo (.tuple []) (H.set id (IP (Hh S))):=by
 refine rI eG WH rfl ⟨by simp,fun j ab ae=>by rw [se (by omega)]⟩ fun Q bp=>?_;unfold SX;conv=>whnf
 rw [show IntKind.u64.wrap (n:Int)=(n:Int) by rw [Zg];omega];refine ⟨by first | rfl | simp only [tx,tZ,Np,Nx,Nq,Ns,Nr,Nt,Nz,Ny,K2,Nu,Nv,Nw,tt,tW],_,Pp n za,?_⟩
 conv=>whnf
 refine ⟨_,_,rF (afP bD aI za ag),?_⟩;conv=>whnf
 exact bp _ _ _ ⟨.inl rfl,lI.refl _,rfl⟩
section
variable {H:List ar} {lo:Nat}
theorem adS:Sem Tryz.prog (.fn 90) [.av [] 0 .shared,h0 0,h0 0,.func 59 [] []] H lo (.tuple []) H:=by
 refine rI eG WM rfl (a'.refl _ _) fun Q bp=>?_;unfold Tg;conv=>whnf
 refine .intro (fun m T H'=>T=qe 53 [(0,.av [] 0 .shared),(1,h0 0),(2,h0 0),(3,.func 59 [] []),(8,h0 1)]∧H=H') 0 ⟨rfl,rfl⟩ ?_;rintro m T H' ⟨rfl,rfl⟩;conv=>whnf
 exact bp _ _ _ ⟨.inl rfl,lI.refl _,rfl⟩
theorem afQ {J8:Int}:Sem Tryz.prog (.fn 78) [.av [] 0 .shared,h0 0,h0 0,h0 J8,.func 59 [] []] H lo (.tuple []) H:=by
 refine rI eG WK rfl (a'.refl _ _) fun Q bp=>?_;unfold S7;obtain ⟨Ru,JO⟩:∃ c,OP=c:=⟨_,rfl⟩;rw [JO];conv=>whnf
 refine .intro (fun m T H'=>T=qe 148 [(0,.av [] 0 .shared),(1,h0 0),(2,h0 0),(3,h0 J8),(4,.func 59 [] []),(10,B true),(11,B true)]∧H'=H) 0 ⟨rfl,rfl⟩ ?_;rintro m T H' ⟨rfl,rfl⟩;subst JO;unfold OP;obtain ⟨a7,cf⟩:∃ c,OO=c:=⟨_,rfl⟩;obtain ⟨Rt,LR⟩:∃ c,S8=c:=⟨_,rfl⟩;rw [cf,LR];conv=>whnf
 subst cf;unfold OO;conv=>whnf
 refine ⟨_,_,rF adS,?_⟩;conv=>whnf
 exact bp _ _ _ ⟨.inr rfl,lI.refl _,rfl⟩
theorem ahA:Sem Tryz.prog (.fn 58) [.av [] 0 .shared,.func 59 [] []] H lo (.tuple []) H:=by
 refine rI eG WH rfl (a'.refl _ _) fun Q bp=>?_;unfold SX;conv=>whnf
 refine ⟨by first | rfl | simp only [tx,tZ,Np,Nx,Nq,Ns,Nr,Nt,Nz,Ny,K2,Nu,Nv,Nw,tt,tW],_,Pp 0 (by decide),?_⟩
 conv=>whnf
 refine ⟨_,_,rF afQ,?_⟩;conv=>whnf
 exact bp _ _ _ ⟨.inl rfl,lI.refl _,rfl⟩
end

abbrev M5 (p:qf) (qg:List (List Int)):List I:=[(.agg [(.av (p.1.flatMap p7) p.1.length .shared),(h0 p.2.1),(h0 p.2.2)]),(.av (qg.map oX) qg.length (.uniq 1))]
theorem aiP {eK:(List Int)} {rm:Unit→Option ((Option (((List (Int×Int))×(Int×Int))×Unit))×Int)} {s2:Int} {p:((List (Int×Int))×(Int×Int))} {qg:(List (List Int))} {s1:Int} {v:((Option (((List (Int×Int))×(Int×Int))×Unit))×Int)} {Q:cQ→List I→List ar→Prop}   (jJ:∀ (e:Int) (T:List I),v=(none,e)→rX [rQ p] T [.tmp 4,.tmp 5]=some [.eI,h0 e]→Q .ret T [rQ p]) (KW:∀ (qb:List I),rm ()=some v→ra 48 [(2,(.ptr 0 0)),(8,(.av ((ix qg s1).map h0) (ix qg s1).length .shared)),(17,(.av (qg.map oX) qg.length (.own 1))),(18,(h0 (qg.length:Int))),(19,(h0 s1))] qb→Q (.exit 2) qb [ar.cells [(.av (p.1.flatMap p7) p.1.length .shared),(h0 p.2.1),(h0 p.2.2)]]) {T:List I} (b0:eZ [false,false,true,false,false,false,false,false,true,false,false,false,false,false,false,false,false,true,true,true,false,false,false,false,false,false,true,true,true,false,false,false,false,false,false,false,false,false,false,false,false,false,false,false,false,false,false,false] T=qe 48 [(2,(.ptr 0 0)),(8,(.av ((ix qg s1).map h0) (ix qg s1).length .shared)),(17,(.av (qg.map oX) qg.length (.own 1))),(18,(h0 (qg.length:Int))),(19,(h0 s1)),(26,(.av (eK.map h0) eK.length .shared)),(27,(h0 (eK.length:Int))),(28,(h0 s2))]) (h:IM eK rm qj s2=some v) :
  dQ Tryz.prog Le 40 0 none KE T [ar.cells [(.av (p.1.flatMap p7) p.1.length .shared),(h0 p.2.1),(h0 p.2.2)]] Q:=by
 unfold KE;skip;refine wp_loop b0 ?_;refine .intro (fun m T H=>∃ (s2:Int),T=qe 48 [(2,(.ptr 0 0)),(8,(.av ((ix qg s1).map h0) (ix qg s1).length .shared)),(17,(.av (qg.map oX) qg.length (.own 1))),(18,(h0 (qg.length:Int))),(19,(h0 s1)),(26,(.av (eK.map h0) eK.length .shared)),(27,(h0 (eK.length:Int))),(28,(h0 s2))]∧H=[ar.cells [(.av (p.1.flatMap p7) p.1.length .shared),(h0 p.2.1),(h0 p.2.2)]]∧IM eK rm m s2=some v) qj ⟨s2,rfl,rfl,h⟩ ?_;clear h b0;rintro m T H ⟨s2,rfl,rfl,h⟩;cases m
 ·exact r0 h
 rename_i m;rw [IM.eq_2] at h;conv=>whnf
 refine bs h (fun qP h=>?_) fun qP h=>?_
 ·rw [qP];conv=>whnf
  refine qD h id fun qT h=>?_;rw [rG h0 eK s2 qT];conv=>whnf
  refine bs h (fun qN h=>?_) fun qN h=>?_
  ·rw [qN];(conv=>whnf);obtain rfl:=Option.some.inj h;exact jJ _ _ rfl rfl
  ·rw [qN];(conv=>whnf);exact ⟨m,sv m,(w (s2+(1:Int))),rfl,rfl,h⟩
 ·rw [qP];conv=>whnf
  exact KW  _ h ⟨rfl,rfl⟩
theorem Zx {p:((List (Int×Int))×(Int×Int))} {qg:(List (List Int))} {p':Unit→Option ((Option (((List (Int×Int))×(Int×Int))×Unit))×Int)} {s1:Int} {v:((Option (((List (Int×Int))×(Int×Int))×Unit))×Int)} {Q:cQ→List I→List ar→Prop}   (jJ:∀ (e:Int) (T:List I),v=(none,e)→rX [rQ p] T [.tmp 4,.tmp 5]=some [.eI,h0 e]→Q .ret T [rQ p]) (rn:∀ (qb:List I),p' ()=some v→ra 48 [(2,(.ptr 0 0))] qb→Q (.exit 0) qb [ar.cells [(.av (p.1.flatMap p7) p.1.length .shared),(h0 p.2.1),(h0 p.2.2)]]) {T:List I} (b0:eZ [false,false,true,false,false,false,false,false,false,false,false,false,false,false,false,false,false,true,true,true,false,false,false,false,false,false,false,false,false,false,false,false,false,false,false,false,false,false,false,false,false,false,false,false,false,false,false,false] T=qe 48 [(2,(.ptr 0 0)),(17,(.av (qg.map oX) qg.length (.own 1))),(18,(h0 (qg.length:Int))),(19,(h0 s1))]) (h:HE p qg p' qj s1=some v) :
  dQ Tryz.prog Le 40 0 none JL T [ar.cells [(.av (p.1.flatMap p7) p.1.length .shared),(h0 p.2.1),(h0 p.2.2)]] Q:=by
 unfold JL;obtain ⟨HK,qJ⟩:∃ c,KE=c:=⟨_,rfl⟩;rw [qJ];refine wp_loop b0 ?_;refine .intro (fun m T H=>∃ (s1:Int),T=qe 48 [(2,(.ptr 0 0)),(17,(.av (qg.map oX) qg.length (.own 1))),(18,(h0 (qg.length:Int))),(19,(h0 s1))]∧H=[ar.cells [(.av (p.1.flatMap p7) p.1.length .shared),(h0 p.2.1),(h0 p.2.2)]]∧HE p qg p' m s1=some v) qj ⟨s1,rfl,rfl,h⟩ ?_;clear h b0;rintro m T H ⟨s1,rfl,rfl,h⟩;cases m
 ·exact r0 h
 rename_i m;rw [HE.eq_2] at h;conv=>whnf
 refine bs h (fun qx h=>?_) fun qx h=>?_
 ·rw [qx];conv=>whnf
  refine qD h id fun qQ h=>?_;rw [rG oX qg s1 qQ];conv=>whnf
  obtain ⟨bj,qA,h⟩:=p9 h;refine ⟨qa.pl,_,TT qA,?_⟩;conv=>whnf
  obtain ⟨eK,q5,h⟩:=p9 h;refine ⟨(p5 (Jr rfl (p5 (Iv (p5 (rU (fun _=>rfl) _ _ _) rfl)) rfl)) rfl),_,TS  q5,?_⟩;conv=>whnf
  subst qJ;refine aiP ?_ ?_ (by exact rfl) h
  ·exact fun e T bE ai=>jJ e T bE ai
  ·intro  qb h qo;obtain ⟨re,rfl⟩:=qo.ex;(conv=>whnf);refine bs h (fun r3 h=>?_) fun r3 h=>?_
   ·rw [r3];(conv=>whnf);obtain rfl:=Option.some.inj h;exact jJ _ _ rfl rfl
   ·rw [r3];(conv=>whnf);exact ⟨m,sv m,(w (s1+(1:Int))),rfl,rfl,h⟩
 ·rw [qx];conv=>whnf
  exact rn  _ h ⟨rfl,rfl⟩
theorem aiL {p:qf} {qg:List (List Int)} {e:Int} (h:rV p qg=some (none,e)):Sem Tryz.prog (.fn 40) (M5 p qg) [] 0 (.tuple [.eI,h0 e]) [rQ p]:=by
 refine rI eG Oo rfl (I0 (sE _)) fun Q bp=>?_;have jJ:∀ (cV:Int) (T:List I),((none,e):Option (qf×Unit)×Int)=(none,cV)→rX [rQ p] T [.tmp 4,.tmp 5]=some [.eI,h0 cV]→Q .ret T [rQ p]:=fun cV T he ai=>by
  obtain rfl:=(Prod.mk.inj he).2;exact bp _ _ _ ⟨.inr rfl,lI.refl _,by rw [ai];rfl⟩
 unfold rV at h;unfold N4;obtain ⟨Lh,rb⟩:∃ c,JL=c:=⟨_,rfl⟩;rw [rb];conv=>whnf
 obtain ⟨aS,gM,h⟩:=p9 h;refine ⟨qa.pl,_,Pd gM,?_⟩;conv=>whnf
 refine bs h (fun gN h=>?_) fun gN h=>?_
 ·rw [gN];conv=>whnf
  obtain rfl:aS=e:=(Prod.mk.inj (Option.some.inj h)).2;exact jJ _ _ rfl rfl
 ·rw [gN];conv=>whnf
  subst rb;refine Zx ?_ ?_ (by exact rfl) h
  ·exact fun e T bE ai=>jJ e T bE ai
  ·intro  qb h qo;exact absurd (Prod.mk.inj (Option.some.inj h)).1 (by simp)
theorem aiQ {p:qf} {qg:List (List Int)} {t:qf×Unit} {e:Int} (h:rV p qg=some (some t,e)):t=(p,())∧e=0∧Sem Tryz.prog (.fn 40) (M5 p qg) [] 0 (.tuple [.ptr 2 0,h0 0]) [rQ p,.map [] 0,.cells [(.av (p.1.flatMap p7) p.1.length .shared),(h0 p.2.1),(h0 p.2.2),.map 1]]:=by
 have ad:t=(p,())∧e=0:=by
  have aX:=h;unfold rV at aX;obtain ⟨aS,gM,aX⟩:=p9 aX;split at aX
  ·cases aX
  ·exact Wk aX
 obtain ⟨rfl,rfl⟩:=ad;refine ⟨rfl,rfl,?_⟩;refine rI eG Oo rfl (I0 (sE _)) fun Q bp=>?_;unfold rV at h;unfold N4;obtain ⟨Lh,rb⟩:∃ c,JL=c:=⟨_,rfl⟩;rw [rb];conv=>whnf
 obtain ⟨aS,gM,h⟩:=p9 h;refine ⟨qa.pl,_,Pd gM,?_⟩;conv=>whnf
 refine bs h (fun gN h=>?_) fun gN h=>?_
 ·exact absurd (Prod.mk.inj (Option.some.inj h)).1 (by simp)
 ·rw [gN];conv=>whnf
  subst rb;refine Zx ?_ ?_ (by exact rfl) h
  ·exact fun e T bE ai=>absurd (Prod.mk.inj bE).1 (by simp)
  ·intro  qb h qo;obtain ⟨re,rfl⟩:=qo.ex;(conv=>whnf);exact bp _ _ _ ⟨.inr rfl,lI.refl _,rfl⟩
section
variable {p:qf} {qg:List (List Int)}
theorem abY {e:Int} {lo:Nat} (h:rV p qg=some (none,e)):oV Tryz.prog 8 lo (.fn 40) (M5 p qg) [] (.tuple [.eI,h0 e]) [] :=
 ⟨_,EB (aiL h),by
  show (k9 _ _ _ _ _ _ (.fn 40) (M5 p qg) [] 0).bind _=_
  rw [EA];rfl⟩
theorem ab0 {t:qf×Unit} {e:Int} {lo:Nat} (h:rV p qg=some (some t,e)):oV Tryz.prog 8 lo (.fn 40) (M5 p qg) [] (.tuple [.bS [(.av (p.1.flatMap p7) p.1.length .shared),(h0 p.2.1),(h0 p.2.2),.map 0],h0 0]) [.map [] 0] :=
 ⟨_,EB (aiQ h).2.2,by
  show (k9 _ _ _ _ _ _ (.fn 40) (M5 p qg) [] 0).bind _=_;rw [EA];have e1:ea (bM [rQ p,.map [] 0,.cells [(.av (p.1.flatMap p7) p.1.length .shared),(h0 p.2.1),(h0 p.2.2),.map 1]] 0 1 0 6) [(.av (p.1.flatMap p7) p.1.length .shared),(h0 p.2.1),(h0 p.2.2),.map 1]=some [(.av (p.1.flatMap p7) p.1.length .shared),(h0 p.2.1),(h0 p.2.2),.map 0] :=
   rM (yW (HD (fun _=>p5 rfl (p5 rfl rfl)) _ _ _)) (rM (yW rfl) (rM (yW rfl) (rM rfl I2)))
  have b':bM [rQ p,.map [] 0,.cells [(.av (p.1.flatMap p7) p.1.length .shared),(h0 p.2.1),(h0 p.2.2),.map 1]] 0 1 0 8 (.tuple [.ptr 2 0,h0 0])=some (.tuple [.bS [(.av (p.1.flatMap p7) p.1.length .shared),(h0 p.2.1),(h0 p.2.2),.map 0],h0 0]) :=
   Oe (rM (show (ea (bM [rQ p,.map [] 0,.cells [(.av (p.1.flatMap p7) p.1.length .shared),(h0 p.2.1),(h0 p.2.2),.map 1]] 0 1 0 6) [(.av (p.1.flatMap p7) p.1.length .shared),(h0 p.2.1),(h0 p.2.2),.map 1]).map I.bS=_ by rw [e1];rfl) (rM rfl I2))
  show (match mapM (bM [rQ p,.map [] 0,.cells [(.av (p.1.flatMap p7) p.1.length .shared),(h0 p.2.1),(h0 p.2.2),.map 1]] 0 1 0 8) [],bM [rQ p,.map [] 0,.cells [(.av (p.1.flatMap p7) p.1.length .shared),(h0 p.2.1),(h0 p.2.2),.map 1]] 0 1 0 8 (.tuple [.ptr 2 0,h0 0]) with | some es',some v=>some (v,[]++[ar.map es' 0]) | _,_=>none)=_
  rw [b'];rfl⟩
end
end Go.Proofs.YtkoioidpbbbaiaaGreat.Ab


namespace Go.Proofs.YtkoioidpbbbaiaaGreat.Ab
open Go
noncomputable def SK:gE :=
 p2 [p3 33 9, p1 34 8, p0 35 [.jq 33, .jq 34] (.other (Oper.mk (some 35) (Op.call (Call.mk (Callee.builtin Builtin.copy) (Array.mk [Operand.tmp 33, Operand.tmp 34]) (Array.mk [38, 38]))) 3 "curl.go:142" (Array.mk [Edge.mk 0 Ground.data, Edge.mk 1 Ground.data]) none) 0)] (p2 [p1 36 9, p1 4 36, qh 5 0] .ret)
noncomputable def OI:gE :=
 p2 [p3 30 8,q3 31 30,p0 32 [.nc 31,.Bs 31] (.z1 [.int .i64 0,.int .i64 0,.int .i64 0] 3 24),p1 9 32] SK
noncomputable def My:gE :=
 p2 [p3 28 8,p0 29 [.cv (.func 58 [] []),.jq 28,.cv (.func 59 [] [])] (.call 1)] OI
noncomputable def SL:gE :=
 p2 [p3 20 6,p3 21 1,p0 22 [.cv (.func 57 [] []),.jq 20,.jq 21,.cv (.int .i64 0)] (.call 1),p1 23 6,p1 24 1,p0 25 [.cv (.func 57 [] []),.jq 23,.jq 24,.cv (.int .i64 1)] (.call 1),p0 26 [.Bs 22,.Bs 25] (.yB 2 1 [.av [] 0 .full] [0,1]),p0 27 [.cv (.func 56 [] []),.jq 26] (.call 1),⟨some 8,[.jq 27],none,some 27,.Bq⟩] My
noncomputable def XK:gE :=
 .seq (p2 [p3 17 7,qE 18 17 0 .neq] (.cond (.nc 18) (p2 [p1 19 7,p0 4 [.cv (.av [] 0 .full)] (.nil 3),p1 5 19] .ret) .skip)) SL
noncomputable def XL:gE :=
 p2 [p0 11 [.Bs 2] (.zE (.str 3)),p3 12 1,p0 13 [.Bs 12] (.yB 1 1 [.av [] 0 .full] [0]),p0 14 [.cv (.func 40 [] []),.jq 11,.jq 13] (.call 8),p1 10 14,qI 15 10 0,p0 16 [.Bs 10] (.ext 1),p1 6 15,p1 7 16] XK
noncomputable def XJ:gE :=
 p2 [p0 2 [.jq 0] .yy,p0 4 [.cv (.av [] 0 .full)] (.nil 3),qh 5 0] XL
theorem aej:qt Go.Proofs.Tryz.prog Pl 23=some (XJ,37,[.tmp 4,.tmp 5]):=by kernel_rfl
end Go.Proofs.YtkoioidpbbbaiaaGreat.Ab


namespace Go.Proofs.YtkoioidpbbbaiaaGreat.Ab
open Go
set_option maxRecDepth 20000
set_option maxHeartbeats 4000000
def Ly (p:qf) (order:List Int):Option (List qy×Int) :=
 (rV p [order]).bind fun r=>match r with
 | (none,q)=>if decide (q≠0)=true then some ([],q) else none
 | (some b,_)=>(LG b order 0).bind fun l1=>(LG b order 1).bind fun l2=>qk (l1.length+l2.length≤12) <| some (Hh (l1++l2),0)
theorem acN (b:Hf):H3 b 0 [.map [] 0]:=⟨[],0,rfl,fun e he=>absurd he (by simp)⟩
theorem V7:∀ (m i:Nat) (S:List qy),(IY m i S).length=S.length
 | 0,_,_=>rfl
 | m+1,i,S=>by unfold IY;rw [V7 m,V5]
theorem YD (S:List qy):(Hh S).length=S.length:=V7 _ _ _
theorem ahd (n:Nat) {a b c:I}:(e_ n [a,b,c]).length=n*3:=by
 induction n with
 | zero=>rfl
 | succ n a8=>show ([a,b,c]++e_ n [a,b,c]).length=_;rw [sA,a8];simp;omega
theorem Ym {S:List qy} {H:List ar} {id n:Nat} {cap:Option Nat} (ag:H[id]?=some (IP S)) (aI:S.length=n):rowOf H (.ref id 0 n cap 3)=some (S.flatMap qw):=by
 have ao:(S.flatMap qw).length=S.length*3:=rf qw 3 (fun _=>rfl) S;simp only [rowOf,ag,sC,tq];rw [if_pos (by omega),td (by omega),St (Zc (f:=qw) (fun _=>O0 rfl (O0 rfl (O0 rfl Zd))) S)]
theorem ahv {vs cs:List I} (h:vs.length=cs.length):setCells 0 vs cs=vs:=by
 apply List.ext_getElem?;intro j;rw [m' _ _ _ _ (by omega)];by_cases aw:j<vs.length
 ·rw [if_pos ⟨by omega,by omega⟩];simp
 ·rw [if_neg (by omega),uS (by omega),uS (by omega)]
theorem acr {P:Program} {lo a b n:Nat} {H:List ar} {S:List qy} {cells:List I} {cap:Option Nat} {e:TypeId} {ts:Array TypeId} (e1:(ts[0]?).bind P.underlying=some (.slice e)) (b':bF P e=some 3) (bD:lo≤a)
  (af:H[b]?=some (IP S)) (aI:S.length=n) (cu:H[a]?=some (.cells cells)) (ak:cells.length=n*3):j_ P lo ts H [.ref a 0 n (some n) 3,.ref b 0 n cap 3]=some (.int .i64 (n:Int),H.set a (IP S)):=by
 have ao:(S.flatMap qw).length=S.length*3:=rf qw 3 (fun _=>rfl) S;have cI:=Ym (cap:=cap) af aI;unfold j_;simp only [e1,b',lenOf,cI,fS,cu,if_pos bD];rw [if_pos ⟨trivial,by omega⟩,if_pos (by omega),Nat.min_self,td (by omega),ahv (by omega)];rfl
theorem Vx {S:List qy} {H:List ar} {id n d:Nat} {cap:Option Nat} (aE:id<H.length) (ag:H[id]?=some (IP S)) (aI:S.length=n):bM H 0 H.length 0 (d+2) (.ref id 0 n cap 3)=some (.av (S.flatMap qw) n (e3 cap n)):=by
 show (if id<0 then some (I.ref id 0 n cap 3) else if id=H.length then some (.ref 0 0 n cap 3) else match rowOf H (.ref id 0 n cap 3) with | some row=>(ea (bM H 0 H.length 0 (d+1)) row).map fun cs=>.av cs n (e3 cap n) | none=>none)=_;rw [if_neg (by omega),if_neg (by omega),Ym ag aI];have l0:ea (bM H 0 H.length 0 (d+1)) (S.flatMap qw)=some (S.flatMap qw):=zU fun u hu=>by
  obtain ⟨x,_,aj⟩:=List.mem_flatMap.1 hu;simp only [qw,sB,tQ,or_false] at aj;rcases aj with rfl | rfl | rfl <;> rfl
 simp only [l0,Option.map_some]
theorem ahN {H2:List ar} {L:List qy} (fq:L.length≤12) {Tv:I} {Q:cQ→List I→List ar→Prop}
  (bp:∀ T H,H4 [.tmp 4,.tmp 5] (.tuple [.av ((Hh L).flatMap qw) (Hh L).length .shared,h0 0]) .ret T H→Q .ret T H) :
  dQ Tryz.prog Pl 23 0 none My (qe 37 [(4,.av [] 0 (.uniq 3)),(5,h0 0),(7,h0 0),(8,.ref H2.length 0 L.length none 3),(18,Tv),(27,.ref H2.length 0 L.length none 3)]) (H2++[IP L]) Q:=by
 have DG:(Hh L).length=L.length:=YD L;unfold My;obtain ⟨a9,ca⟩:∃ c,OI=c:=⟨_,rfl⟩;rw [ca];conv=>whnf
 refine ⟨_,_,rF (ahz (sE _) rfl fq (I_ _ _)),?_⟩;rw [rZ];conv=>whnf
 subst ca;unfold OI SK;conv=>whnf
 refine ⟨by omega,sQ _,by omega,?_⟩;conv=>whnf
 rw [tp];refine ⟨_,_,fun C=>(Xa rfl).trans (acr (e:=62) (S:=Hh L) (by kernel_rfl) (by kernel_rfl) (sE _) (by exact VO (I_ _ _)) DG (I_ _ _) (ahd _)),?_⟩;conv=>whnf
 rw [rZ];refine bp _ _ ⟨.inr rfl,[.ref (H2++[IP (Hh L)]).length 0 L.length (some L.length) 3,h0 0],rfl,_,Oe (rM (Vx (S:=Hh L) (by simp) (I_ _ _) DG) (rM (yW rfl) I2)),?_⟩;have e1:e3 (some L.length) L.length=.full:=by simp [e3]
 rw [e1,DG];rfl
theorem acs {P:Program} {lo a:Nat} {H:List ar} {cap:Option Nat} {c:hE} {e:TypeId} {ts:Array TypeId} (e1:(ts[0]?).bind P.underlying=some (.slice e)) (b':bF P e=some 3) (bD:lo≤a) (cu:H[a]?=some (.cells [])):j_ P lo ts H [.ref a 0 0 cap 3,.av [] 0 c]=some (.int .i64 0,H.set a (.cells [])):=by
 unfold j_;simp only [e1,b',lenOf,rowOf,fS,cu,if_pos bD];rfl
theorem ahO {H2:List ar} {Tv:I} {Q:cQ→List I→List ar→Prop}
  (bp:∀ T H,H4 [.tmp 4,.tmp 5] (.tuple [.av (([]:List qy).flatMap qw) ([]:List qy).length .shared,h0 0]) .ret T H→Q .ret T H) :
  dQ Tryz.prog Pl 23 0 none My (qe 37 [(4,.av [] 0 (.uniq 3)),(5,h0 0),(7,h0 0),(8,.av [] 0 (.uniq 3)),(18,Tv),(27,.av [] 0 .shared)]) H2 Q:=by
 unfold My;obtain ⟨a9,ca⟩:∃ c,OI=c:=⟨_,rfl⟩;rw [ca];conv=>whnf
 refine ⟨_,_,rF ahA,?_⟩;conv=>whnf
 subst ca;unfold OI SK;conv=>whnf
 refine ⟨by omega,sQ _,by omega,?_⟩;conv=>whnf
 refine ⟨_,_,fun C=>(Xa rfl).trans (acs (e:=62) (a:=H2.length) (by kernel_rfl) (by kernel_rfl) (sE _) (I_ _ _)),?_⟩;conv=>whnf
 rw [rZ];refine bp _ _ ⟨.inr rfl,[.ref H2.length 0 0 (some 0) 3,h0 0],rfl,_,Oe (rM (Vx (S:=[]) (by simp) (I_ _ _) rfl) (rM (yW rfl) I2)),rfl⟩
theorem Zm {p:qf} {order:List Int} {v:List qy×Int} (h:Ly p order=some v):qB 23 [.agg [.av (p.1.flatMap p7) p.1.length .shared,h0 p.2.1,h0 p.2.2],.av (order.map h0) order.length .shared] (.tuple [.av (v.1.flatMap qw) v.1.length .shared,h0 v.2]):=by
 unfold Ly at h;obtain ⟨⟨aS,bj⟩,ai,h⟩:=p9 h;refine qR eG aej rfl (JG (p5 (HD (fun _=>p5 rfl (p5 rfl (p5 rfl rfl))) _ _ _) (p5 rfl rfl))) fun Q bp=>?_;have jJ:∀ T H,H4 [.tmp 4,.tmp 5] (.tuple [.av (v.1.flatMap qw) v.1.length .shared,h0 v.2]) .ret T H→Q .ret T H:=fun T H bE=>bp _ T H bE;unfold XJ XL XK;obtain ⟨bt,eS⟩:∃ c,SL=c:=⟨_,rfl⟩;rw [eS];conv=>whnf
 refine ⟨rfl,?_⟩;conv=>whnf
 rcases aS with _ | b
 ·refine ⟨_,_,abY ai,?_⟩;conv=>whnf
  refine bs h (fun af h=>?_) fun af h=>?_
  ·rw [af];(conv=>whnf);obtain rfl:=Option.some.inj h;exact jJ _ _ (Ix rfl rfl)
  ·cases h
 ·obtain ⟨rfl,rfl,_⟩:=O4 ai;refine ⟨_,_,ab0 ai,?_⟩;obtain ⟨l1,ab,h⟩:=p9 h;obtain ⟨l2,ae,h⟩:=p9 h;obtain ⟨aI,h⟩:=q_ h;obtain rfl:=Option.some.inj h;obtain ⟨H1,aJ,Da,f1,e1,s1⟩:=ZG ab (m:=0) (lo:=0) (sd 0) (acN (p,()));obtain ⟨H2,aN,pO,f2,b',s2⟩:=ZG ae (m:=0) (lo:=0) (sd 0) f1;have bn:=acn (l1:=l1) (l2:=l2) (H:=H2) (lo:=0) (by omega);subst eS;unfold SL;by_cases he:(l1++l2).length≠0
  ·rcases Da with rfl | rfl | rfl <;> rcases pO with rfl | rfl | rfl
   all_goals
    obtain ⟨a9,ca⟩:∃ c,My=c:=⟨_,rfl⟩;rw [ca];(conv=>whnf);refine ⟨_,_,rF s1,?_⟩;(conv=>whnf);refine ⟨_,_,rF s2,?_⟩;(conv=>whnf);refine ⟨_,_,rF bn,?_⟩;(conv=>whnf);refine .inl ⟨he,?_⟩;(conv=>whnf);subst ca;exact ahN (H2:=H2) (L:=l1++l2) (by simp;omega) jJ
  ·(have ajY:l1.length+l2.length=0:=by simp at he;simp [he]);obtain rfl:=sP.1 (show l1.length=0 by omega);obtain rfl:=sP.1 (show l2.length=0 by omega);rcases Da with rfl | rfl | rfl <;> rcases pO with rfl | rfl | rfl
   all_goals
    obtain ⟨a9,ca⟩:∃ c,My=c:=⟨_,rfl⟩;rw [ca];(conv=>whnf);refine ⟨_,_,rF s1,?_⟩;(conv=>whnf);refine ⟨_,_,rF s2,?_⟩;(conv=>whnf);refine ⟨_,_,rF bn,?_⟩;(conv=>whnf);refine .inr ⟨rfl,?_⟩;(conv=>whnf);subst ca;exact ahO (H2:=H2) jJ
end Go.Proofs.YtkoioidpbbbaiaaGreat.Ab


namespace Go.Proofs.YtkoioidpbbbaiaaGreat.Ab
open Go
set_option maxRecDepth 20000
set_option maxHeartbeats 1000000
theorem VG (S:List qy) (j k:Nat) (c:qy) (aw:j<S.length):qZ (S.set j c) k=if k=j then c else qZ S k:=by
 unfold qZ ix;rw [tp,sx,tC,sx];by_cases e:j=k
 ·subst e;simp [aw]
 ·rw [if_neg e,if_neg (Ne.symm e)]
theorem acR {S:List qy} {j:Nat} (aw:j+1<S.length) (k:Nat):qZ (K5 S j) k=if k=j then qZ S (j+1) else if k=j+1 then qZ S j else qZ S k:=by
 unfold K5;rw [VG _ _ _ _ (by simp;omega),VG _ _ _ _ aw]
theorem ahL {S:List qy} {j:Nat} (aw:j+1<S.length):(K5 S j).Perm S:=by
 have:=Sort.perm_set_set S (j+1) j aw (by omega);unfold K5;have e1:qZ S j=S[j]:=rJ (by omega);have b':qZ S (j+1)=S[j+1]:=rJ aw;rw [e1,b'];exact this
theorem V6:∀ (j:Nat) (S:List qy),j<S.length→(∀ c∈S,0≤c.1∧c.1≤1000)→(∀ a b,a<b→b<j→(qZ S a).1≤(qZ S b).1) →
  (Ih j S).Perm S∧(∀ k,j<k→qZ (Ih j S) k=qZ S k)∧(∀ a b,a<b→b≤j→(qZ (Ih j S) a).1≤(qZ (Ih j S) b).1)∧∀ a,a≤j→∃ b,b≤j∧qZ (Ih j S) a=qZ S b
 | 0,S,_,_,_=>⟨.refl _,fun _ _=>rfl,fun a b ab ae=>by omega,fun a cu=>⟨a,cu,rfl⟩⟩
 | j+1,S,aw,ak,ah=>by
   have hm:∀ k,k<S.length→0≤(qZ S k).1∧(qZ S k).1≤1000:=fun k al=>ak _ (JD (by omega));have da:=hm j (by omega);have db:=hm (j+1) aw;unfold Ih On;rw [qC (by omega)];by_cases aR:(qZ S (j+1)).1-(qZ S j).1<0
   ·rw [if_pos (decide_eq_true aR)];have aO:=acR aw;have aB:=ahL aw
    obtain ⟨i1,i2,i3,i4⟩:=V6 j (K5 S j) (by rw [YO];omega) (fun c h=>ak c (aB.mem_iff.1 h)) (fun a b ab ae=>by
     rw [aO,aO,if_neg (by omega),if_neg (by omega),if_neg (by omega),if_neg (by omega)]
     exact ah a b ab (by omega))
    refine ⟨i1.trans aB,fun k al=>?_,fun a b ab ae=>?_,fun a cu=>?_⟩
    ·rw [i2 k (by omega),aO,if_neg (by omega),if_neg (by omega)]
    ·by_cases e:b=j+1
     ·subst e;rw [i2 (j+1) (by omega),aO (j+1),if_neg (by omega),if_pos rfl];obtain ⟨c,aF,ba⟩:=i4 a (by omega);rw [ba,aO c];by_cases b':c=j
      ·rw [if_pos b'];omega
      ·rw [if_neg b',if_neg (by omega)];exact ah c j (by omega) (by omega)
     ·exact i3 a b ab (by omega)
    ·by_cases e:a=j+1
     ·subst e;rw [i2 (j+1) (by omega),aO (j+1),if_neg (by omega),if_pos rfl];exact ⟨j,by omega,rfl⟩
     ·obtain ⟨c,aF,ba⟩:=i4 a (by omega);rw [ba,aO c];by_cases b':c=j
      ·rw [if_pos b'];exact ⟨j+1,by omega,rfl⟩
      ·rw [if_neg b',if_neg (by omega)];exact ⟨c,by omega,rfl⟩
   ·rw [if_neg (by simpa using aR)];refine ⟨.refl _,fun _ _=>rfl,fun a b ab ae=>?_,fun a cu=>⟨a,cu,rfl⟩⟩;by_cases e:b=j+1
    ·subst e;by_cases b':a=j
     ·subst b';omega
     ·have:=ah a j (by omega) (by omega);omega
    ·exact ah a b ab (by omega)
theorem V8:∀ (m i:Nat) (S:List qy),i+m=S.length→(∀ c∈S,0≤c.1∧c.1≤1000)→(∀ a b,a<b→b<i→(qZ S a).1≤(qZ S b).1) →
  (IY m i S).Perm S∧∀ a b,a<b→b<S.length→(qZ (IY m i S) a).1≤(qZ (IY m i S) b).1
 | 0,i,S,h,_,ah=>⟨.refl _,fun a b ab ae=>ah a b ab (by omega)⟩
 | m+1,i,S,h,ak,ah=>by
   obtain ⟨i1,_,i3,_⟩:=V6 i S (by omega) ak ah;have ao:=i1.length_eq;obtain ⟨dD,dt⟩:=V8 m (i+1) (Ih i S) (by omega) (fun c h=>ak c (i1.mem_iff.1 h)) (fun a b ab ae=>i3 a b ab (by omega));unfold IY;exact ⟨dD.trans i1,fun a b ab ae=>dt a b ab (by omega)⟩
theorem ahB {S:List qy} (ak:∀ c∈S,0≤c.1∧c.1≤1000):(Hh S).Perm S∧(Hh S).Pairwise fun a b=>a.1≤b.1:=by
 unfold Hh;by_cases aQ:S.length=0
 ·obtain rfl:=sP.1 aQ;exact ⟨.refl _,.nil⟩
 ·obtain ⟨ab,ae⟩:=V8 (S.length-1) 1 S (by omega) ak (fun a b ab ae=>by omega);refine ⟨ab,List.pairwise_iff_getElem.2 fun i j hi aw h_=>?_⟩;have:=ae i j h_ (by rw [←ab.length_eq];exact aw);have e1:∀ k (al:k<(IY (S.length-1) 1 S).length),qZ (IY (S.length-1) 1 S) k=(IY (S.length-1) 1 S)[k]:=fun k al=>rJ al;rw [e1 i hi,e1 j aw] at this;exact this
theorem W_ {n:Int}:∀ {l:List qy} {m:Int},l.Pairwise (fun a b=>a.1<b.1)→(∀ c∈l,m≤c.1∧c.1<n∧qY c.2)→HC n l m
 | [],_,_,_=>trivial
 | c::r,m,aB,ak=>by
   obtain ⟨ab,ae⟩:=List.pairwise_cons.1 aB;have aF:=ak c (by simp)
   exact ⟨aF.1,aF.2.1,aF.2.2,W_ ae fun dU aX=>by
    have:=ab dU aX;have ba:=ak dU (by simp [aX])
    exact ⟨by omega,ba.2⟩⟩
theorem W9 {n:Int}:∀ {l:List qy} {m:Int},HC n l m→∀ c∈l,m≤c.1
 | [],_,_,c,ak=>absurd ak (by simp)
 | c::r,m,h,dU,ak=>by
   rcases sB.1 ak with rfl | aX
   ·exact h.1
   ·have:=W9 h.2.2.2 dU aX;have:=h.1;omega
theorem V' {α:Type} [Inhabited α] {S:List α} {j k:Int} {c:α} (aw:0≤j∧j<(S.length:Int)) (al:0≤k):ix (S.set j.toNat c) k=if k=j then c else ix S k:=by
 unfold ix;rw [sx,tC,sx];by_cases e:k=j
 ·subst e;rw [if_pos rfl,if_pos rfl,if_pos (by omega)];rfl
 ·rw [if_neg (by omega),if_neg e]
theorem Tl {n:Int}:∀ {l:List qy} {S:List qq} {m:Int},HC n l m→0≤m→(S.length:Int)=n→∀ {j:Int},0≤j→(∀ c∈l,c.1≠j)→ix (r7 l S) j=ix S j
 | [],_,_,_,_,_,_,_,_=>rfl
 | c::r,S,m,h,hm,cp,j,aw,ak=>by
   have ab:=h.1;have ae:=h.2.1;unfold r7;rw [Tl h.2.2.2 (by omega) (by simpa using cp) aw fun dU aX=>ak dU (by simp [aX]),V' (by omega) aw,if_neg fun e=>ak c (by simp) e.symm]
theorem Yu {n:Int}:∀ {l:List qy} {S:List qq} {m:Int},HC n l m→0≤m→(S.length:Int)=n→∀ {c:qy},c∈l→ix (r7 l S) c.1=c.2
 | [],_,_,_,_,_,_,ak=>absurd ak (by simp)
 | c::r,S,m,h,hm,cp,dU,ak=>by
   have ab:=h.1;have ae:=h.2.1;unfold r7;rcases sB.1 ak with rfl | aX
   ·rw [Tl h.2.2.2 (by omega) (by simpa using cp) (by omega) fun a9 ae=>by have:=W9 h.2.2.2 a9 ae;omega,V' (by omega) (by omega),if_pos rfl]
   ·exact Yu h.2.2.2 (by omega) (by simpa using cp) aX
section
variable {p:qf} {o:List Int}
def Jp (n a:Nat):Nat→List Int
 | 0=>[]
 | i+1=>if i % 2=a∧0<qG n i then Jp n a i++[(i:Int)] else Jp n a i
theorem Rx (h:rj p) (k:qu p.1.length o) {a:Nat}:∀ (m i:Nat),i≤o.length→o.length-i=m→(∀ j,j<i→j % 2=a→¬ KH p o a j) →
  (∃ (j:Nat) (s:qq),JN (p,()) o (a:Int) ((ql o.length).drop i) i (Jp o.length a i)=some (j+1,.inl [(ix o (j:Int),s)])∧j<o.length∧j % 2=a∧qY s∧JB p o a j s) ∨
  (JN (p,()) o (a:Int) ((ql o.length).drop i) i (Jp o.length a i)=some (o.length,.inr (Jp o.length a o.length))∧∀ j,j<o.length→j % 2=a→¬ KH p o a j)
 | 0,i,hi,hm,ft=>by
   (obtain rfl:i=o.length:=by omega);refine .inr ⟨?_,ft⟩;rw [vd (by rw [Ls];omega)];rfl
 | m+1,i,hi,hm,ft=>by
   (have aR:i<o.length:=by omega);have e1:(ql o.length).drop i=(i:Int)::(ql o.length).drop (i+1):=by
    rw [s0 (by rw [Ls];omega)];congr 1;rw [←rJ,Sl aR]
   rw [e1,JN,OY];by_cases a_:i % 2=a
   ·rw [if_neg (by omega)];rcases ZI h k (a:=a) aR with ⟨s,ab,ae,aF⟩ | ⟨ab,ae⟩
    ·refine .inl ⟨i,s,?_,aR,a_,ae,aF⟩;rw [ab,sb,if_pos rfl]
    ·rw [ab,sb,if_neg (by decide),QG (b:=(p,())) (qu.len h k) k.1.symm aR,sb];have b':(if 0<qG o.length i then Jp o.length a i++[(i:Int)] else Jp o.length a i)=Jp o.length a (i+1):=by
      rw [Jp];by_cases aB:0<qG o.length i
      ·rw [if_pos aB,if_pos ⟨a_,aB⟩]
      ·rw [if_neg aB,if_neg fun k=>aB k.2]
     rw [b'];refine Rx h k m (i+1) (by omega) (by omega) fun j aw PD=>?_;by_cases e:j=i
     ·subst e;exact ae
     ·exact ft j (by omega) PD
   ·rw [if_pos (by omega)];(have b':Jp o.length a (i+1)=Jp o.length a i:=by rw [Jp,if_neg fun k=>a_ k.1]);rw [←b'];refine Rx h k m (i+1) (by omega) (by omega) fun j aw PD=>?_;by_cases e:j=i
    ·subst e;exact absurd PD a_
    ·exact ft j (by omega) PD
structure aaI (p:qf) (o:List Int) (a:Nat) (l:List qy):Prop where
 len:l.length=JA p o a
 own:∀ c∈l,qY c.2∧∃ i:Nat,i<o.length∧i % 2=a∧c.1=ix o (i:Int)
 W4:(l.map (·.1)).Nodup
 flat:∀ S':List qq,(∀ i:Nat,i<o.length→i % 2=a→(∀ c∈l,c.1=ix o (i:Int)→qM S' o i=c.2)∧((∀ c∈l,c.1≠ix o (i:Int))→qM S' o i=qM p.1 o i))→∀ d,d=p.2.1∨d=p.2.2→rh S' o a (q7 d)=0
theorem Ms {o:List Int} (h:o.Nodup) {i j:Nat} (hi:i<o.length) (aw:j<o.length) (e:ix o (i:Int)=ix o (j:Int)):i=j:=by
 rw [rJ hi,rJ aw] at e;exact (List.getElem_inj h).1 e
theorem afA (S:List qq) (o:List Int) {a i:Nat} (f:qq→Int) (hi:i<o.length) (cu:i % 2=a):rh S o a f=qU S o a [(i:Int)] f+qG o.length i*f (qM S o i):=by
 unfold rh qU;have key:∀ m,qO m (fun j=>if j % 2=a then qG o.length j*f (qM S o j) else 0)=qO m (fun j=>if j % 2=a∧(j:Int) ∉ [(i:Int)] then qG o.length j*f (qM S o j) else 0)+if i<m then qG o.length i*f (qM S o i) else 0:=by
  intro m
  induction m with
  | zero=>simp [qO]
  | succ m a8 =>
    simp only [qO];rw [a8];by_cases e:m=i
    ·subst e;rw [if_neg (show ¬ m<m by omega),if_pos cu,if_neg (by simp),if_pos (show m<m+1 by omega)]
    ·have dA:(m % 2=a∧(m:Int) ∉ [(i:Int)])↔m % 2=a:=⟨fun h=>h.1,fun h=>⟨h,by simp;omega⟩⟩;(have l0:i<m+1↔i<m:=by omega);simp only [dA,l0];omega
 rw [key,if_pos hi]
theorem afv {S S':List qq} {o:List Int} {a i:Nat} {f:qq→Int} (h:∀ j,j<o.length→j % 2=a→j≠i→qM S' o j=qM S o j):qU S' o a [(i:Int)] f=qU S o a [(i:Int)] f:=by
 unfold qU;refine Kx fun j aw=>?_;by_cases a_:j % 2=a∧(j:Int) ∉ [(i:Int)]
 ·rw [if_pos a_,if_pos a_,h j aw a_.1 fun e=>a_.2 (by rw [e];simp)]
 ·rw [if_neg a_,if_neg a_]
theorem afy {S S':List qq} {o:List Int} {a:Nat} {f:qq→Int} (h:∀ j,j<o.length→j % 2=a→qM S' o j=qM S o j):rh S' o a f=rh S o a f:=by
 unfold rh;refine Kx fun j aw=>?_;by_cases a_:j % 2=a
 ·rw [if_pos a_,if_pos a_,h j aw a_]
 ·rw [if_neg a_,if_neg a_]
theorem afu {S:List qq} {o:List Int} {f:qq→Int} (aI:o.length=7):rh S o 0 f=-3*f (qM S o 0)-f (qM S o 2)+f (qM S o 4)+3*f (qM S o 6):=by
 unfold rh;rw [aI];simp [qO,qG];omega
theorem WZ {S:List qq} {o:List Int} {f:qq→Int} (aI:o.length=3):rh S o 1 f=0:=by
 unfold rh;rw [aI];simp [qO,qG]
theorem WX {S:List qq} {o:List Int} {a i:Nat} {f:qq→Int} (h:(o.length=3∧a=0∧i=2)∨(o.length=5∧a=0∧i=4)∨(o.length=5∧a=1∧i=3)∨(o.length=7∧a=1∧i=5)) :
  qU S o a [(i:Int)] f+qG o.length i*f (qM S o (o.length-1-i))=0:=by
 rcases h with ⟨aI,rfl,rfl⟩ | ⟨aI,rfl,rfl⟩ | ⟨aI,rfl,rfl⟩ | ⟨aI,rfl,rfl⟩
 ·unfold qU;rw [aI];simp [qO,qG];try omega
 ·unfold qU;rw [aI];simp [qO,qG];try omega
 ·unfold qU;rw [aI];simp [qO,qG];try omega
 ·unfold qU;rw [aI];simp [qO,qG];try omega
theorem afr (h:rj p) (k:qu p.1.length o) {a i:Nat} (hi:(o.length=3∧a=0∧i=2)∨(o.length=5∧a=0∧i=4)∨(o.length=5∧a=1∧i=3)∨(o.length=7∧a=1∧i=5)):i<o.length∧i % 2=a∧KH p o a i :=
 ⟨by omega,by omega,Pq.2 ⟨_,Jt h.s (Ho k) (i:=o.length-1-i) (by omega),WX hi,WX hi⟩⟩
theorem ZF (h:rj p) (k:qu p.1.length o) {a:Nat} (cu:a<2):∃ l,LG (p,()) o (a:Int)=some l∧aaI p o a l:=by
 have adz:=qu.Wy h k;have aI:=h.n;rw [←k.1] at aI;unfold LG;rw [qF (by omega),ZJ h k,sb];by_cases aP:ID p o a
 ·rw [if_pos (decide_eq_true aP)];refine ⟨[],rfl,⟨by unfold JA;rw [if_pos aP];rfl,fun c ak=>absurd ak (by simp),by simp,fun S' pk d a1=>?_⟩⟩;rw [afy fun j aw a_=>(pk j aw a_).2 (by simp)];rcases a1 with rfl | rfl
  ·exact aP.1
  ·exact aP.2
 ·rw [if_neg (by simpa using aP)];rcases Rx h k (a:=a) o.length 0 (by omega) rfl (fun j aw=>absurd aw (by omega)) with ⟨i,s,ab,ae,aF,ba,bP⟩ | ⟨ab,ae⟩
  ·have iR:JN (p,()) o (a:Int) (ql o.length) 0 []=_:=ab;rw [iR,sb];refine ⟨_,rfl,⟨?_,?_,by simp,?_⟩⟩
   ·unfold JA;rw [if_neg aP,if_pos ⟨i,ae,aF,Pq.2 ⟨s,ba,bP⟩⟩];rfl
   ·intro c ak;obtain rfl:=sT.1 ak;exact ⟨ba,i,ae,aF,rfl⟩
   ·intro S' pk d a1
    rw [afA S' o _ ae aF,(pk i ae aF).1 (ix o (i:Int),s) (by simp) rfl,afv fun j aw a_ bJ=>(pk j aw a_).2 fun c ak=>by
     obtain rfl:=sT.1 ak
     exact fun e=>bJ (Ms k.2.1 ae aw e).symm]
    rcases a1 with rfl | rfl
    ·exact bP.1
    ·exact bP.2
  ·have iR:JN (p,()) o (a:Int) (ql o.length) 0 []=_:=ab;rw [iR,sb];simp only;have cO:o.length=7∧a=0:=by
    by_cases e:o.length=7∧a=0
    ·exact e
    ·exfalso;have ft:∀ i,¬ ((o.length=3∧a=0∧i=2)∨(o.length=5∧a=0∧i=4)∨(o.length=5∧a=1∧i=3)∨(o.length=7∧a=1∧i=5)):=fun i hi=>by
      obtain ⟨aJ,aN,cb⟩:=afr h k hi;exact ae i aJ aN cb
     rcases (show a=0∨a=1 by omega) with rfl | rfl <;> rcases aI with aI | aI | aI
     ·exact ft 2 (.inl ⟨aI,rfl,rfl⟩)
     ·exact ft 4 (.inr (.inl ⟨aI,rfl,rfl⟩))
     ·exact e ⟨aI,rfl⟩
     ·exact aP ⟨WZ aI,WZ aI⟩
     ·exact ft 3 (.inr (.inr (.inl ⟨aI,rfl,rfl⟩)))
     ·exact ft 5 (.inr (.inr (.inr ⟨aI,rfl,rfl⟩)))
   obtain ⟨cO,rfl⟩:=cO;have jJ:=Ho k;(have ad:Jp o.length 0 o.length=[4,6]:=by rw [cO];decide);(have aj2:p.1.length=7:=by rw [←k.1];exact cO);have w5:JF (p,()) o [4,6] []=some [(ix o ((4:Nat):Int),qM p.1 o 2),(ix o ((6:Nat):Int),qM p.1 o 0)]:=by
    have hT:=jJ 0 (by omega);have bj:=jJ 2 (by omega);(have ah0:w (w (((7:Nat):Int)-1)-4)=((2:Nat):Int):=by rw [qC (n:=((7:Nat):Int)-1) (by omega),qC (by omega)];omega);(have w0:w (w (((7:Nat):Int)-1)-6)=((0:Nat):Int):=by rw [qC (n:=((7:Nat):Int)-1) (by omega),qC (by omega)];omega);have s1:∀ out,JF (p,()) o [4,6] out=JF (p,()) o [6] (out++[(ix o ((4:Nat):Int),qM p.1 o 2)]):=fun out=>by
     rw [JF,cO,qF (by omega),ah0,qF (by omega),qF bj];rfl
    have s2:∀ out,JF (p,()) o [6] out=some (out++[(ix o ((6:Nat):Int),qM p.1 o 0)]):=fun out=>by
     rw [JF.eq_2,cO,qF (by omega),w0,qF (by omega),qF hT];rfl
    rw [s1,s2];rfl
   rw [ad,w5];have adE:ix o ((4:Nat):Int)≠ix o ((6:Nat):Int):=fun e=>absurd (Ms k.2.1 (by omega) (by omega) e) (by decide);refine ⟨_,rfl,⟨?_,?_,?_,?_⟩⟩
   ·unfold JA;rw [if_neg aP,if_neg (by rintro ⟨i,aJ,aN,cb⟩;exact ae i aJ aN cb)];rfl
   ·intro c ak;rcases sB.1 ak with rfl | ak
    ·exact ⟨Jt h.s jJ (by omega),4,by omega,rfl,rfl⟩
    ·obtain rfl:=sT.1 ak;exact ⟨Jt h.s jJ (by omega),6,by omega,rfl,rfl⟩
   ·simp only [sG,uA,tU,sT,tQ,not_false_eq_true,List.nodup_nil,and_true];exact adE
   ·intro S' pk d _;rw [afu cO];rw [(pk 4 (by omega) rfl).1 (ix o ((4:Nat):Int),qM p.1 o 2) (by simp) rfl,(pk 6 (by omega) rfl).1 (ix o ((6:Nat):Int),qM p.1 o 0) (by simp) rfl];have ft:∀ j:Nat,j<7→j≠4→j≠6→∀ c∈[(ix o ((4:Nat):Int),qM p.1 o 2),(ix o ((6:Nat):Int),qM p.1 o 0)],c.1≠ix o (j:Int):=by
     intro j aw ba bQ c ak e;rcases sB.1 ak with rfl | ak
     ·exact ba (Ms k.2.1 (by omega) (by omega) e).symm
     ·obtain rfl:=sT.1 ak;exact bQ (Ms k.2.1 (by omega) (by omega) e).symm
    rw [(pk 0 (by omega) rfl).2 (ft 0 (by omega) (by omega) (by omega)),(pk 2 (by omega) rfl).2 (ft 2 (by omega) (by omega) (by omega))];simp only;omega
theorem acy {q:qf} {o:List Int}:qH q o=0↔ID q o 0∧ID q o 1:=by
 unfold qH Hz ID;generalize q6 q o 0 q.2.1=a;generalize q6 q o 0 q.2.2=b;generalize q6 q o 1 q.2.1=c;generalize q6 q o 1 q.2.2=d;omega
theorem Zl (aB:p.1.length≤1000) (ao:o.length≤12):∃ l,Ly p o=some (if r4 p o=0 then (l,0) else ([],r4 p o))∧(r4 p o=0→l.length=JA p o 0+JA p o 1∧HC p.1.length l 0∧qH (r7 l p.1,p.2) o=0):=by
 unfold Ly;rw [QB aB ao,sb];by_cases HM:r4 p o=0
 ·rw [if_pos HM];obtain ⟨h,k⟩:=Mt.1 HM;obtain ⟨cy,gb,g9⟩:=ZF h k (a:=0) (by omega);obtain ⟨l1,e1,a7⟩:=ZF h k (a:=1) (by omega);have acE:LG (p,()) o 0=some cy:=gb;have acF:LG (p,()) o 1=some l1:=e1;have de:=Vm p o 0;have bm:=Vm p o 1;have aj5:=g9.len;have b7:=a7.len;have KX:=h.len;simp only;rw [acE,sb,acF,sb,qF (by omega)];refine ⟨Hh (cy++l1),by rw [if_pos HM],fun _=>?_⟩;have nR:∀ c∈cy++l1,qY c.2∧0≤c.1∧c.1<(p.1.length:Int):=by
   intro c ak;rcases te.1 ak with ak | ak
   ·obtain ⟨aJ,i,aN,_,hq⟩:=g9.own c ak;rw [hq];exact ⟨aJ,Ho k i aN⟩
   ·obtain ⟨aJ,i,aN,_,hq⟩:=a7.own c ak;rw [hq];exact ⟨aJ,Ho k i aN⟩
  obtain ⟨s1,s2⟩:=ahB (S:=cy++l1) fun c ak=>by have:=nR c ak;omega
  have ado:∀ c∈cy,∀ dU∈l1,c.1≠dU.1:=by
   intro c ak dU KV e;obtain ⟨_,i,aN,cb,hq⟩:=g9.own c ak;obtain ⟨_,j,db,j4,k5⟩:=a7.own dU KV;have:=Ms k.2.1 aN db (by rw [←hq,←k5];exact e);omega
  have jV:((Hh (cy++l1)).map (·.1)).Nodup:=by
   refine ((s1.map (·.1)).nodup_iff).2 ?_;rw [sJ,uj];refine ⟨g9.W4,a7.W4,fun x aj y aY e=>?_⟩;obtain ⟨c,ak,rfl⟩:=sD.1 aj;obtain ⟨dU,KV,rfl⟩:=sD.1 aY;exact ado c ak dU KV e
  have Sh:HC p.1.length (Hh (cy++l1)) 0:=by
   (refine W_ ?_ fun c ak=>by have:=nR c (s1.mem_iff.1 ak);exact ⟨this.2.1,this.2.2,this.1⟩);have adD:=List.pairwise_map.1 jV;exact (s2.and adD).imp fun h=>by omega
  refine ⟨by rw [YD,sA];omega,Sh,?_⟩;rw [acy];have w5:∀ i:Nat,i<o.length→(∀ c∈Hh (cy++l1),c.1≠ix o (i:Int))→qM (r7 (Hh (cy++l1)) p.1) o i=qM p.1 o i:=fun i hi ak =>
   Tl Sh (sQ _) rfl (Ho k i hi).1 ak
  have hg:∀ i:Nat,∀ c∈Hh (cy++l1),c.1=ix o (i:Int)→qM (r7 (Hh (cy++l1)) p.1) o i=c.2:=fun i c ak e=>by
   have:=Yu Sh (sQ _) (S:=p.1) rfl ak;rw [e] at this;exact this
  have f0:=g9.flat (r7 (Hh (cy++l1)) p.1) fun i hi a_=>⟨fun c ak=>hg i c (s1.mem_iff.2 (te.2 (.inl ak))),fun ft=>w5 i hi fun c ak=>by
   rcases te.1 (s1.mem_iff.1 ak) with ak | ak
   ·exact ft c ak
   ·obtain ⟨_,j,db,j4,k5⟩:=a7.own c ak;intro e;have:=Ms k.2.1 db hi (by rw [←k5];exact e)
    omega⟩
  have f1:=a7.flat (r7 (Hh (cy++l1)) p.1) fun i hi a_=>⟨fun c ak=>hg i c (s1.mem_iff.2 (te.2 (.inr ak))),fun ft=>w5 i hi fun c ak=>by
   rcases te.1 (s1.mem_iff.1 ak) with ak | ak
   ·obtain ⟨_,j,db,j4,k5⟩:=g9.own c ak;intro e;have:=Ms k.2.1 db hi (by rw [←k5];exact e);omega
   ·exact ft c ak⟩
  exact ⟨⟨f0 _ (.inl rfl),f0 _ (.inr rfl)⟩,f1 _ (.inl rfl),f1 _ (.inr rfl)⟩
 ·rw [if_neg HM];simp only;rw [if_pos (by simpa using HM)];exact ⟨[],by rw [if_neg HM],fun h=>absurd h HM⟩
end
end Go.Proofs.YtkoioidpbbbaiaaGreat.Ab


namespace Go.Proofs.YtkoioidpbbbaiaaGreat.Ab
open Go
set_option maxRecDepth 20000
set_option maxHeartbeats 4000000
def Zr (rK:Int) (p':p_→Option p_):Nat→p_→Int→Option p_
 | 0,_,_=>none
 | m+1,s1,s2 =>
   if (decide (s2<rK))=true then
    qk ((s1.length+1)*8≤140737488355328) <|
    Zr rK p' m (s1++[s2]) (w (s2+(1:Int)))
   else
    p' s1
def Zq (rK:Int):Option p_ :=
 Zr rK (fun yn =>
   some yn) qj ([]:List Int) (0:Int)

def O9 (order:p_) (s1:Int) (rm:Int→Option p_):Nat→Int→Int→Option p_
 | 0,_,_=>none
 | m+1,s2,dk =>
   if (decide (dk<(order.length:Int)))=true then
    qk (0≤dk∧dk<(order.length:Int)) <|
    qk (0≤s1∧s1<(order.length:Int)) <|
    if (decide ((ix order s1)<(ix order dk)))=true then
     if (decide (s2<(0:Int)))=true then
      qk (0≤dk∧dk<(order.length:Int)) <|
      O9 order s1 rm m (ix order dk) (w (dk+(1:Int)))
     else
      qk (0≤dk∧dk<(order.length:Int)) <|
      if (decide ((ix order dk)<s2))=true then
       qk (0≤dk∧dk<(order.length:Int)) <|
       O9 order s1 rm m (ix order dk) (w (dk+(1:Int)))
      else
       O9 order s1 rm m s2 (w (dk+(1:Int)))
    else
     O9 order s1 rm m s2 (w (dk+(1:Int)))
   else
    rm s2
def TL (order:p_) (Lm:p_→Option p_):Nat→p_→Int→Option p_
 | 0,_,_=>none
 | m+1,G',Hg =>
   if (decide (Hg<(order.length:Int)))=true then
    (MU G' Hg).bind fun aS =>
    if aS=true then
     TL order Lm m G' (w (Hg+(1:Int)))
    else
     qk ((G'.length+1)*8≤140737488355328) <|
     TL order Lm m (G'++[Hg]) (w (Hg+(1:Int)))
   else
    Lm G'
def ZA (order:p_) (p':Unit→Option p_):Nat→Int→Option p_
 | 0,_=>none
 | m+1,s1 =>
   if (decide ((0:Int)≤s1))=true then
    qk (0≤s1∧s1<(order.length:Int)) <|
    qk (0≤(w (s1+(1:Int)))∧(w (s1+(1:Int)))<(order.length:Int)) <|
    if (decide ((ix order (w (s1+(1:Int))))<(ix order s1)))=true then
     ZA order p' m (w (s1-(1:Int)))
    else
     O9 order s1 (fun yn =>
       qk (0≤s1∧s1≤(order.length:Int)) <|
       qk ((([]:List Int).length+(order.take s1.toNat).length)*8≤140737488355328) <|
       qk (((([]:List Int)++(order.take s1.toNat)).length+1)*8≤140737488355328) <|
       TL order (fun oT =>
         some oT) qj ((([]:List Int)++(order.take s1.toNat))++[yn]) (0:Int)) qj (-1:Int) (w (s1+(1:Int)))
   else
    p' ()
def O8 (order:p_):Option p_ :=
 ZA order (fun _ =>
   some []) qj (w ((order.length:Int)-(2:Int)))
end Go.Proofs.YtkoioidpbbbaiaaGreat.Ab


namespace Go.Proofs.YtkoioidpbbbaiaaGreat.Ab
open Go
set_option maxRecDepth 20000
set_option maxHeartbeats 1000000
theorem ahS (n:Nat):(ql n).length=n:=by simp [ql]
section
variable {o:List Int}
end
end Go.Proofs.YtkoioidpbbbaiaaGreat.Ab


namespace Go.Proofs.YtkoioidpbbbaiaaGreat.Ab
open Go
set_option maxRecDepth 20000
set_option maxHeartbeats 4000000
noncomputable def Yd:gE :=
 .ov false [p0 7 [.jq 18] .mU]
theorem aex:ey Tryz.prog Kp (rB Tryz.prog 16 0) 0=some Yd:=by kernel_rfl
noncomputable def Yh:gE :=
 .block 1 (.seq (.ov false [p0 19 [.Bs 4] (.zE .one),p0 20 [.jq 7] .mU,p0 21 [.cv (.func 41 [] []),.nc 19,.nc 20] (.call 3),p0 22 [.Bs 21,.cv (.int .i64 0)] (.bin .eql)]) (.cond (.nc 22) (.ov false [p0 23 [.nc 6] (.zE .one),p0 24 [.Bs 23,.cv (.int .i64 1)] (.bin .add),⟨none,[.jq 6,.jq 24],none,none,.st 1⟩]) .skip))
theorem aeB:ey Tryz.prog Kp (rC Tryz.prog 16 0) 0=some Yh:=by kernel_rfl
def KI (b:qf×Unit) (s:Int) (o:List Int):Option Int:=(K9 b o).bind fun c=>some (if decide (c=0)=true then w (s+1) else s)
def MI (p:qf):Option (Int×Int) :=
 (rV p []).bind fun r=>match r with
 | (none,q)=>if decide (q≠0)=true then some (0,q) else none
 | (some b,q)=>if decide (q≠0)=true then some (0,q) else
   qk (0<b.1.1.length∧b.1.1.length≤7) <|
   (IE (KI b) (ri b.1.1.length (ql b.1.1.length)) 0).bind fun n=>some (n,0)
theorem ahg {b:qf×Unit} {o:List Int} {g9:ar} {s t:Int} (ah:KI b s o=some t) {yh fA gv Gi r2 HS u8 HT HP HQ HR ND NF NG u16 NH NI NJ NK NL NM Jv NN NP:I} (he:o≠[]) (Y:List ar) :
  ∃ Z,Sem Tryz.prog (.yield [g9,ar.cells [lp b],ar.cells [h0 s]].length) [Hk o] (([g9,ar.cells [lp b],ar.cells [h0 s]]++[ar.loop .ready none 16 [yh,fA,gv,Gi,.ptr 1 0,r2,.ptr 2 0,HS,u8,HT,HP,HQ,HR,ND,NF,NG,u16,NH,NI,NJ,NK,NL,NM,Jv,NN,NP] [18] (rB Tryz.prog 16 0) (rC Tryz.prog 16 0) Kp])++Y) 0 (.bool true) (([g9,ar.cells [lp b],ar.cells [h0 t]]++[ar.loop .ready none 16 [yh,fA,gv,Gi,.ptr 1 0,r2,.ptr 2 0,HS,u8,HT,HP,HQ,HR,ND,NF,NG,u16,NH,NI,NJ,NK,NL,NM,Jv,NN,NP] [18] (rB Tryz.prog 16 0) (rC Tryz.prog 16 0) Kp])++(Y++Z)):=by
 refine ⟨[],?_⟩;rw [List.append_nil];obtain ⟨gb,e,rfl⟩:=List.exists_cons_of_ne_nil he;unfold KI at ah;obtain ⟨c,ak,ah⟩:=p9 ah;obtain rfl:=Option.some.inj ah;refine Qi eG aex aeB (IW _ _ _) rfl (I0 (by simp)) ?_;unfold Yd;conv=>whnf
 refine ⟨rfl,IW _ _ _,?_⟩;rw [Kd];unfold Yh;conv=>whnf
 refine ⟨p5 (Ii b) (p5 (rU (fun _=>rfl) _ _ _) rfl),_,af1 (O6 ak),?_⟩;conv=>whnf
 cases a1:decide (c=0)
 ·conv=>whnf
  show _∧(([g9,ar.cells [lp b],ar.cells [h0 s]]++[ar.loop .busy none 16 [yh,fA,gv,Gi,.ptr 1 0,r2,.ptr 2 0,HS,u8,HT,HP,HQ,HR,ND,NF,NG,u16,NH,NI,NJ,NK,NL,NM,Jv,NN,NP] [18] (rB Tryz.prog 16 0) (rC Tryz.prog 16 0) Kp])++Y)[[g9,ar.cells [lp b],ar.cells [h0 s]].length]?=_∧lI ((([g9,ar.cells [lp b],ar.cells [h0 s]]++[ar.loop .busy none 16 [yh,fA,gv,Gi,.ptr 1 0,r2,.ptr 2 0,HS,u8,HT,HP,HQ,HR,ND,NF,NG,u16,NH,NI,NJ,NK,NL,NM,Jv,NN,NP] [18] (rB Tryz.prog 16 0) (rC Tryz.prog 16 0) Kp])++Y).set [g9,ar.cells [lp b],ar.cells [h0 s]].length _) _;exact ⟨rfl,IW _ _ _,by rw [Kd];exact lI.refl _⟩
 ·conv=>whnf
  show _∧(([g9,ar.cells [lp b],ar.cells [h0 (w (s+1))]]++[ar.loop .busy none 16 [yh,fA,gv,Gi,.ptr 1 0,r2,.ptr 2 0,HS,u8,HT,HP,HQ,HR,ND,NF,NG,u16,NH,NI,NJ,NK,NL,NM,Jv,NN,NP] [18] (rB Tryz.prog 16 0) (rC Tryz.prog 16 0) Kp])++Y)[[g9,ar.cells [lp b],ar.cells [h0 (w (s+1))]].length]?=_∧lI ((([g9,ar.cells [lp b],ar.cells [h0 (w (s+1))]]++[ar.loop .busy none 16 [yh,fA,gv,Gi,.ptr 1 0,r2,.ptr 2 0,HS,u8,HT,HP,HQ,HR,ND,NF,NG,u16,NH,NI,NJ,NK,NL,NM,Jv,NN,NP] [18] (rB Tryz.prog 16 0) (rC Tryz.prog 16 0) Kp])++Y).set [g9,ar.cells [lp b],ar.cells [h0 (w (s+1))]].length _) _;exact ⟨rfl,IW _ _ _,by rw [Kd];exact lI.refl _⟩
theorem ais {p:qf} {v:Int×Int} (h:MI p=some v):qB 16 [.agg [.av (p.1.flatMap p7) p.1.length .shared,h0 p.2.1,h0 p.2.2]] (.tuple [h0 v.1,h0 v.2]):=by
 unfold MI at h;obtain ⟨⟨aS,bj⟩,ai,h⟩:=p9 h;refine qR eG aeh rfl (JG (p5 rfl (p5 rfl rfl))) fun Q bp=>?_;have jJ:∀ T H,H4 [.tmp 2,.tmp 3] (.tuple [h0 v.1,h0 v.2]) .ret T H→Q .ret T H:=fun T H bE=>bp _ T H bE;unfold XA XC XB;obtain ⟨a7,cf⟩:∃ c,SF=c:=⟨_,rfl⟩;rw [cf];conv=>whnf
 refine ⟨qa.pl,_,N0 ai,?_⟩;rcases aS with _ | b
 ·conv=>whnf
  refine bs h (fun af h=>?_) fun af h=>?_
  ·rw [af];(conv=>whnf);obtain rfl:=Option.some.inj h;exact jJ _ _ (Ix rfl rfl)
  ·cases h
 ·conv=>whnf
  refine bs h (fun af h=>?_) fun af h=>?_
  ·rw [af];(conv=>whnf);obtain rfl:=Option.some.inj h;exact jJ _ _ (Ix rfl rfl)
  ·rw [af];(conv=>whnf);subst cf;unfold SF;obtain ⟨⟨Di,Ng⟩,h⟩:=q_ h;obtain ⟨n,ao,h⟩:=p9 h;obtain rfl:=Option.some.inj h;obtain ⟨F,Oj,LU,bG⟩:=Pz ao;obtain ⟨a9,ca⟩:∃ c,gE.AM (.nc 17) [18] (rB Tryz.prog 16 0) (rC Tryz.prog 16 0)=c:=⟨_,rfl⟩;rw [ca];(conv=>whnf);refine ⟨p5 (Ii b) rfl,_,TH (b:=b) (v:=()) rfl,?_⟩;(conv=>whnf);subst ca;have pw:[I.bS [lp b]].all (cr 7)=true:=p5 (Iv (p5 (Ii b) rfl)) rfl;refine Yl (f:=Hk) (Yq (b:=b) Ng Di) (fun i=>[ar.cells [.av (p.1.flatMap p7) p.1.length .shared,h0 p.2.1,h0 p.2.2],ar.cells [lp b],ar.cells [h0 (F i)]]) (by exact rfl) (by rw [Oj];exact rfl) (fun _=>rfl) ?_ (rl:=none) (by exact rfl) (Hn:=[ar.cells [.av (p.1.flatMap p7) p.1.length .shared,h0 p.2.1,h0 p.2.2],ar.cells [lp b],ar.cells [h0 n]]) (by rw [LU]) ?_
   ·intro i hi Y;exact ahg (bG i hi) (So Di _ (List.getElem_mem hi)) Y
   ·intro qL;(conv=>whnf);exact jJ _ _ (Ix rfl rfl)
end Go.Proofs.YtkoioidpbbbaiaaGreat.Ab
