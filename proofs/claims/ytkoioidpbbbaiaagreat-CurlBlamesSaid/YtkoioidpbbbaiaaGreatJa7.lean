
import Derived.Test.YtkoioidpbbbaiaaGreatJa5
import Derived.Test.YtkoioidpbbbaiaaGreatJa6
import Derived.KernelRfl
import Derived.Test.YtkoioidpbbbaiaaGreatProg
set_option linter.unusedSimpArgs false
set_option linter.unusedVariables false
set_option linter.unusedSectionVars false

open Bool renaming and_eq_true→su,and_self→uh,and_true→tx,eq_iff_iff→tA,or_eq_true→tC
open Int renaming add_zero→tJ,le_refl→sY,max_assoc→vO,mul_comm→uE,mul_le_mul_of_nonneg_right→vH,toNat_natCast→tD
open List renaming all_cons→tH,all_nil→uj,append_assoc→sC,drop_eq_getElem_cons→sV,drop_of_length_le→uR,flatMap_append→uB,getElem?_append→sr,getElem?_append_left→sk,getElem?_eq_some_iff→sd,getElem?_set_ne→sf,getElem?_set_self→sn,getElem_of_mem→vl,length_append→sD,length_eq_zero_iff→sT,length_set→ta,map_append→sR,map_cons→sI,mem_append→sU,mem_filter→tc,mem_map→sH,mem_map_of_mem→tn,mem_of_getElem?→sA,mem_range→sJ,mem_singleton→sK,nodup_append→tZ,take_length→uM,take_succ_eq_append_getElem→uP
open Nat renaming ble_eq_true_of_le→tw,le_refl→se,log2_two_pow→vQ,lt_succ_self→sg,pow_lt_pow_iff_right→uQ,testBit_two_pow→uA,zero_add→sG,zero_le→sE
open Option renaming bind_some→sc
namespace Go.Proofs.YtkoioidpbbbaiaaGreat.Ab
open Go
set_option maxRecDepth 20000
set_option maxHeartbeats 1000000
def qX (p:qm):Int:=if p.1.length=3∨p.1.length=5∨p.1.length=7 then (if (∀ s∈p.1,q2 s)∧0≤p.2.1∧p.2.1≤p.2.2∧p.2.2≤50 then 0 else 3) else 6
theorem ZP (s:qM):LR s=some (decide (q2 s)):=by
 unfold LR q2;by_cases ab:0≤s.1
 ·rw [if_pos (decide_eq_true ab)];by_cases ae:s.1≤100
  ·rw [if_pos (decide_eq_true ae)];by_cases aF:-10≤s.2
   ·rw [if_pos (decide_eq_true aF)];simp [ab,ae,aF]
   ·rw [if_neg (by simpa using aF)];simp [aF]
  ·rw [if_neg (by simpa using ae)];simp [ae]
 ·rw [if_neg (by simpa using ab)];simp [ab]
theorem Wq {p:qm} (aB:p.1.length≤1000) {K:Option Int}:∀ (m i:Nat),i≤p.1.length→p.1.length-i<m→(∀ j,j<i→q2 (ix p.1 (j:Int))) →
  LO p (fun _=>K) m (i:Int)=if ∀ s∈p.1,q2 s then K else some 3
 | 0,_,_,h,_=>absurd h (by omega)
 | m+1,i,hi,hm,aw=>by
   rw [LO];by_cases aR:i<p.1.length
   ·rw [if_pos (decide_eq_true (by omega)),qw (by omega),ZP,sc,Hq i (by omega)];by_cases al:q2 (ix p.1 (i:Int))
    ·rw [if_pos (decide_eq_true al)];refine Wq aB m (i+1) (by omega) (by omega) fun j gf=>?_;by_cases e:j=i
     ·rw [e];exact al
     ·exact aw j (by omega)
    ·rw [if_neg (by simpa using al),if_neg];exact fun cY=>al (cY _ (J8 (by omega)))
   ·rw [if_neg (by simpa using by omega),if_pos];intro s ah;obtain ⟨j,ec,rfl⟩:=vl ah;have:=aw j (by omega)
    rwa [rH ec] at this
theorem PY {p:qm} (aB:p.1.length≤1000):Jo p=some (qX p):=by
 have aw:LN p=some (if (∀ s∈p.1,q2 s)∧0≤p.2.1∧p.2.1≤p.2.2∧p.2.2≤50 then 0 else 3):=by
  unfold LN;rw [show (0:Int)=((0:Nat):Int) from rfl,Wq aB qh 0 (by omega) (r5 (by omega)) (fun j h=>absurd h (by omega))];by_cases h:∀ s∈p.1,q2 s
  ·rw [if_pos h];by_cases ab:p.2.1<0
   ·rw [if_pos (decide_eq_true (by exact ab)),if_neg (by omega)]
   ·rw [if_neg (by simpa using by omega)];by_cases ae:p.2.2<p.2.1
    ·rw [if_pos (decide_eq_true ae),if_neg (by omega)]
    ·rw [if_neg (by simpa using by omega)];by_cases aF:50<p.2.2
     ·rw [if_pos (decide_eq_true aF),if_neg (by omega)]
     ·rw [if_neg (by simpa using by omega),if_pos ⟨h,by omega,by omega,by omega⟩]
  ·rw [if_neg h,if_neg (fun k=>h k.1)]
 unfold Jo qX;by_cases aF:p.1.length=3
 ·rw [if_neg (by simp [aF]),if_pos (.inl aF),aw]
 ·rw [if_pos (decide_eq_true (by omega))];by_cases bO:p.1.length=5
  ·rw [if_neg (by simp [bO]),if_pos (.inr (.inl bO)),aw]
  ·rw [if_pos (decide_eq_true (by omega))];by_cases cL:p.1.length=7
   ·rw [if_neg (by simp [cL]),if_pos (.inr (.inr cL)),aw]
   ·rw [if_pos (decide_eq_true (by omega)),if_neg (by omega)]
theorem ZM (s:qM):KW s=some (!decide (q2 s)):=by
 unfold KW;rw [MY,sc];unfold q2;by_cases h:0≤s.1∧s.1≤100
 ·rw [if_pos (by simp [h.1,h.2]),MY,sc];by_cases ae:-10≤s.2 <;> by_cases aF:s.2≤10 <;> simp [h.1,h.2,ae,aF]
 ·rw [if_neg (by simpa using h)];rw [decide_eq_false (show ¬ (0≤s.1∧s.1≤100∧-10≤s.2∧s.2≤10) from fun k=>h ⟨k.1,k.2.1⟩)];rfl
theorem Wc {S:List qM} (aB:S.length≤1000):∀ (m i:Nat),i≤S.length→S.length-i<m→(∀ j,j<i→q2 (ix S (j:Int))) →
  ∃ r,LD S (fun rf=>KW rf) (fun _=>some (-1:Int)) m (i:Int)=some r∧decide (0≤r)=!decide (∀ s∈S,q2 s)
 | 0,_,_,h,_=>absurd h (by omega)
 | m+1,i,hi,hm,aw=>by
   rw [LD];by_cases aR:i<S.length
   ·rw [if_pos (decide_eq_true (by omega)),qw (by omega),ZM,sc,Hq i (by omega)];by_cases al:q2 (ix S (i:Int))
    ·rw [if_neg (by simpa using al)];refine Wc aB m (i+1) (by omega) (by omega) fun j gf=>?_;by_cases e:j=i
     ·rw [e];exact al
     ·exact aw j (by omega)
    ·rw [if_pos (by simpa using al)];refine ⟨_,rfl,?_⟩;rw [decide_eq_true (by omega),decide_eq_false fun cY=>al (cY _ (J8 (by omega)))];rfl
   ·rw [if_neg (by simpa using by omega)];refine ⟨-1,rfl,?_⟩;rw [decide_eq_false (by omega),decide_eq_true];rfl;intro s ah;obtain ⟨j,ec,rfl⟩:=vl ah;have:=aw j (by omega)
    rwa [rH ec] at this
theorem ajq {S:List qM} (aB:S.length≤1000):Ov S (fun rf=>KW rf)=some (!decide (∀ s∈S,q2 s)):=by
 unfold Ov PM;obtain ⟨r,ab,ae⟩:=Wc aB qh 0 (by omega) (r5 (by omega)) (fun j h=>absurd h (by omega));rw [show (0:Int)=((0:Nat):Int) from rfl,ab,sc];exact congrArg some ae
theorem Z2 (n lo hi:Int):LW n lo hi=some (!(decide (lo≤n) && decide (n≤hi))):=by
 unfold LW;by_cases ab:n<lo
 ·rw [if_pos (decide_eq_true ab),decide_eq_false (show ¬ lo≤n by omega)];rfl
 ·rw [if_neg (by simpa using ab),decide_eq_true (show lo≤n by omega)];by_cases ae:hi<n
  ·rw [decide_eq_true ae,decide_eq_false (show ¬ n≤hi by omega)];rfl
  ·rw [decide_eq_false ae,decide_eq_true (show n≤hi by omega)];rfl
theorem ai3 (lo hi n k:Int):IQ lo hi [n,k]=some ((decide (lo≤n) && decide (n≤hi)) && (decide (lo≤k) && decide (k≤hi))):=by
 obtain ⟨m,hm⟩:∃ m,qh=m+3:=⟨qh-3,rfl⟩;unfold IQ Ot Ow;rw [hm,JX.eq_2,if_pos (show decide ((0:Int)<(([n,k]:List Int).length:Int))=true from rfl),qw ⟨sY _,show (0:Int)<(2:Int) by decide⟩,show ix [n,k] (0:Int)=n from rfl,Z2,sc];cases ak:(decide (lo≤n) && decide (n≤hi))
 ·rfl
 ·rw [show w (0+1:Int)=1 from rfl,if_neg (by decide),JX.eq_2,if_pos (show decide ((1:Int)<(([n,k]:List Int).length:Int))=true from rfl),qw ⟨by decide,show (1:Int)<(2:Int) by decide⟩,show ix [n,k] (1:Int)=k from rfl,Z2,sc];cases ak:(decide (lo≤k) && decide (k≤hi))
  ·rfl
  ·rw [show w (1+1:Int)=2 from rfl,JX.eq_2];rfl
theorem ZZ {p:qm} (aB:p.1.length≤1000):Oo p=some (qX p):=by
 have aw:M1 p (fun _=>some (0:Int)) false=some (if (∀ s∈p.1,q2 s)∧0≤p.2.1∧p.2.1≤p.2.2∧p.2.2≤50 then 0 else 3):=by
  unfold M1;rw [if_neg (by decide),ajq aB,sc];by_cases h:∀ s∈p.1,q2 s
  ·rw [if_neg (by simpa using h),ai3,sc];by_cases ab:(0≤p.2.1∧p.2.1≤50)∧(0≤p.2.2∧p.2.2≤50)
   ·rw [if_pos (by simp [ab])];by_cases ae:p.2.2<p.2.1
    ·rw [if_pos (decide_eq_true ae),if_neg (by omega)]
    ·rw [if_neg (by simpa using by omega),if_pos ⟨h,by omega,by omega,by omega⟩]
   ·rw [if_neg (by simpa [and_assoc] using fun a b c=>by omega),if_neg (by omega)]
  ·rw [if_pos (by simpa using h),if_neg (fun k=>h k.1)]
 unfold Oo qX;rw [MY,sc];have iK:(p.1.length:Int).tmod 2=((p.1.length % 2:Nat):Int):=Lw _;by_cases ai:3≤p.1.length∧p.1.length≤7
 ·rw [if_pos (by simp;omega),qw (by decide),iK];by_cases h:p.1.length=3∨p.1.length=5∨p.1.length=7
  ·rw [if_pos h,decide_eq_false (by omega),aw]
  ·rw [if_neg h,decide_eq_true (by omega)];rfl
 ·rw [if_neg (by simp;omega),if_neg (by omega)];rfl
def qA (n:Nat) (o:List Int):Prop:=o.length=n∧o.Nodup∧∀ x∈o,0≤x∧x<(n:Int)
instance (n:Nat) (o:List Int):Decidable (qA n o):=by unfold qA;exact inferInstance
def rU (p:qm) (o:List Int):Int:=if qX p≠0 then qX p else if qA p.1.length o then 0 else 16
theorem Ww {l:List Int} (ao:l.length≤1000) {v:Int}:∀ (m i:Nat),i≤l.length→l.length-i<m→(∀ j,j<i→ix l (j:Int)≠v)→LV l v (fun _=>some false) m (i:Int)=some (decide (v∈l))
 | 0,_,_,h,_=>absurd h (by omega)
 | m+1,i,hi,hm,aw=>by
   rw [LV];by_cases aR:i<l.length
   ·rw [if_pos (decide_eq_true (by omega)),qw (by omega),Hq i (by omega)];by_cases al:ix l (i:Int)=v
    ·rw [if_pos (decide_eq_true al),decide_eq_true (by rw [←al];exact J8 (by omega))]
    ·rw [if_neg (by simpa using al)];refine Ww ao m (i+1) (by omega) (by omega) fun j gf=>?_;by_cases e:j=i
     ·rw [e];exact al
     ·exact aw j (by omega)
   ·rw [if_neg (by simpa using by omega),decide_eq_false];intro ah;obtain ⟨j,ec,e⟩:=vl ah;exact aw j (by omega) (by rw [rH ec];exact e)
theorem Z1 {l:List Int} (ao:l.length≤1000) (v:Int):M3 l v=some (decide (v∈l)):=by
 unfold M3;exact Ww ao qh 0 (by omega) (r5 (by omega)) (fun j h=>absurd h (by omega))
def NP (n:Nat) (o:List Int) (i:Nat):Prop:=(o.take i).Nodup∧∀ x∈o.take i,0≤x∧x<(n:Int)
theorem af1 {n:Nat} {o:List Int} {i:Nat} (hi:i<o.length):NP n o (i+1)↔NP n o i∧(0≤ix o (i:Int)∧ix o (i:Int)<(n:Int))∧ix o (i:Int) ∉ o.take i:=by
 unfold NP;rw [uP hi,rH hi,tZ];constructor
 ·rintro ⟨⟨ab,_,aF⟩,ba⟩;exact ⟨⟨ab,fun x aj=>ba x (List.mem_append_left _ aj)⟩,ba _ (List.mem_append_right _ (sK.2 rfl)),fun hm=>aF _ hm _ (sK.2 rfl) rfl⟩
 ·rintro ⟨⟨ab,ae⟩,aF,ba⟩;refine ⟨⟨ab,by simp,?_⟩,?_⟩
  ·intro a cq b af e;rw [sK] at af;subst af;subst e;exact ba cq
  ·intro x aj;rcases sU.1 aj with aj | aj
   ·exact ae x aj
   ·rw [sK] at aj;subst aj;exact aF
theorem Wu {p:qm} {o:List Int} (ao:o.length≤1000) (aI:o.length=p.1.length):∀ (m i:Nat),i≤o.length→o.length-i<m→NP p.1.length o i→LQ p o (fun _=>some 0) m (i:Int)=some (if qA p.1.length o then 0 else 16)
 | 0,_,_,h,_=>absurd h (by omega)
 | m+1,i,hi,hm,aw=>by
   rw [LQ];by_cases aR:i<o.length
   ·rw [if_pos (decide_eq_true (by omega)),qw (by omega),Hq i (by omega)];have fp:(¬ (0≤ix o (i:Int)∧ix o (i:Int)<(p.1.length:Int))∨ix o (i:Int)∈o.take i)→¬ qA p.1.length o:=fun af al=>by
     rcases af with af | af
     ·exact af (al.2.2 _ (J8 (by omega)))
     ·have:(o.take (i+1)).Nodup:=al.2.1.sublist (List.take_sublist _ _)
      rw [uP aR,tZ] at this;exact this.2.2 _ af _ (by rw [rH aR];simp) rfl
    by_cases ab:ix o (i:Int)<0
    ·rw [if_pos (decide_eq_true ab),if_neg (fp (.inl (by omega)))]
    ·rw [if_neg (by simpa using by omega),qw (by omega)];by_cases ae:(p.1.length:Int)≤ix o (i:Int)
     ·rw [if_pos (decide_eq_true ae),if_neg (fp (.inl (by omega)))]
     ·rw [if_neg (by simpa using by omega),qw (by omega),qw (by omega),tD,Z1 (by rw [List.length_take];omega),sc];by_cases aF:ix o (i:Int)∈o.take i
      ·rw [if_pos (decide_eq_true aF),if_neg (fp (.inr aF))]
      ·rw [if_neg (by simpa using aF)];exact Wu ao aI m (i+1) (by omega) (by omega) ((af1 aR).2 ⟨aw,by omega,aF⟩)
   ·(obtain rfl:i=o.length:=by omega);rw [if_neg (by simp),if_pos];unfold NP at aw;rw [uM] at aw;exact ⟨aI,aw.1,aw.2⟩
theorem ZO {p:qm} (aB:p.1.length≤1000) {o:List Int} (ao:o.length≤1000):KX p o=some (rU p o):=by
 unfold KX rU;rw [PY aB,sc,sc];by_cases h:qX p=0
 ·rw [if_neg (show ¬ decide (qX p≠0)=true by simpa using h),if_neg (show ¬ qX p≠0 by simpa using h)];by_cases aI:o.length=p.1.length
  ·rw [if_neg (show ¬ decide ((o.length:Int)≠(p.1.length:Int))=true by simp [aI])];exact Wu ao aI qh 0 (by omega) (r5 (by omega)) ⟨by simp,by simp⟩
  ·rw [if_pos (show decide ((o.length:Int)≠(p.1.length:Int))=true from decide_eq_true (by omega)),if_neg (fun k=>aI k.1)]
 ·rw [if_pos (decide_eq_true h),if_pos h]
theorem ahN:Sort.SWO Sort.ltInt:=by
 constructor <;> intros <;> simp_all [Sort.ltInt] <;> omega
theorem YW (l:List Int):(I8 l).Perm l∧(I8 l).Pairwise (·≤·):=by
 obtain ⟨⟨ab,_,aF⟩,ba⟩:=Sort.insertionSort_holds (lt:=Sort.ltInt) ahN l.toArray 0 l.length (sE _) (by simp);unfold I8;generalize Sort.insertionSort Sort.ltInt l.toArray 0 l.length=d at ab aF ba;have ab:d.size=l.length:=by simpa using ab
 have e1:(d.extract 0 l.length).toList=d.toList:=by rw [←ab];simp
 have b9:(l.toArray.extract 0 l.length).toList=l:=by simp
 rw [e1,b9] at aF;refine ⟨aF,List.pairwise_iff_getElem.2 fun i j hi aw h7=>?_⟩;have hi':i<d.size:=by simpa using hi
 have ec:j<d.size:=by simpa using aw
 have:=ba i j (sE _) h7 (by omega);rw [getElem!_pos d i hi',getElem!_pos d j ec] at this;simp only [Sort.ltInt,decide_eq_false_iff_not] at this;simp only [Array.getElem_toList];omega
theorem NI {n:Nat} {x:Int}:x∈qo n↔0≤x∧x<(n:Int):=by
 simp only [qo,sH,sJ];exact ⟨by rintro ⟨i,hi,rfl⟩;omega,fun h=>⟨x.toNat,by omega,by omega⟩⟩
theorem PH (n:Nat):(qo n).Pairwise (·<·):=by
 unfold qo;rw [List.pairwise_map];exact List.pairwise_lt_range.imp fun h=>by omega
theorem ahS (n:Nat):(qo n).Nodup:=S1 (PH n)
theorem R7:∀ {a b:List Int},a.Nodup→(∀ x∈a,x∈b)→b.length≤a.length→a.Perm b
 | [],b,_,_,h=>by
   rw [sT.1 (show b.length=0 by simpa using h)]
 | x::a,b,aI,ah,h=>by
   have aj:x∈b:=ah x (by simp);obtain ⟨ab,ae⟩:=List.nodup_cons.1 aI;refine (List.Perm.cons x (R7 (b:=b.erase x) ae (fun y aY=>?_) ?_)).trans (List.perm_cons_erase aj).symm
   ·exact (List.mem_erase_of_ne (fun e=>ab (by rw [←e];exact aY))).2 (ah y (by simp [aY]))
   ·rw [List.length_erase_of_mem aj];simp at h;omega
theorem Lm {n:Nat} {o:List Int}:qA n o↔o.Perm (qo n):=by
 constructor
 ·rintro ⟨ab,ae,aF⟩;exact R7 ae (fun x aj=>NI.2 (aF x aj)) (by simp [qo,ab])
 ·intro h;exact ⟨by rw [h.length_eq];simp [qo],h.nodup_iff.2 (ahS n),fun x aj=>NI.1 (h.mem_iff.1 aj)⟩
theorem W' {n:Nat} {o:List Int}:qA n o↔o∈qU n (qo n):=by
 rw [Lm,Pb n _ _ (by simp [qo])]
theorem YX {l:List Int}:(∀ j:Nat,j<(I8 l).length→ix (I8 l) (j:Int)=(j:Int))↔qA l.length l:=by
 obtain ⟨ab,ae⟩:=YW l;have ao:=ab.length_eq;constructor
 ·intro h;have e:I8 l=qo l.length:=by
   refine List.ext_getElem (by simp [qo,ao]) fun j a b=>?_;have:=h j a;rw [rH a] at this;rw [this];simp [qo]
  rw [Lm,←e];exact ab.symm
 ·intro h;have e:I8 l=qo l.length:=by
   refine List.Perm.eq_of_pairwise (le:=fun (a b:Int)=>a≤b) (fun a b _ _ x y=>by omega) ae ((PH _).imp fun h=>by omega) (ab.trans (Lm.1 h))
  intro j aw;rw [rH aw];simp only [e];simp [qo]
theorem Wp {eH:List Int} (ai:eH.length≤1000) {K:Option (Option (qm×Unit)×Int)}:∀ (m i:Nat),i≤eH.length→eH.length-i<m→(∀ j,j<i→ix eH (j:Int)=(j:Int)) →
  IG eH (fun _=>K) m (i:Int)=if ∀ j:Nat,j<eH.length→ix eH (j:Int)=(j:Int) then K else some (none,16)
 | 0,_,_,h,_=>absurd h (by omega)
 | m+1,i,hi,hm,aw=>by
   rw [IG];by_cases aR:i<eH.length
   ·rw [if_pos (decide_eq_true (by omega)),qw (by omega),Hq i (by omega)];by_cases al:ix eH (i:Int)=(i:Int)
    ·rw [if_neg (by simpa using al)];refine Wp ai m (i+1) (by omega) (by omega) fun j gf=>?_;by_cases e:j=i
     ·rw [e];exact al
     ·exact aw j (by omega)
    ·rw [if_pos (decide_eq_true al),if_neg (fun h=>al (h i aR))]
   ·rw [if_neg (by simpa using by omega),if_pos fun j ao=>aw j (by omega)]
theorem PX {p:qm} (aB:p.1.length≤1000) {o:List Int} (ao:o.length≤12):rW p [o]=some (if rU p o=0 then (some (p,()),0) else (none,rU p o)):=by
 unfold rW rU;rw [ZZ aB,sc];by_cases h:qX p=0
 ·rw [if_neg (show ¬ decide (qX p≠0)=true by simpa using h)];rw [if_neg (show ¬ qX p≠0 by simpa using h)];obtain ⟨m,hm⟩:=Nj;rw [show HD p [o] (fun _=>some (some (p,()),0)) qh 0=HD p [o] (fun _=>some (some (p,()),0)) (m+2) 0 by rw [hm],HD.eq_2,if_pos (show decide ((0:Int)<(([o]:List (List Int)).length:Int))=true from rfl),qw ⟨sY _,show (0:Int)<(1:Int) by decide⟩,show ix [o] (0:Int)=o from rfl];rw [show P3 o=some () from rfl,sc,show P2 o=some (I8 o) from if_pos ao,sc];have ah:=YW o;have DG:=ah.1.length_eq;rw [show (0:Int)=((0:Nat):Int) from rfl,Wp (by omega) qh 0 (by omega) (r5 (by omega)) (fun j h=>absurd h (by omega))];by_cases ab:qA o.length o
  ·rw [if_pos (YX.2 ab)];by_cases aI:o.length=p.1.length
   ·rw [if_neg (show ¬ decide ((o.length:Int)≠(p.1.length:Int))=true by simp [aI]),if_pos (by rw [←aI,if_pos ab]),show w (((0:Nat):Int)+1)=1 from rfl,HD.eq_2];rfl
   ·have fp:¬ qA p.1.length o:=fun k=>aI k.1;rw [if_pos (show decide ((o.length:Int)≠(p.1.length:Int))=true from decide_eq_true (by omega)),if_neg fp];rfl
  ·have fp:¬ qA p.1.length o:=fun k=>ab (by rw [k.1];exact k);rw [if_neg (fun k=>ab (YX.1 k)),if_neg fp];rfl
 ·rw [if_pos (decide_eq_true h),if_pos h,if_neg h]
theorem Tr {p:qm} (aB:p.1.length≤1000):rW p []=some (if qX p=0 then (some (p,()),0) else (none,qX p)):=by
 unfold rW;rw [ZZ aB,sc];by_cases h:qX p=0
 ·rw [if_neg (show ¬ decide (qX p≠0)=true by simpa using h),if_pos h];obtain ⟨m,hm⟩:=Nj;rw [show HD p [] (fun _=>some (some (p,()),0)) qh 0=HD p [] (fun _=>some (some (p,()),0)) (m+2) 0 by rw [hm],HD.eq_2];rfl
 ·rw [if_pos (decide_eq_true h),if_neg h]
structure rj (p:qm):Prop where
 n:p.1.length=3∨p.1.length=5∨p.1.length=7
 s:∀ s∈p.1,q2 s
 lo:0≤p.2.1
 le:p.2.1≤p.2.2
 hi:p.2.2≤50
theorem Jf {p:qm}:qX p=0↔rj p:=by
 unfold qX;constructor
 ·intro h;split at h
  ·rename_i ab;split at h
   ·rename_i ae;exact ⟨ab,ae.1,ae.2.1,ae.2.2.1,ae.2.2.2⟩
   ·omega
  ·omega
 ·intro h;rw [if_pos h.n,if_pos ⟨h.s,h.lo,h.le,h.hi⟩]
theorem Ln {p:qm} {o:List Int}:rU p o=0↔rj p∧qA p.1.length o:=by
 unfold rU;by_cases h:qX p=0
 ·rw [if_neg (by simpa using h)];by_cases ab:qA p.1.length o
  ·rw [if_pos ab];exact ⟨fun _=>⟨Jf.1 h,ab⟩,fun _=>rfl⟩
  ·rw [if_neg ab];exact ⟨fun k=>by omega,fun k=>absurd k.2 ab⟩
 ·rw [if_pos h];exact ⟨fun k=>absurd k h,fun k=>Jf.2 k.1⟩
theorem rX {S:List qM} {o:List Int} (h:qA S.length o):JZ S o:=fun i hi=>h.2.2 _ (J8 (by omega))
end Go.Proofs.YtkoioidpbbbaiaaGreat.Ab


namespace Go.Proofs.YtkoioidpbbbaiaaGreat.Ab
open Go
set_option maxRecDepth 20000
set_option maxHeartbeats 4000000
noncomputable def aaj:gB :=
 p5 [p3 2 [.jm 0] .box,qg 4 0,qg 5 0] (p5 [p3 9 [.Bs 2] (.zE (.str 3)),p6 10 1,p3 11 [.Bs 10] (.yB 1 1 [.av [] 0 .full] [0]),p3 12 [.cv (.func 40 [] []),.m_ 9,.m_ 11] (.call 3),p4 8 12,qQ 13 8 0,p3 14 [.Bs 8] (.ext 1),p4 6 13,p4 7 14] (.seq (p5 [p6 15 7,qu 16 15 0 .neq] (.cond (.m_ 16) (p5 [p4 17 7,qg 4 0,p4 5 17] .ret) .skip)) (p5 [p4 18 6,p4 19 1,p3 20 [.cv (.func 41 [] []),.m_ 18,.m_ 19] (.call 3),p4 4 20,qg 5 0] .ret)))
theorem aeW:qt Tryz.prog Uj 29=some (aaj,21,[.tmp 4,.tmp 5]):=by kernel_rfl
def Ki (p:(qj×(Int×Int))) (order:qa):Option (Int×Int) :=
 (rW p [order]).bind fun aS =>
 match aS with
 | (none,q1) =>
   if (decide (q1≠(0:Int)))=true then
    some ((0:Int),q1)
   else
    none
 | (some bT,q1) =>
   if (decide (q1≠(0:Int)))=true then
    some ((0:Int),q1)
   else
    (Kj (bT.1,()) order).bind fun bh =>
    some (bh,(0:Int))
theorem Tl {p:(qj×(Int×Int))} {order:qa} {v:(Int×Int)} (h:Ki p order=some v):qv 29 [(.agg [(.av (p.1.flatMap p_) p.1.length .shared),(hX p.2.1),(hX p.2.2)]),(.av (order.map hX) order.length .shared)] (.tuple [(hX v.1),(hX v.2)]):=by
 refine qN eD aeW rfl (Ir (p9 rfl (p9 rfl rfl))) fun Q bo=>?_;have jG:qK [.tmp 4,.tmp 5] Q (fun v=>(.tuple [(hX v.1),(hX v.2)])) v:=fun T H bD=>bo _ T H bD;unfold Ki at h;unfold aaj;conv=>whnf
 obtain ⟨aS,gJ,h⟩:=p' h;rcases aS with ⟨_ | bT,q1⟩
 ·refine ⟨(p9 (H3 (p9 (HB (fun _=>(p9 rfl (p9 rfl rfl))) _ _ _) (p9 rfl (p9 rfl rfl)))) (p9 (Pf (p9 (rL (fun _=>rfl) _ _ _) rfl)) rfl)),_,MW gJ,?_⟩;conv=>whnf
  refine bs h (fun gK h=>?_) fun gK h=>?_
  ·rw [gK];(conv=>whnf);exact qd h jG rfl rfl
  ·rw [gK];(conv=>whnf);exact rz h
 ·refine ⟨(p9 (H3 (p9 (HB (fun _=>(p9 rfl (p9 rfl rfl))) _ _ _) (p9 rfl (p9 rfl rfl)))) (p9 (Pf (p9 (rL (fun _=>rfl) _ _ _) rfl)) rfl)),_,MW gJ,?_⟩;conv=>whnf
  refine bs h (fun qs h=>?_) fun qs h=>?_
  ·rw [qs];(conv=>whnf);exact qd h jG rfl rfl
  ·rw [qs];(conv=>whnf);obtain ⟨bh,qG,h⟩:=p' h;refine ⟨qi.pl,_,Oh qG,?_⟩;(conv=>whnf);exact qd h jG rfl rfl

noncomputable def aal:gB :=
 p5 [p3 3 [.jm 0] .box,qg 6 0,qg 7 0,qg 8 0] (p5 [p3 13 [.m_ 3] (.zE (.str 3)),p6 14 1,p3 15 [.Bs 14] (.yB 1 1 [.av [] 0 .full] [0]),p3 16 [.cv (.func 40 [] []),.m_ 13,.m_ 15] (.call 3),p4 12 16,qQ 17 12 0,p3 18 [.Bs 12] (.ext 1),p4 9 17,p4 10 18] (.seq (.block 0 (p5 [p6 20 10,qu 21 20 0 .neq,p4 19 21] (.cond (.m_ 19) (p5 [p4 22 10,qg 6 0,qg 7 0,p4 8 22] .ret) (p5 [p3 24 [.m_ 3] (.yM 1),qJ 25 24 0,ql 26 25,qJ 27 3 1,qJ 28 27 1,ql 29 28,p6 30 2,p3 31 [.Bs 30] (.yB 1 1 [.int .i64 0] [0]),p3 32 [.cv (.func 50 [] []),.m_ 26,.m_ 29,.m_ 31] (.call 3),p3 33 [.Bs 32] (.un .not),p4 23 33] (.cond (.m_ 23) (p5 [qg 6 0,qg 7 0,qg 8 3] .ret) .skip))))) (p5 [p4 34 9,p4 35 1,p4 36 2,p3 37 [.cv (.func 63 [] []),.m_ 34,.m_ 35,.m_ 36] (.call 3),p3 11 [] (.alloc [.int .i64 0,.int .i64 0]),⟨none,[.m_ 11,.jm 37],none,none,.st 2⟩] (.seq (rh [p3 38 [.m_ 11,.cv (.int .i64 0)] (.zu 2 1),ql 39 38,p3 40 [.m_ 11,.cv (.int .i64 1)] (.zu 2 1),ql 41 40,p4 6 39,p4 7 41,qg 8 0]) .ret))))
theorem aeY:qt Tryz.prog Ul 30=some (aal,42,[.tmp 6,.tmp 7,.tmp 8]):=by kernel_rfl
def KQ (p:(qj×(Int×Int))) (order:qa) (rE:Int):Option (Int×Int×Int) :=
 (rW p [order]).bind fun aS =>
 match aS with
 | (none,q1) =>
   if (decide (q1≠(0:Int)))=true then
    some ((0:Int),(0:Int),q1)
   else
    (IQ p.2.1 p.2.2 [rE]).bind fun bh =>
    if bh=true then
     none
    else
     some ((0:Int),(0:Int),(3:Int))
 | (some bT,q1) =>
   if (decide (q1≠(0:Int)))=true then
    some ((0:Int),(0:Int),q1)
   else
    (IQ p.2.1 p.2.2 [rE]).bind fun eH =>
    if eH=true then
     (LU (bT.1,()) order rE).bind fun qP =>
     some (qP.1,qP.2,(0:Int))
    else
     some ((0:Int),(0:Int),(3:Int))
theorem ZF {p:(qj×(Int×Int))} {order:qa} {rE:Int} {v:(Int×Int×Int)} (h:KQ p order rE=some v):qv 30 [(.agg [(.av (p.1.flatMap p_) p.1.length .shared),(hX p.2.1),(hX p.2.2)]),(.av (order.map hX) order.length .shared),(hX rE)] (.tuple [(hX v.1),(hX v.2.1),(hX v.2.2)]):=by
 refine qN eD aeY rfl (Ir (p9 rfl (p9 rfl (p9 rfl rfl)))) fun Q bo=>?_;have jG:qK [.tmp 6,.tmp 7,.tmp 8] Q (fun v=>(.tuple [(hX v.1),(hX v.2.1),(hX v.2.2)])) v:=fun T H bD=>bo _ T H bD;unfold KQ at h;unfold aal;conv=>whnf
 obtain ⟨aS,gJ,h⟩:=p' h;rcases aS with ⟨_ | bT,q1⟩
 ·refine ⟨(p9 (H3 (p9 (HB (fun _=>(p9 rfl (p9 rfl rfl))) _ _ _) (p9 rfl (p9 rfl rfl)))) (p9 (Pf (p9 (rL (fun _=>rfl) _ _ _) rfl)) rfl)),_,MW gJ,?_⟩;conv=>whnf
  refine bs h (fun gK h=>?_) fun gK h=>?_
  ·rw [gK];(conv=>whnf);exact qd h jG rfl rfl
  ·rw [gK];(conv=>whnf);obtain ⟨bh,qs,h⟩:=p' h;refine ⟨(p9 rfl (p9 rfl (p9 rfl rfl))),_,KV qs,?_⟩;(conv=>whnf);cases bh
   ·(conv=>whnf);replace h:=rp rfl h;exact qd h jG rfl rfl
   ·(conv=>whnf);replace h:=rn rfl h;exact rz h
 ·refine ⟨(p9 (H3 (p9 (HB (fun _=>(p9 rfl (p9 rfl rfl))) _ _ _) (p9 rfl (p9 rfl rfl)))) (p9 (Pf (p9 (rL (fun _=>rfl) _ _ _) rfl)) rfl)),_,MW gJ,?_⟩;conv=>whnf
  refine bs h (fun qG h=>?_) fun qG h=>?_
  ·rw [qG];(conv=>whnf);exact qd h jG rfl rfl
  ·rw [qG];(conv=>whnf);obtain ⟨eH,qW,h⟩:=p' h;refine ⟨(p9 rfl (p9 rfl (p9 rfl rfl))),_,KV qW,?_⟩;(conv=>whnf);cases eH
   ·(conv=>whnf);replace h:=rp rfl h;exact qd h jG rfl rfl
   ·(conv=>whnf);replace h:=rn rfl h;obtain ⟨qP,q8,h⟩:=p' h;refine ⟨qi.pl,_,Tz q8,?_⟩;(conv=>whnf);refine ⟨by decide,?_⟩;(conv=>whnf);refine ⟨by decide,?_⟩;(conv=>whnf);exact qd h jG rfl rfl

noncomputable def Qf:gB :=
 .loop (some (qb false [1,2,2,2,29])) (.seq (p5 [p6 12 6,p3 13 [.m_ 2] (.yM 1),qJ 14 13 1,ql 15 14,qp 16 12 15 .leq] (.cond (.m_ 16) .skip (.exit 0))) (.seq (.block 1 (.seq (rh [p3 19 [.m_ 2] (.zE (.str 3)),p6 20 1,p6 21 6,p3 22 [.cv (.func 65 [] []),.m_ 19,.m_ 20,.m_ 21,.cv (.int .i64 0)] (.call 3),p3 23 [.m_ 2] (.zE (.str 3)),p6 24 1,p6 25 6,p3 26 [.cv (.func 65 [] []),.m_ 23,.m_ 24,.m_ 25,.cv (.int .i64 1)] (.call 3),p4 7 22,p4 8 26]) (qE [p4 27 5,p6 28 7,p4 29 7,p3 30 [.Bs 29] (.un .neg),p6 31 8,p4 32 8,p3 33 [.Bs 32] (.un .neg),p3 34 [.jm 27,.jm 28,.jm 30,.jm 31,.jm 33] .max,p4 5 34]))) (qE [p4 17 6,qV 18 17 1,p4 6 18])))
noncomputable def aat:gB :=
 p5 [p3 2 [.jm 0] .box,qg 4 0] (p5 [qg 5 0] (.seq (p5 [p3 9 [.m_ 2] (.yM 1),qJ 10 9 0,ql 11 10,p4 6 11] (.block 0 Qf)) (p5 [p4 35 5,p4 4 35] .ret)))
theorem ae6:qt Tryz.prog QN 39=some (aat,36,[.tmp 4]):=by kernel_rfl
def LM (p:(qj×(Int×Int))) (order:qa) (qc:Int→Option Int):Nat→Int→Int→Option Int
 | 0,_,_=>none
 | m+1,s1,s2 =>
   if (decide (s2≤p.2.2))=true then
    (JM p order s2 (0:Int)).bind fun aS =>
    (JM p order s2 (1:Int)).bind fun bh =>
    LM p order qc m (max (max (max (max s1 aS) (w (-aS))) bh) (w (-bh))) (w (s2+(1:Int)))
   else
    qc s1
def LL (p:(qj×(Int×Int))) (order:qa):Option Int :=
 LM p order (fun yn =>
   some yn) qh (0:Int) p.2.1
theorem aiJ {p:(qj×(Int×Int))} {order:qa} {qc:Int→Option Int} {s1:Int} {s2:Int} {v:Int} {Q:rR}   (q':∀ (yn:Int) (bw:ar) (qe:List I),qc yn=some v→rk 36 [(5,(hX yn))] qe→Q (.exit 0) qe [bw]) {T:List I} (bZ:eW (qb false [1,2,2,2,29]) T=qf 36 [(1,(qy order .shared)),(2,(.ptr 0 0)),(5,(hX s1)),(6,(hX s2))]) (h:LM p order qc qh s1 s2=some v) :
  dN Tryz.prog QN 39 0 none Qf T [ar.cells [(qY p.1 .shared),(hX p.2.1),(hX p.2.2)]] Q:=by
 unfold Qf;refine wp_loop bZ ?_;refine .intro (fun m T H=>∃ (s1 s2:Int),T=qf 36 [(1,(qy order .shared)),(2,(.ptr 0 0)),(5,(hX s1)),(6,(hX s2))]∧H=[ar.cells [(qY p.1 .shared),(hX p.2.1),(hX p.2.2)]]∧LM p order qc m s1 s2=some v) qh ⟨s1,s2,rfl,rfl,h⟩ ?_;clear h bZ;rintro m T H ⟨s1,s2,rfl,rfl,h⟩;cases m
 ·exact rz h
 rename_i m;rw [LM.eq_2] at h;conv=>whnf
 refine bs h (fun gJ h=>?_) fun gJ h=>?_
 ·rw [gJ];conv=>whnf
  obtain ⟨aS,gK,h⟩:=p' h;refine ⟨qi.pl,_,MZ gK,rB,?_⟩;conv=>whnf
  obtain ⟨bh,qs,h⟩:=p' h;refine ⟨qi.pl,_,MZ qs,(K4 (fun _ e=>by simp at e) rB),?_⟩;conv=>whnf
  exact ⟨m,sg m,(max (max (max (max s1 aS) (w (-aS))) bh) (w (-bh))),(w (s2+(1:Int))),rfl,rfl,h⟩
 ·rw [gJ];conv=>whnf
  exact q' _ _ _ h ⟨rfl,rfl⟩
theorem ZH {p:(qj×(Int×Int))} {order:qa} {v:Int} (h:LL p order=some v):qv 39 [(.agg [(.av (p.1.flatMap p_) p.1.length .shared),(hX p.2.1),(hX p.2.2)]),(.av (order.map hX) order.length .shared)] (hX v):=by
 refine qN eD ae6 rfl rfl fun Q bo=>?_;have jG:qK [.tmp 4] Q (fun v=>(hX v)) v:=fun T H bD=>bo _ T H bD;unfold LL at h;unfold aat;obtain ⟨r9,qC⟩:∃ c,Qf=c:=⟨_,rfl⟩;rw [qC];conv=>whnf
 subst qC;refine aiJ ?_ (by exact rfl) h;intro yn bw qe h qz;obtain ⟨rq,rfl⟩:=qz.ex;conv=>whnf
 exact qd h jG rfl rfl

noncomputable def aay:gB :=
 p5 [p3 2 [.jm 0] .box,qg 4 0] (.seq (rh [p3 9 [.m_ 2] (.zE (.str 3)),p6 10 1,p3 11 [.m_ 2] (.yM 1),qJ 12 11 0,ql 13 12,p3 14 [.cv (.func 65 [] []),.m_ 9,.m_ 10,.m_ 13,.cv (.int .i64 0)] (.call 3),p3 15 [.m_ 2] (.zE (.str 3)),p6 16 1,p3 17 [.m_ 2] (.yM 1),qJ 18 17 0,ql 19 18,p3 20 [.cv (.func 65 [] []),.m_ 15,.m_ 16,.m_ 19,.cv (.int .i64 1)] (.call 3),p4 5 14,p4 6 20]) (.seq (rh [p3 21 [.m_ 2] (.zE (.str 3)),p6 22 1,p3 23 [.m_ 2] (.yM 1),qJ 24 23 1,ql 25 24,p3 26 [.cv (.func 65 [] []),.m_ 21,.m_ 22,.m_ 25,.cv (.int .i64 0)] (.call 3),p3 27 [.m_ 2] (.zE (.str 3)),p6 28 1,p3 29 [.m_ 2] (.yM 1),qJ 30 29 1,ql 31 30,p3 32 [.cv (.func 65 [] []),.m_ 27,.m_ 28,.m_ 31,.cv (.int .i64 1)] (.call 3),p4 7 26,p4 8 32]) (p5 [p6 33 5,p4 34 5,p3 35 [.Bs 34] (.un .neg),p6 36 6,p4 37 6,p3 38 [.Bs 37] (.un .neg),p6 39 7,p4 40 7,p3 41 [.Bs 40] (.un .neg),p6 42 8,p4 43 8,p3 44 [.Bs 43] (.un .neg),p3 45 [.jm 33,.jm 35,.jm 36,.jm 38,.jm 39,.jm 41,.jm 42,.jm 44] .max,p4 4 45] .ret)))
theorem afa:qt Tryz.prog Ux 47=some (aay,46,[.tmp 4]):=by kernel_rfl
def LP (p:(qj×(Int×Int))) (order:qa):Option Int :=
 (JM p order p.2.1 (0:Int)).bind fun aS =>
 (JM p order p.2.1 (1:Int)).bind fun bh =>
 (JM p order p.2.2 (0:Int)).bind fun eH =>
 (JM p order p.2.2 (1:Int)).bind fun qP =>
 some (max (max (max (max (max (max (max aS (w (-aS))) bh) (w (-bh))) eH) (w (-eH))) qP) (w (-qP)))
theorem Tv {p:(qj×(Int×Int))} {order:qa} {v:Int} (h:LP p order=some v):qv 47 [(.agg [(.av (p.1.flatMap p_) p.1.length .shared),(hX p.2.1),(hX p.2.2)]),(.av (order.map hX) order.length .shared)] (hX v):=by
 refine qN eD afa rfl rfl fun Q bo=>?_;have jG:qK [.tmp 4] Q (fun v=>(hX v)) v:=fun T H bD=>bo _ T H bD;unfold LP at h;unfold aay;conv=>whnf
 obtain ⟨aS,gJ,h⟩:=p' h;refine ⟨qi.pl,_,MZ gJ,rB,?_⟩;conv=>whnf
 obtain ⟨bh,gK,h⟩:=p' h;refine ⟨qi.pl,_,MZ gK,(K4 (fun _ e=>by simp at e) rB),?_⟩;conv=>whnf
 obtain ⟨eH,qs,h⟩:=p' h;refine ⟨qi.pl,_,MZ qs,rB,?_⟩;conv=>whnf
 obtain ⟨qP,qG,h⟩:=p' h;refine ⟨qi.pl,_,MZ qG,(K4 (fun _ e=>by simp at e) rB),?_⟩;conv=>whnf
 exact qd h jG rfl rfl
end Go.Proofs.YtkoioidpbbbaiaaGreat.Ab


namespace Go.Proofs.YtkoioidpbbbaiaaGreat.Ab
open Go
set_option maxRecDepth 20000
set_option maxHeartbeats 1000000
abbrev ru (p:qm) (o:List Int) (a:Nat) (d:Int):Int:=r1 p.1 o a (re d)
def IZ (p:qm) (o:List Int) (d:Int):Int:=max (max (ru p o 0 d) (-(ru p o 0 d))) (max (ru p o 1 d) (-(ru p o 1 d)))
def q_ (p:qm) (o:List Int):Int:=max (IZ p o p.2.1) (IZ p o p.2.2)
theorem acL (p:qm) (o:List Int) (d:Int):0≤IZ p o d:=by unfold IZ;omega
theorem acA (p:qm) (o:List Int):0≤q_ p o:=by have:=acL p o p.2.1;unfold q_;omega
theorem rj.len {p:qm} (h:rj p):3≤p.1.length∧p.1.length≤7:=by have:=h.n;omega
theorem qA.len {p:qm} {o:List Int} (h:rj p) (k:qA p.1.length o):o.length≤10:=by have:=h.len;have:=k.1;omega
theorem JV {p:qm} {o:List Int} {a:Nat} {d:Int} (h:rj p) (k:qA p.1.length o) (a1:0≤d∧d≤50):-60000≤ru p o a d∧ru p o a d≤60000 :=
 afG (B:=600) (qA.len h k) (by omega) fun i hi=>L7 (Iu h.s (rX k) hi) a1
theorem U1 (p:qm) (o:List Int) (a:Nat) {lo d hi:Int} (ab:lo≤d) (ae:d≤hi):(ru p o a lo≤ru p o a d∧ru p o a d≤ru p o a hi)∨(ru p o a hi≤ru p o a d∧ru p o a d≤ru p o a lo):=by
 simp only [ru,afI];generalize r1 p.1 o a Prod.snd=B;rcases Int.le_total 0 B with h | h
 ·have:=Int.mul_le_mul_of_nonneg_left ab h;have:=Int.mul_le_mul_of_nonneg_left ae h;omega
 ·have:=Int.mul_le_mul_of_nonpos_left h ab;have:=Int.mul_le_mul_of_nonpos_left h ae;omega
theorem acK {p:qm} {o:List Int} {lo d hi:Int} (ab:lo≤d) (ae:d≤hi):IZ p o d≤max (IZ p o lo) (IZ p o hi):=by
 have a:=U1 p o 0 ab ae;have b:=U1 p o 1 ab ae;unfold IZ;omega
theorem afA (a b c d:Int):max (max (max (max (max (max (max (max 0 a) (-a)) b) (-b)) c) (-c)) d) (-d)=max (max (max a (-a)) (max b (-b))) (max (max c (-c)) (max d (-d))):=by
 rw [show max (max 0 a) (-a)=max a (-a) by omega];simp only [vO]
theorem afz (a b c d:Int):max (max (max (max (max (max (max a (-a)) b) (-b)) c) (-c)) d) (-d)=max (max (max a (-a)) (max b (-b))) (max (max c (-c)) (max d (-d))):=by
 simp only [vO]
section
variable {p:qm} {o:List Int}
theorem Og (h:rj p) (k:qA p.1.length o):Kj (p,()) o=some (q_ p o):=by
 have hle:=h.le;have bC:=h.lo;have GO:=h.hi;unfold Kj;have fI:=qA.len h k;rw [Ty (b:=(p,())) h.s (rX k) fI k.1.symm (show 0≤p.2.1∧p.2.1≤50 by omega),sc,Ty (b:=(p,())) h.s (rX k) fI k.1.symm (show 0≤p.2.2∧p.2.2≤50 by omega),sc];have aA:=JV (a:=0) h k (show 0≤p.2.1∧p.2.1≤50 by omega);have aG:=JV (a:=1) h k (show 0≤p.2.1∧p.2.1≤50 by omega);have aT:=JV (a:=0) h k (show 0≤p.2.2∧p.2.2≤50 by omega);have bq:=JV (a:=1) h k (show 0≤p.2.2∧p.2.2≤50 by omega);simp only;rw [qF (n := -(ru p o 0 p.2.1)) (by omega),qF (n := -(ru p o 1 p.2.1)) (by omega),qF (n := -(ru p o 0 p.2.2)) (by omega),qF (n := -(ru p o 1 p.2.2)) (by omega)];exact congrArg some (afA _ _ _ _)
theorem M0 (h:rj p) (k:qA p.1.length o) {d:Int} (a1:0≤d∧d≤50) {a:Nat}:JM p o d (a:Int)=some (ru p o a d):=ajc h.s (rX k) (qA.len h k) a1
theorem Tu (h:rj p) (k:qA p.1.length o):LP p o=some (q_ p o):=by
 have hle:=h.le;have bC:=h.lo;have GO:=h.hi;unfold LP;rw [show (0:Int)=((0:Nat):Int) from rfl,show (1:Int)=((1:Nat):Int) from rfl];rw [M0 h k (by omega),sc,M0 h k (by omega),sc,M0 h k (by omega),sc,M0 h k (by omega),sc];have aA:=JV (a:=0) h k (show 0≤p.2.1∧p.2.1≤50 by omega);have aG:=JV (a:=1) h k (show 0≤p.2.1∧p.2.1≤50 by omega);have aT:=JV (a:=0) h k (show 0≤p.2.2∧p.2.2≤50 by omega);have bq:=JV (a:=1) h k (show 0≤p.2.2∧p.2.2≤50 by omega);rw [qF (n := -(ru p o 0 p.2.1)) (by omega),qF (n := -(ru p o 1 p.2.1)) (by omega),qF (n := -(ru p o 0 p.2.2)) (by omega),qF (n := -(ru p o 1 p.2.2)) (by omega)];exact congrArg some (afz _ _ _ _)
theorem acV {n:Nat} (h:n≤1000000):n<qh:=r5 h
theorem Wl (h:rj p) (k:qA p.1.length o):∀ (m i:Nat) (s:Int),p.2.1+i≤p.2.2+1→(p.2.2+1-(p.2.1+i)).toNat<m→0≤s→s≤q_ p o→(0<i→IZ p o p.2.1≤s)→(p.2.1+i=p.2.2+1→IZ p o p.2.2≤s) →
  LM p o (fun z=>some z) m s (p.2.1+i)=some (q_ p o)
 | 0,_,_,_,h,_,_,_,_=>absurd h (by omega)
 | m+1,i,s,hi,hm,aQ,ab,ae,aF=>by
   have hle:=h.le;have bC:=h.lo;have GO:=h.hi;rw [LM];by_cases aR:p.2.1+i≤p.2.2
   ·rw [if_pos (decide_eq_true aR)];rw [show (0:Int)=((0:Nat):Int) from rfl,M0 h k (d:=p.2.1+i) (by omega),sc];rw [show (1:Int)=((1:Nat):Int) from rfl,M0 h k (d:=p.2.1+i) (by omega),sc];have aA:=JV (a:=0) h k (show 0≤p.2.1+i∧p.2.1+i≤50 by omega);have aG:=JV (a:=1) h k (show 0≤p.2.1+i∧p.2.1+i≤50 by omega);rw [qF (n := -(ru p o 0 (p.2.1+i))) (by omega),qF (n := -(ru p o 1 (p.2.1+i))) (by omega),qF (by omega)];(have e:max (max (max (max s (ru p o 0 (p.2.1+i))) (-(ru p o 0 (p.2.1+i)))) (ru p o 1 (p.2.1+i))) (-(ru p o 1 (p.2.1+i)))=max s (IZ p o (p.2.1+i)):=by unfold IZ;simp only [vO]);have b:=acK (p:=p) (o:=o) (lo:=p.2.1) (d:=p.2.1+i) (hi:=p.2.2) (by omega) aR;rw [e,show p.2.1+(i:Int)+((1:Nat):Int)=p.2.1+((i+1:Nat):Int) by omega];refine Wl h k m (i+1) _ (by omega) (by omega) (by omega) (by unfold q_ at *;omega) (fun _=>?_) (fun he=>?_)
    ·by_cases f_:i=0
     ·subst f_;simp only [Int.natCast_zero,tJ];omega
     ·have:=ae (by omega);omega
    ·rw [show p.2.1+(i:Int)=p.2.2 by omega];omega
   ·rw [if_neg (by simpa using by omega)];have:=ae (by omega);have:=aF (by omega);congr 1;unfold q_ at *;omega
theorem ZG (h:rj p) (k:qA p.1.length o):LL p o=some (q_ p o):=by
 have hle:=h.le;have bC:=h.lo;have GO:=h.hi;unfold LL;have:=Wl h k qh 0 0 (by omega) (acV (by omega)) (by omega) (acA p o) (fun h=>absurd h (by omega)) (fun h=>by omega);simpa using this
theorem Tk (aB:p.1.length≤1000) (ao:o.length≤12):Ki p o=some (if rU p o=0 then (q_ p o,0) else (0,rU p o)):=by
 unfold Ki;rw [PX aB ao,sc];by_cases h:rU p o=0
 ·rw [if_pos h,if_pos h];obtain ⟨ab,ae⟩:=Ln.1 h;simp only;rw [if_neg (by decide),Og ab ae];rfl
 ·rw [if_neg h,if_neg h];simp only;rw [if_pos (decide_eq_true h)]
theorem ZE (aB:p.1.length≤1000) (ao:o.length≤12) (d:Int):KQ p o d=some (if rU p o=0 then (if p.2.1≤d∧d≤p.2.2 then (ru p o 0 d,ru p o 1 d,0) else (0,0,3)) else (0,0,rU p o)):=by
 unfold KQ;rw [PX aB ao,sc];by_cases h:rU p o=0
 ·rw [if_pos h,if_pos h];obtain ⟨ab,ae⟩:=Ln.1 h;have hle:=ab.le;have bC:=ab.lo;have GO:=ab.hi;simp only;rw [if_neg (by decide),MY,sc];by_cases a1:p.2.1≤d∧d≤p.2.2
  ·rw [if_pos (by simp [a1.1,a1.2]),if_pos a1,Ty (b:=(p,())) ab.s (rX ae) (qA.len ab ae) ae.1.symm (by omega)];rfl
  ·rw [if_neg (by simpa using a1),if_neg a1]
 ·rw [if_neg h,if_neg h];simp only;rw [if_pos (decide_eq_true h)]
end
end Go.Proofs.YtkoioidpbbbaiaaGreat.Ab


namespace Go.Proofs.YtkoioidpbbbaiaaGreat.Ab
open Go
noncomputable def Pn:gB :=
 .seq (rh [p3 37 [.m_ 10] (.zE (.str 2)), p3 38 [] (.build [.int .i64 0, .int .i64 0] []), p3 39 [.Bs 37, .Bs 38] (.other (Oper.mk (some 39) (Op.binOp .eql 117 (Operand.tmp 37) (Operand.tmp 38) 117) 4 "press.go:129" (Array.mk [Edge.mk 0 Ground.data, Edge.mk 1 Ground.data]) none) 0), p4 40 39, ch 41 [.jm 11] 40 false .mR, ch 42 [.jm 41] 40 false .mR, ch 43 [.m_ 10] 42 true (.yM 0), ch 44 [.Bs 43] 42 true (.zE .one), ch 45 [.m_ 10] 42 true (.yM 1), ch 46 [.Bs 45] 42 true (.zE .one), ch 47 [.jm 0] 42 true .mR, ch 48 [.Bs 47] 42 true .z4, ch 49 [.Bs 48] 42 true (.yM 0), ch 50 [.Bs 49] 42 true (.yM 1), ch 51 [.Bs 50] 42 true (.yM 0), ch 52 [.Bs 51] 42 true (.zE .one), ch 53 [.Bs 46, .Bs 52] 42 true (.bin .mul), ch 54 [.Bs 44, .Bs 53] 42 true (.bin .add), ch 55 [.Bs 54, .cv (.int .i64 0)] 42 true (.bin .eql), ch 56 [.m_ 42, .Bs 55, .cv (.bool false)] 40 false .pick, p3 57 [.m_ 40, .cv (.bool true), .Bs 56] .pick, p3 8 [.cv (.av [] 0 .full)] (.nil 3), p4 9 57]) .ret
noncomputable def SE:gB :=
 .ou false [p6 80 0,p3 81 [.Bs 80] .z4,qJ 82 81 3,ql 83 82,p6 84 0,p6 85 3,p3 86 [.Bs 85,.cv (.int .i64 0)] (.kV 1),ql 87 86,p3 88 [.cv (.func 77 [] []),.jm 84,.jm 87] (.call 9),p6 89 12,⟨none,[.Bs 83,.Bs 88,.Bs 89],none,none,.zR (.int .i64)⟩]
noncomputable def Po:gB :=
 p5 [p6 73 0,p6 74 0,p6 75 3,p3 76 [.Bs 75,.cv (.int .i64 0)] (.kV 1),ql 77 76,p3 78 [.cv (.func 77 [] []),.jm 74,.jm 77] (.call 9),p3 79 [.cv (.func 81 [] []),.m_ 73,.m_ 78] (.call 2),p4 12 79] SE
noncomputable def SF:gB :=
 .ou true [p3 98 [.m_ 10] (.yM 0),ql 99 98,p3 100 [.Bs 99] (.un .neg),p3 101 [.m_ 10] (.yM 1),ql 102 101,p4 103 0,p3 104 [.Bs 103] .z4,qJ 105 104 0,qJ 106 105 1,qJ 107 106 0,ql 108 107,qp 109 102 108 .mul,qp 110 100 109 .sub,p3 111 [.Bs 110,.cv (.int .i64 0)] (.build [.int .i64 0,.int .i64 0] [(0,1),(1,1)]),⟨none,[.m_ 14,.jm 111],none,none,.st 2⟩]
noncomputable def Yg:gB :=
 .seq (rh [p4 120 1,p4 121 3,p3 122 [.Bs 121,.cv (.int .i64 0)] (.kV 1),ql 123 122,rm 124 120 123 1,ql 125 124,p3 126 [.Bs 15] (.zE (.str 2)),p3 127 [.Bs 125,.Bs 126] (.build [.int .i64 0,.int .i64 0,.int .i64 0] [(0,1),(1,2)]),p3 128 [.Bs 127] (.yB 1 3 [.int .i64 0,.int .i64 0,.int .i64 0] [0]),p4 8 128,p3 9 [.cv (.bool true)] .mR]) .ret
noncomputable def Pp:gB :=
 .seq (p5 [p4 118 13,p3 119 [.Bs 118] (.un .not)] (.cond (.m_ 119) (p5 [p3 8 [.cv (.av [] 0 .full)] (.nil 3),p3 9 [.cv (.bool false)] .mR] .ret) .skip)) Yg
noncomputable def Pq:gB :=
 p5 [p4 113 12,p3 114 [.Bs 14] (.zE (.str 2)),p3 115 [.Bs 113,.Bs 114] (.zQ (.str 2) true (some (.agg [.int .i64 0,.int .i64 0]))),p4 112 115,qQ 116 112 0,p3 117 [.Bs 112] (.ext 1),p3 15 [] (.alloc [.int .i64 0,.int .i64 0]),⟨none,[.m_ 15,.jm 116],none,none,.st 2⟩,p4 13 117] Pp
noncomputable def NV:gB :=
 p5 [p3 90 [.m_ 10] (.yM 0),ql 91 90,p3 92 [.Bs 91] (.un .neg),p3 93 [.m_ 10] (.yM 1),ql 94 93,p3 95 [.Bs 94] (.un .neg),p3 96 [.Bs 92,.Bs 95] (.build [.int .i64 0,.int .i64 0] [(0,1),(1,1)]),p3 14 [] (.alloc [.int .i64 0,.int .i64 0]),⟨none,[.m_ 14,.jm 96],none,none,.st 2⟩] (.seq (p5 [p4 97 11] (.cond (.m_ 97) SF .skip)) Pq)
noncomputable def MD:gB :=
 p5 [p6 59 0,p3 60 [.Bs 59] .z4,qJ 61 60 3,ql 62 61,p6 63 0,p6 64 3,p3 65 [.Bs 64,.cv (.int .i64 0)] (.kV 1),ql 66 65,p3 67 [.cv (.func 77 [] []),.jm 63,.jm 66] (.call 9),p3 68 [.Bs 62,.Bs 67] (.zQ (.int .i64) true (some .a0)),p4 58 68,qQ 69 58 0,qQ 70 58 1,p4 12 69,p4 13 70] (.seq (p5 [p4 71 13,p3 72 [.Bs 71] (.un .not)] (.cond (.m_ 72) Po .skip)) NV)
noncomputable def NU:gB :=
 .seq (rh [p6 21 0,p3 22 [.Bs 21] .z4,qJ 23 22 0,qJ 24 23 1,qJ 25 24 0,ql 26 25,p6 27 0,p3 28 [.Bs 27] .z4,qJ 29 28 0,qJ 30 29 1,qJ 31 30 1,ql 32 31,qp 33 26 32 .eql,p4 11 33]) (.seq (p5 [p6 34 3,qZ 35 34,qu 36 35 0 .eql] (.cond (.m_ 36) Pn .skip)) MD)
noncomputable def SD:gB :=
 p5 [p6 16 0,p6 17 1,p4 18 2,p6 19 3,p3 20 [.cv (.func 80 [] []),.jm 16,.jm 17,.jm 18,.jm 19] (.call 9),p3 10 [] (.alloc [.int .i64 0,.int .i64 0]),⟨none,[.m_ 10,.jm 20],none,none,.st 2⟩] NU
noncomputable def Pm:gB :=
 p5 [p3 8 [.cv (.av [] 0 .full)] (.nil 3),p3 9 [.cv (.bool false)] .mR] SD
theorem R1:qt Go.Proofs.Tryz.prog L5 60=some (Pm,129,[.tmp 8,.tmp 9]):=by kernel_rfl
end Go.Proofs.YtkoioidpbbbaiaaGreat.Ab


namespace Go.Proofs.YtkoioidpbbbaiaaGreat.Ab
open Go
set_option maxRecDepth 20000
set_option maxHeartbeats 4000000
abbrev r_:=((List (Int×Int))×(Int×Int))×Unit
abbrev r0 (b:r_) (m:Nat):I:=.bR [.av (b.1.1.flatMap p_) b.1.1.length .shared,hX b.1.2.1,hX b.1.2.2,.map m]
def HW (b:r_) (m:Nat) (H:List ar):Prop:=∃ (es:List (Nat×I×I)) (IW:Nat),H[m]?=some (.map es IW) ∧
 ∀ e∈es,∃ (x:Int) (id c:Nat) (A:rr),e.2.1=hX x∧e.2.2=.map id∧id≠m∧H[id]?=some (.map (ry A) c)∧M5 b x=some A
theorem HW.more {b:r_} {m:Nat} {H:List ar} (h:HW b m H) (Z:List ar):HW b m (H++Z):=by
 obtain ⟨es,IW,ab,ae⟩:=h;refine ⟨es,IW,by rw [sk (sd.1 ab).1];exact ab,fun e he=>?_⟩;obtain ⟨x,id,c,A,aA,aG,aT,bq,bf⟩:=ae e he;exact ⟨x,id,c,A,aA,aG,aT,by rw [sk (sd.1 bq).1];exact bq,bf⟩
theorem Vj {x:Int}:∀ {es:List (Nat×I×I)} {n:Nat},(∀ e∈es,∃ y:Int,e.2.1=hX y)→(∃ i e,fE (hX x) es n=some (some (n+i))∧es[i]?=some e∧e.2.1=hX x)∨fE (hX x) es n=some none
 | [],n,_=>.inr rfl
 | (i,k,v)::es,n,h=>by
   obtain ⟨y,aY⟩:=h (i,k,v) (by simp);simp only at aY;subst aY;have he:gH (hX x) (hX y)=some (decide (x=y)):=by
    simp only [gH,if_true,Option.some.injEq];rw [tA];simp
   by_cases e:x=y
   ·subst e;refine .inl ⟨0,_,?_,rfl,rfl⟩;simp only [fE,he,decide_true];rfl
   ·rcases Vj (x:=x) (es:=es) (n:=n+1) (fun e he=>h e (by simp [he])) with ⟨j,b9,ab,ae,aF⟩ | ab
    ·refine .inl ⟨j+1,b9,?_,by simpa using ae,aF⟩;simp only [fE,he];rw [decide_eq_false e];show fE (hX x) es (n+1)=_;rw [ab];congr 2;omega
    ·refine .inr ?_;simp only [fE,he];rw [decide_eq_false e];exact ab
def Ii (m:Nat) (H H':List ar):Prop:=H.length≤H'.length∧∀ j,j≠m→j<H.length→H'[j]?=H[j]?
def Iw (b:r_) (order:List Int) (qn:Int) (Lj:List Int):Option (List qB×Bool) :=
 (LX b order qn Lj).bind fun left =>
 match Lj with
 | []=>some ([],decide (left=(0,0)) || (decide (b.1.2.1=b.1.2.2) && decide (w (left.1+w (left.2*b.1.2.1))=0)))
 | cu::_ =>
   (Kn b cu).bind fun x=>(M5 b x).bind fun A =>
   match JC A (if b.1.2.1=b.1.2.2 then (w (w (-left.1)-w (left.2*b.1.2.1)),0) else (w (-left.1),w (-left.2))) with
   | none=>some ([],false)
   | some s=>qq (0≤cu∧cu<(order.length:Int)) <| some ([(ix order cu,s)],true)
theorem ZV {b:r_} {order:List Int} {qn:Int} {v:List qB×Bool} (h:Iw b order qn []=some v) {m lo:Nat} {H:List ar} (bC:lo≤H.length) :
  v.1=[]∧∃ o,Sem Tryz.prog (.fn 60) [r0 b m,.av (order.map hX) order.length .shared,hX qn,.av [] 0 .full] H lo (.tuple [.av [] 0 .shared,B v.2]) (H++[o]):=by
 unfold Iw at h;obtain ⟨left,ao,h⟩:=p' h;obtain rfl:=Option.some.inj h;refine ⟨rfl,.cells [hX left.1,hX left.2],?_⟩;refine rK eD R1 rfl (a'.append _ _ _) fun Q bo=>?_;unfold Pm SD;obtain ⟨ab3,Kx⟩:∃ c,NU=c:=⟨_,rfl⟩;rw [Kx];conv=>whnf
 refine ⟨_,_,call9 (bs:=[lj b,.av (order.map hX) order.length .shared,hX qn,.av (([]:List Int).map hX) ([]:List Int).length .shared]) rfl (p9 (Ic b) (p9 (rL (fun _=>rfl) _ _ _) (p9 rfl (p9 rfl rfl)))) (P6 ao),?_⟩;conv=>whnf
 rw [tw bC];refine Ew (x:=ar.cells [hX 0,hX 0]) (by first | exact q6.h | rfl | (simp [sr,I.settle];done)) ?_
 conv=>whnf
 rw [HJ];subst Kx;unfold NU;obtain ⟨B9,K_⟩:∃ c,MD=c:=⟨_,rfl⟩;obtain ⟨a7,cc⟩:∃ c,Pn=c:=⟨_,rfl⟩;rw [K_,cc];conv=>whnf
 subst cc;unfold Pn;conv=>whnf
 refine Ew (x:=ar.cells [hX left.1,hX left.2]) (by first | exact q6.h | rfl | (simp [sr,I.settle];done)) ?_
 conv=>whnf
 refine ⟨.bool (decide (left=(0,0))),_,fun C=>Xa rfl rfl (aa5 (fs:=acU Tryz.prog 117) (by kernel_rfl) (by kernel_rfl) (by kernel_rfl) (by kernel_rfl) (by kernel_rfl) _ _ _ _ (.inl rfl)),?_⟩;conv=>whnf
 by_cases bj:left=(0,0)
 ·rw [decide_eq_true bj];conv=>whnf
  rw [decide_eq_true bj] at bo;exact bo _ _ _ ⟨.inr rfl,lF.refl _,rfl⟩
 ·rw [decide_eq_false bj];rw [decide_eq_false bj] at bo;conv=>whnf
  by_cases aq:b.1.2.1=b.1.2.2
  ·rw [decide_eq_true aq];rw [decide_eq_true aq] at bo;(conv=>whnf);refine Ew (x:=ar.cells [hX left.1,hX left.2]) (by first | exact q6.h | rfl | (simp [sr,I.settle];done)) ?_
   (conv=>whnf);refine Ew (x:=ar.cells [hX left.1,hX left.2]) (by first | exact q6.h | rfl | (simp [sr,I.settle];done)) ?_
   (conv=>whnf);exact bo _ _ _ ⟨.inr rfl,lF.refl _,rfl⟩
  ·rw [decide_eq_false aq];rw [decide_eq_false aq] at bo;(conv=>whnf);exact bo _ _ _ ⟨.inr rfl,lF.refl _,rfl⟩
theorem Y9 {b:r_} {order:List Int} {cu:Int} {left:ra} {A:rr} {v:List qB×Bool} (h:(match JC A (if b.1.2.1=b.1.2.2 then (w (w (-left.1)-w (left.2*b.1.2.1)),0) else (w (-left.1),w (-left.2))) with
  | none=>some ([],false)
  | some s=>qq (0≤cu∧cu<(order.length:Int)) <| some ([(ix order cu,s)],true))=some v) {m lo p10 id c:Nat} {H:List ar} {Zf Zk Zl Zm PI Zn PK Za:I} (bC:lo≤H.length) (dk:H[p10]?=some (.cells [hX left.1,hX left.2])) (aE:H[id]?=some (.map (ry A) c)) {Q:cN→List I→List ar→Prop}
  (bo:∀ T bw bJ,(rZ (H++[bw,bJ]) T [.tmp 8,.tmp 9]).map jd=some (.tuple [.av (v.1.flatMap qx) v.1.length .shared,B v.2])→Q .ret T (H++[bw,bJ])) :
  dN Tryz.prog L5 60 lo none NV (qf 129 [(0,r0 b m),(1,.av (order.map hX) order.length .shared),(3,.av [hX cu] 1 (.own 1)),(8,Zn),(9,PK),(10,.ptr p10 0),(11,.bool (decide (b.1.2.1=b.1.2.2))),(12,.map id),(13,Za),(36,Zf),(58,Zk),(72,Zl),(73,Zm),(78,PI)]) H Q:=by
 have Kx:∀ Z,(H++Z)[p10]?=some (.cells [hX left.1,hX left.2]):=fun Z=>by rw [sk (sd.1 dk).1];exact dk
 have gid:∀ Z,(H++Z)[id]?=some (.map (ry A) c):=fun Z=>by rw [sk (sd.1 aE).1];exact aE
 obtain ⟨JJ,ND⟩:∃ JJ,JJ=(if b.1.2.1=b.1.2.2 then (w (w (-left.1)-w (left.2*b.1.2.1)),0) else (w (-left.1),w (-left.2))):=⟨_,rfl⟩;rw [←ND] at h;have fin:∀ v0 Zo,dN Tryz.prog L5 60 lo none Pq (qf 129 [(0,v0),(1,.av (order.map hX) order.length .shared),(3,.av [hX cu] 1 (.own 1)),(8,Zn),(9,PK),(10,.ptr p10 0),(12,.map id),(13,Za),(14,.ptr H.length 0),(36,Zf),(58,Zk),(72,Zl),(73,Zm),(78,PI),(97,Zo)]) (H++[ar.cells [hX JJ.1,hX JJ.2]]) Q:=by
  intro v0 Zo;unfold Pq;obtain ⟨fY,Ho⟩:∃ c,Pp=c:=⟨_,rfl⟩;rw [Ho];conv=>whnf
  refine Ew (x:=ar.cells [hX JJ.1,hX JJ.2]) (by first | exact q6.h | rfl | (simp [sr,I.settle];done)) ?_
  conv=>whnf
  rcases aeG JJ A with ⟨s,i,e,aJ,aN,b',hn⟩ | ⟨aJ,aN⟩
  ·rw [aJ] at h;obtain ⟨jQ,h⟩:=rV h;obtain rfl:=Option.some.inj h;refine ⟨rfl,_,_,gid _,some i,aN,e,b',?_⟩;rw [hn];(conv=>whnf);rw [tw (show lo≤(H++[ar.cells [hX JJ.1,hX JJ.2]]).length by simp;omega)];refine Ew (x:=ar.cells [hX 0,hX 0]) (by first | exact q6.h | rfl | (simp [sr,I.settle];done)) ?_
   (conv=>whnf);rw [HJ];subst Ho;unfold Pp Yg;(conv=>whnf);refine ⟨⟨sY _,by decide⟩,?_⟩;(conv=>whnf);refine ⟨jQ,?_⟩;rw [ri hX order cu jQ];(conv=>whnf);refine Ew (x:=ar.cells [hX s.1,hX s.2]) (by first | exact q6.h | rfl | (simp [sr,I.settle];done)) ?_
   (conv=>whnf);rw [sC];exact bo _ _ _ rfl
  ·rw [aJ] at h;obtain rfl:=Option.some.inj h;refine ⟨rfl,_,_,gid _,none,aN,_,rfl,?_⟩;(conv=>whnf);rw [tw (show lo≤(H++[ar.cells [hX JJ.1,hX JJ.2]]).length by simp;omega)];refine Ew (x:=ar.cells [hX 0,hX 0]) (by first | exact q6.h | rfl | (simp [sr,I.settle];done)) ?_
   (conv=>whnf);rw [HJ];subst Ho;unfold Pp;(conv=>whnf);rw [sC];exact bo _ _ _ rfl
 unfold NV;obtain ⟨nr,Mc⟩:∃ c,Pq=c:=⟨_,rfl⟩;obtain ⟨b5,iM⟩:∃ c,SF=c:=⟨_,rfl⟩;rw [Mc,iM];conv=>whnf
 refine Ew dk ?_;conv=>whnf
 refine Ew dk ?_;conv=>whnf
 rw [tw bC];refine Ew (x:=ar.cells [hX 0,hX 0]) (by first | exact q6.h | rfl | (simp [sr,I.settle];done)) ?_
 conv=>whnf
 rw [HJ];by_cases aq:b.1.2.1=b.1.2.2
 ·rw [decide_eq_true aq];rw [if_pos aq] at ND;conv=>whnf
  subst iM;unfold SF;conv=>whnf
  refine Ew (Kx _) ?_;conv=>whnf
  refine Ew (Kx _) ?_;conv=>whnf
  rw [tw bC];refine Ew (x:=ar.cells [hX (w (-left.1)),hX (w (-left.2))]) (by first | exact q6.h | rfl | (simp [sr,I.settle];done)) ?_
  conv=>whnf
  rw [HJ];subst Mc;rw [ND] at fin;exact fin _ _
 ·rw [decide_eq_false aq];rw [if_neg aq] at ND;conv=>whnf
  subst Mc;rw [ND] at fin;exact fin _ _
theorem Vi {H:List ar} {bw bJ:ar}:lF (H++[bw,bJ]) (H++[.dead,.dead]):=by
 refine ⟨by simp,fun id o aq=>?_⟩;by_cases h:id<H.length
 ·rw [sk h] at aq ⊢;exact .inr aq
 ·rw [List.getElem?_append_right (by omega)] at aq;refine .inl ?_
  match ae:id-H.length with
  | 0=>rw [ae] at aq;exact (Option.some.inj aq).symm
  | 1=>rw [ae] at aq;exact (Option.some.inj aq).symm
  | n+2=>rw [ae] at aq;cases aq
theorem ZW {b:r_} {order:List Int} {qn cu:Int} {v:List qB×Bool} (h:Iw b order qn [cu]=some v) {m lo:Nat} {H:List ar} (bC:lo≤m) (bF:HW b m H) :
  ∃ H',HW b m H'∧Ii m H H'∧Sem Tryz.prog (.fn 60) [r0 b m,.av (order.map hX) order.length .shared,hX qn,.av [hX cu] 1 (.uniq 1)] H lo (.tuple [.av (v.1.flatMap qx) v.1.length .shared,B v.2]) H':=by
 unfold Iw at h;obtain ⟨left,ao,h⟩:=p' h;obtain ⟨x,aj,h⟩:=p' h;obtain ⟨A,aL,h⟩:=p' h;have OW:=bF;obtain ⟨es,IW,hm,Jy⟩:=OW;have en:=(sd.1 hm).1;have V0:∀ Z,(H++Z)[m]?=some (.map es IW):=fun Z=>by rw [sk en];exact hm
 have aj4:([r0 b m,.av (order.map hX) order.length .shared,hX qn,.av [hX cu] 1 .shared]:List I).map I.gr=[lj b,.av (order.map hX) order.length .shared,hX qn,.av [hX cu] 1 .shared]:=rfl;have start:∀ (Q:cN→List I→List ar→Prop),dN Tryz.prog L5 60 lo none MD (qf 129 [(0,r0 b m),(1,.av (order.map hX) order.length .shared),(3,.av [hX cu] 1 (.own 1)),(8,.av [] 0 (.uniq 3)),(9,.bool false),(10,.ptr H.length 0),(11,.bool (decide (b.1.2.1=b.1.2.2))),(36,.bool false)]) (H++[ar.cells [hX left.1,hX left.2]]) Q →
   dN Tryz.prog L5 60 lo none Pm (qf 129 [(0,r0 b m),(1,.av (order.map hX) order.length .shared),(2,hX qn),(3,.av [hX cu] 1 (.uniq 1))]) H Q:=by
  intro Q a_;unfold Pm SD;obtain ⟨ab3,Kx⟩:∃ c,NU=c:=⟨_,rfl⟩;rw [Kx];conv=>whnf
  refine ⟨_,_,call9 (bs:=[lj b,.av (order.map hX) order.length .shared,hX qn,.av (([cu]:List Int).map hX) ([cu]:List Int).length .shared]) rfl (p9 (Ic b) (p9 (rL (fun _=>rfl) _ _ _) (p9 rfl (p9 rfl rfl)))) (P6 ao),?_⟩;conv=>whnf
  rw [tw (show lo≤H.length by omega)];refine Ew (x:=ar.cells [hX 0,hX 0]) (by first | exact q6.h | rfl | (simp [sr,I.settle];done)) ?_
  conv=>whnf
  rw [HJ];subst Kx;unfold NU;obtain ⟨B9,K_⟩:∃ c,MD=c:=⟨_,rfl⟩;obtain ⟨a7,cc⟩:∃ c,Pn=c:=⟨_,rfl⟩;rw [K_,cc];conv=>whnf
  subst K_;exact a_
 have adD:∀ e∈es,∃ y:Int,e.2.1=hX y:=fun e he=>by
  obtain ⟨y,_,_,_,ab,_⟩:=Jy e he;exact ⟨y,ab⟩
 rcases Vj (x:=x) (n:=0) adD with ⟨i,e,aJ,aN,b'⟩ | aJ
 ·obtain ⟨y,id,c,TS,aA,aG,aT,bq,bf⟩:=Jy e (sA aN);rw [b'] at aA;have adR:x=y:=by injection aA
  subst adR;rw [aL] at bf;obtain rfl:=Option.some.inj bf;rw [sG] at aJ;refine ⟨(H++[ar.cells [hX left.1,hX left.2]])++[.dead,.dead],(bF.more _).more _,⟨by simp,fun j _ aw=>by rw [sC,sk aw]⟩,?_⟩;refine rK eD R1 rfl (by rw [sC];exact a'.append _ _ _) fun Q bo=>?_;refine start Q ?_;unfold MD;obtain ⟨br,eP⟩:∃ c,Po=c:=⟨_,rfl⟩;obtain ⟨ns,Jv⟩:∃ c,NV=c:=⟨_,rfl⟩;rw [eP,Jv];conv=>whnf
  refine ⟨⟨sY _,by decide⟩,?_⟩;conv=>whnf
  refine ⟨_,_,call9 (bs:=[lj b,hX cu]) rfl (p9 (Ic b) (p9 rfl rfl)) (K1 aj),?_⟩;conv=>whnf
  refine ⟨rfl,_,_,V0 _,some i,aJ,e,aN,?_⟩;rw [aG];conv=>whnf
  subst Jv;refine Y9 (A:=A) (c:=c) h (by simp;omega) (I2 _ _) (by rw [sk (sd.1 bq).1];exact bq) fun T bw bJ ai=>?_;exact bo _ _ _ ⟨.inr rfl,Vi,ai⟩
 ·obtain ⟨c,D,cl⟩:=ajm aL;obtain ⟨H1,bV⟩:∃ H1,H1=H++[ar.cells [hX left.1,hX left.2]]:=⟨_,rfl⟩;have jR:H1.length=H.length+1:=by rw [bV];simp
  have nM:H1[m]?=some (.map es IW):=by rw [bV];exact V0 _
  obtain ⟨H2,cf⟩:∃ H2,H2=(H1++[ar.map (ry A) c]).set m (.map (es++[(IW,hX x,.map H1.length)]) (IW+1)):=⟨_,rfl⟩;have eC:H2.length=H.length+2:=by rw [cf];simp [jR]
  have aO:∀ j,j≠m→H2[j]?=(H1++[ar.map (ry A) c])[j]?:=fun j aw=>by rw [cf,sf (by omega)]
  have VW:H2[H1.length]?=some (.map (ry A) c):=by rw [aO _ (by omega)];exact I2 _ _
  have ady:H2[m]?=some (.map (es++[(IW,hX x,.map H1.length)]) (IW+1)):=by rw [cf];exact sn (by simp;omega)
  have ac0:HW b m H2:=by
   refine ⟨_,_,ady,fun e he=>?_⟩;rcases sU.1 he with he | he
   ·obtain ⟨y,id,dR,TS,aA,aG,aT,bq,bf⟩:=Jy e he;have aE:=(sd.1 bq).1;refine ⟨y,id,dR,TS,aA,aG,aT,?_,bf⟩;rw [aO _ aT,bV,sC,sk aE];exact bq
   ·obtain rfl:=sK.1 he;exact ⟨x,H1.length,c,A,rfl,rfl,by omega,VW,aL⟩
  refine ⟨H2++[.dead,.dead],ac0.more _,⟨by simp [eC];omega,fun j aw ml=>?_⟩,?_⟩
  ·rw [sk (by omega),aO _ aw,bV,sC,sk ml]
  have J7:a' lo H (H2++[.dead,.dead]):=by
   refine ⟨by simp [eC];omega,fun j ab ae=>?_⟩;rw [sk (by omega),aO _ (by omega),bV,sC,sk (by omega)]
  refine rK eD R1 rfl J7 fun Q bo=>?_;refine start Q ?_;rw [←bV];unfold MD;obtain ⟨br,eP⟩:∃ c,Po=c:=⟨_,rfl⟩;obtain ⟨ns,Jv⟩:∃ c,NV=c:=⟨_,rfl⟩;rw [eP,Jv];conv=>whnf
  refine ⟨⟨sY _,by decide⟩,?_⟩;conv=>whnf
  refine ⟨_,_,call9 (bs:=[lj b,hX cu]) rfl (p9 (Ic b) (p9 rfl rfl)) (K1 aj),?_⟩;conv=>whnf
  refine ⟨rfl,_,_,nM,none,aJ,_,rfl,?_⟩;conv=>whnf
  subst eP;unfold Po;obtain ⟨a9,b_⟩:∃ c,SE=c:=⟨_,rfl⟩;rw [b_];conv=>whnf
  refine ⟨⟨sY _,by decide⟩,?_⟩;conv=>whnf
  refine ⟨_,_,call9 (bs:=[lj b,hX cu]) rfl (p9 (Ic b) (p9 rfl rfl)) (K1 aj),?_⟩;conv=>whnf
  have zg:∀ (j i:Nat) (k v:I),(ry A)[j]?=some (i,k,v)→cn 8 k=true∧cn 8 v=true:=fun j i k v aw=>by
   obtain ⟨a,_,cq⟩:=sH.1 (sA aw);obtain ⟨_,ae⟩:=Prod.mk.inj cq;obtain ⟨rfl,rfl⟩:=Prod.mk.inj ae;exact ⟨H3 (p9 rfl (p9 rfl rfl)),H3 (p9 rfl (p9 rfl rfl))⟩
  refine ⟨_,_,ab6 (args:=[r0 b m,hX x]) (es:=ry A) (clock:=c) (D:=D) (p9 (Ic b) (p9 rfl rfl)) zg cl _ _,?_⟩;conv=>whnf
  subst b_;unfold SE;conv=>whnf
  refine ⟨⟨sY _,by decide⟩,?_⟩;conv=>whnf
  refine ⟨_,_,call9 (bs:=[lj b,hX cu]) rfl (p9 (Ic b) (p9 rfl rfl)) (K1 aj),?_⟩;conv=>whnf
  rw [tw bC];refine ⟨rfl,es,IW,by rw [sk (by omega)];exact nM,none,aJ,?_⟩;conv=>whnf
  rw [←cf];subst Jv;refine Y9 (A:=A) (c:=c) (p10:=H.length) (id:=H1.length) h (by omega) (by rw [aO _ (by omega),sk (by omega),bV];exact I2 _ _) VW fun T bw bJ ai=>?_;exact bo _ _ _ ⟨.inr rfl,Vi,ai⟩

noncomputable def Qw:gB :=
 .loop (some (qb false [0,4,6,1,59])) (.seq (p5 [p6 53 10,p6 54 2,qp 55 53 54 .leq] (.cond (.m_ 55) .skip (.exit 0))) (.seq (.block 1 (.seq (rh [p6 58 0,p3 59 [.jm 58,.cv (.int .i64 1)] (.Bh 1 true false false),p6 60 1,p6 61 2,p6 62 3,p6 63 0,p3 64 [.Bs 63,.cv (.int .i64 0)] (.kV 1),ql 65 64,p6 66 10,qp 67 65 66 .mul,qp 68 62 67 .sub,p3 69 [.cv (.func 83 [] []),.m_ 59,.m_ 60,.m_ 61,.m_ 68] (.call 3)]) (.cond (.m_ 69) (p5 [p3 8 [.cv (.bool true)] .mR] .ret) .skip))) (qE [p4 56 10,qV 57 56 1,p4 10 57])))
noncomputable def aaT:gB :=
 p5 [p3 8 [.cv (.bool false)] .mR] (.seq (p5 [p6 11 0,qZ 12 11,qu 13 12 0 .eql] (.cond (.m_ 13) (p5 [p4 14 3,qu 15 14 0 .eql,p4 8 15] .ret) .skip)) (.seq (p5 [p6 16 0,qZ 17 16,qu 18 17 1 .eql] (.cond (.m_ 18) (p5 [p4 19 0,p3 20 [.Bs 19,.cv (.int .i64 0)] (.kV 1),ql 21 20,p4 9 21] (p5 [p6 22 9,qu 23 22 0 .neq,p4 24 23,ch 25 [.m_ 3] 24 true .mR,ch 26 [.m_ 9] 24 true .mR,ch 27 [.Bs 25,.Bs 26] 24 true (.bin .rem),ch 28 [.Bs 27,.cv (.int .i64 0)] 24 true (.bin .eql),p3 29 [.Bs 24,.Bs 28,.cv (.bool false)] .pick,p4 30 29,ch 31 [.m_ 3] 30 true .mR,ch 32 [.m_ 9] 30 true .mR,ch 33 [.Bs 31,.Bs 32] 30 true (.bin .quo),ch 34 [.jm 1] 30 true .mR,ch 35 [.Bs 33,.Bs 34] 30 true (.bin .geq),p3 36 [.Bs 30,.Bs 35,.cv (.bool false)] .pick,p4 37 36,ch 38 [.m_ 3] 37 true .mR,ch 39 [.m_ 9] 37 true .mR,ch 40 [.Bs 38,.Bs 39] 37 true (.bin .quo),ch 41 [.jm 2] 37 true .mR,ch 42 [.Bs 40,.Bs 41] 37 true (.bin .leq),p3 43 [.Bs 37,.Bs 42,.cv (.bool false)] .pick,p4 44 43,ch 45 [.jm 9] 44 false .mR,ch 46 [.Bs 45,.cv (.int .i64 0)] 44 false (.bin .eql),ch 47 [.jm 46] 44 false .mR,ch 48 [.jm 3] 47 true .mR,ch 49 [.Bs 48,.cv (.int .i64 0)] 47 true (.bin .eql),ch 50 [.Bs 47,.Bs 49,.cv (.bool false)] 44 false .pick,p3 51 [.Bs 44,.cv (.bool true),.Bs 50] .pick,p4 8 51] .ret)) .skip)) (.seq (p5 [p6 52 1,p4 10 52] (.block 0 Qw)) (p5 [p3 8 [.cv (.bool false)] .mR] .ret))))
theorem afv:qt Tryz.prog QX 83=some (aaT,70,[.tmp 8]):=by kernel_rfl
def Ou (places:qa) (lo hi sum:Int) (rcF:(qa→Int→Int→Int→Option Bool)) (qc:Unit→Option Bool):Nat→Int→Option Bool
 | 0,_=>none
 | m+1,s1 =>
   if (decide (s1≤hi))=true then
    qq (0≤(1:Int)∧(1:Int)≤(places.length:Int)) <|
    qq (0≤(0:Int)∧(0:Int)<(places.length:Int)) <|
    (rcF (places.drop (1:Int).toNat) lo hi (w (sum-(w ((ix places (0:Int))*s1))))).bind fun aS =>
    if aS=true then
     some true
    else
     Ou places lo hi sum rcF qc m (w (s1+(1:Int)))
   else
    qc ()
def LZ (rcF:qa→Int→Int→Int→Option Bool) (places:qa) (lo hi sum:Int):Option Bool :=
 if (decide ((places.length:Int)=(0:Int)))=true then
  some (decide (sum=(0:Int)))
 else
  if (decide ((places.length:Int)=(1:Int)))=true then
   qq (0≤(0:Int)∧(0:Int)<(places.length:Int)) <|
   if (decide ((ix places (0:Int))≠(0:Int)))=true then
    qq ((ix places (0:Int))≠0) <|
    if (decide ((sum.tmod (ix places (0:Int)))=(0:Int)))=true then
     qq ((ix places (0:Int))≠0) <|
     if (decide (lo≤(w (sum.tdiv (ix places (0:Int))))))=true then
      qq ((ix places (0:Int))≠0) <|
      if (decide ((w (sum.tdiv (ix places (0:Int))))≤hi))=true then
       some true
      else
       if (decide ((ix places (0:Int))=(0:Int)))=true then
        some (decide (sum=(0:Int)))
       else
        some false
     else
      if (decide ((ix places (0:Int))=(0:Int)))=true then
       some (decide (sum=(0:Int)))
      else
       some false
    else
     if (decide ((ix places (0:Int))=(0:Int)))=true then
      some (decide (sum=(0:Int)))
     else
      some false
   else
    if (decide ((ix places (0:Int))=(0:Int)))=true then
     some (decide (sum=(0:Int)))
    else
     some false
  else
   Ou places lo hi sum rcF (fun _ =>
     some false) qh lo
def M6:Nat→qa→Int→Int→Int→Option Bool
 | 0=>fun _ _ _ _=>none
 | m+1=>fun places lo hi sum=>LZ (M6 m) places lo hi sum
def JN (places:qa) (lo hi sum:Int):Option Bool:=M6 qh places lo hi sum
theorem ajo {places:qa} {lo:Int} {hi:Int} {sum:Int} {rcF:(qa→Int→Int→Int→Option Bool)} {qc:Unit→Option Bool} {s1:Int} (SZ:∀ {rf:qa} {BD:Int} {BE:Int} {Oz:Int} {r:Bool},rcF rf BD BE Oz=some r→qv 83 [(.av (rf.map hX) rf.length .shared),(hX BD),(hX BE),(hX Oz)] (B r)) {v:Bool} {Q:cN→List I→List ar→Prop}   (jG:qK [.tmp 8] Q (fun v=>(B v)) v) (q':∀ (qe:List I),qc ()=some v→rk 70 [] qe→Q (.exit 0) qe []) {T:List I} (bZ:eW (qb false [0,4,6,1,59]) T=qf 70 [(0,(.av (places.map hX) places.length .shared)),(1,(hX lo)),(2,(hX hi)),(3,(hX sum)),(10,(hX s1))]) (h:Ou places lo hi sum rcF qc qh s1=some v) :
  dN Tryz.prog QX 83 0 none Qw T [] Q:=by
 unfold Qw;refine wp_loop bZ ?_;refine .intro (fun m T H=>∃ (s1:Int),T=qf 70 [(0,(qy places .shared)),(1,(hX lo)),(2,(hX hi)),(3,(hX sum)),(10,(hX s1))]∧H=[]∧Ou places lo hi sum rcF qc m s1=some v) qh ⟨s1,rfl,rfl,h⟩ ?_;clear h bZ;rintro m T H ⟨s1,rfl,rfl,h⟩;cases m
 ·exact rz h
 rename_i m;rw [Ou.eq_2] at h;conv=>whnf
 refine bs h (fun HH h=>?_) fun HH h=>?_
 ·rw [HH];conv=>whnf
  refine qD h id fun Jg h=>?_;erw [YT hX places (1:Int) Jg];conv=>whnf
  refine qD h id fun Ip h=>?_;rw [ri hX places (0:Int) Ip];conv=>whnf
  obtain ⟨aS,Jh,h⟩:=p' h;refine ⟨qi.pl,_,SZ Jh,rB,?_⟩;conv=>whnf
  cases aS
  ·(conv=>whnf);replace h:=rp rfl h;exact ⟨m,sg m,(w (s1+(1:Int))),rfl,rfl,h⟩
  ·(conv=>whnf);replace h:=rn rfl h;exact qd h jG rfl rfl
 ·rw [HH];conv=>whnf
  exact q'  _ h ⟨rfl,rfl⟩
theorem ajn {rcF:qa→Int→Int→Int→Option Bool} (SZ:∀ {rf:qa} {BD:Int} {BE:Int} {Oz:Int} {r:Bool},rcF rf BD BE Oz=some r→qv 83 [(.av (rf.map hX) rf.length .shared),(hX BD),(hX BE),(hX Oz)] (B r)) {places:(List Int)} {lo:Int} {hi:Int} {sum:Int} {v:Bool} (h:LZ rcF places lo hi sum=some v):qv 83 [(.av (places.map hX) places.length .shared),(hX lo),(hX hi),(hX sum)] (B v):=by
 refine qN eD afv rfl rfl fun Q bo=>?_;have jG:qK [.tmp 8] Q (fun v=>(B v)) v:=fun T H bD=>bo _ T H bD;unfold LZ at h;unfold aaT;obtain ⟨r9,qC⟩:∃ c,Qw=c:=⟨_,rfl⟩;rw [qC];conv=>whnf
 refine bs h (fun gJ h=>?_) fun gJ h=>?_
 ·rw [gJ];conv=>whnf
  exact qd h jG rfl rfl
 ·rw [gJ];conv=>whnf
  refine bs h (fun gK h=>?_) fun gK h=>?_
  ·rw [gK];(conv=>whnf);refine qD h id fun qs h=>?_;rw [ri hX places (0:Int) qs];(conv=>whnf);refine bs h (fun qG h=>?_) fun qG h=>?_
   ·rw [qG];(conv=>whnf);refine qD h id fun qW h=>?_;(conv=>whnf);refine bs h (fun q8 h=>?_) fun q8 h=>?_
    ·rw [q8];(conv=>whnf);refine qD h id fun qR h=>?_;(conv=>whnf);refine bs h (fun rb h=>?_) fun rb h=>?_
     ·rw [rb];(conv=>whnf);refine qD h id fun q9 h=>?_;(conv=>whnf);refine bs h (fun rv h=>?_) fun rv h=>?_
      ·rw [rv];(conv=>whnf);exact qd h jG rfl rfl
      ·rw [rv];(conv=>whnf);refine bs h (fun Hi h=>?_) fun Hi h=>?_
       ·rw [Hi];(conv=>whnf);exact qd h jG rfl rfl
       ·rw [Hi];(conv=>whnf);exact qd h jG rfl rfl
     ·rw [rb];(conv=>whnf);refine bs h (fun Hp h=>?_) fun Hp h=>?_
      ·rw [Hp];(conv=>whnf);exact qd h jG rfl rfl
      ·rw [Hp];(conv=>whnf);exact qd h jG rfl rfl
    ·rw [q8];(conv=>whnf);refine bs h (fun Hv h=>?_) fun Hv h=>?_
     ·rw [Hv];(conv=>whnf);exact qd h jG rfl rfl
     ·rw [Hv];(conv=>whnf);exact qd h jG rfl rfl
   ·rw [qG];(conv=>whnf);refine bs h (fun HZ h=>?_) fun HZ h=>?_
    ·rw [HZ];(conv=>whnf);exact qd h jG rfl rfl
    ·rw [HZ];(conv=>whnf);exact qd h jG rfl rfl
  ·rw [gK];(conv=>whnf);subst qC;refine ajo SZ ?_ ?_ (by exact rfl) h
   ·exact fun T H bD=>jG T H bD
   ·intro  qe h qz;obtain ⟨rq,rfl⟩:=qz.ex;(conv=>whnf);exact qd h jG rfl rfl
theorem Z6:∀ (m:Nat) {places:qa} {lo:Int} {hi:Int} {sum:Int} {v:Bool},M6 m places lo hi sum=some v→qv 83 [(.av (places.map hX) places.length .shared),(hX lo),(hX hi),(hX sum)] (B v)
 | 0,_,_,_,_,_,h=>rz h
 | m+1,_,_,_,_,_,h=>ajn (rcF:=M6 m) (fun h=>Z6 m h) h
theorem TF {places:qa} {lo:Int} {hi:Int} {sum:Int} {v:Bool} (h:JN places lo hi sum=some v):qv 83 [(.av (places.map hX) places.length .shared),(hX lo),(hX hi),(hX sum)] (B v):=Z6 qh h

noncomputable def Qn:gB :=
 .loop (some (qb false [1,1,1,2,4,4,74])) (.seq (p5 [p6 17 12,p6 18 1,qZ 19 18,qp 20 17 19 .lss] (.cond (.m_ 20) .skip (.exit 0))) (.seq (.block 1 (.seq (rh [p3 23 [.m_ 4] (.yM 0),ql 24 23,p6 25 1,p6 26 12,rm 27 25 26 1,ql 28 27,rm 29 24 28 2,p3 30 [.Bs 29] (.zE (.str 2)),p6 31 12,p6 32 1,qZ 33 32,p3 34 [.cv (.func 82 [] []),.m_ 31,.m_ 33] (.call 3),p3 13 [] (.alloc [.int .i64 0,.int .i64 0]),⟨none,[.m_ 13,.jm 30],none,none,.st 2⟩,p4 14 34]) (p5 [p6 35 3,p6 36 12,qp 37 35 36 .shr,qu 38 37 1 .and,qu 39 38 1 .eql] (.cond (.m_ 39) (qE [p4 40 9,p4 41 14,p3 42 [.Bs 41] (.yB 1 1 [.int .i64 0] [0]),p3 43 [.jm 40,.jm 42] (.app 1 8),p4 9 43]) (rh [p4 44 10,p6 45 14,p3 46 [.m_ 13] (.yM 0),ql 47 46,qp 48 45 47 .mul,qp 49 44 48 .add,p4 50 11,p6 51 14,p3 52 [.m_ 13] (.yM 1),ql 53 52,qp 54 51 53 .mul,qp 55 50 54 .add,p4 10 49,p4 11 55]))))) (qE [p4 21 12,qV 22 21 2,p4 12 22])))
noncomputable def aaH:gB :=
 p5 [p3 4 [.jm 0] .box,p3 8 [.cv (.bool false)] .mR] (p5 [p3 9 [.cv (.av [] 0 .full)] (.nil 1)] (p5 [qg 10 0,qg 11 0] (.seq (p5 [p4 16 2,p4 12 16] (.block 0 Qn)) (p5 [p3 56 [.m_ 4] (.yM 1),qJ 57 56 0,ql 58 57,p4 15 58] (.seq (p5 [p6 59 15,qJ 60 4 1,qJ 61 60 1,ql 62 61,qp 63 59 62 .eql] (.cond (.m_ 63) (p5 [p4 64 9,p6 65 15,p3 66 [.cv (.int .i64 (-10)),.Bs 65] (.bin .mul),p6 67 15,p3 68 [.cv (.int .i64 10),.Bs 67] (.bin .mul),p3 69 [.cv (.int .i64 100),.Bs 68] (.bin .add),p4 70 10,p3 71 [.Bs 70] (.un .neg),p4 72 11,p4 73 15,qp 74 72 73 .mul,qp 75 71 74 .sub,p3 76 [.cv (.func 83 [] []),.m_ 64,.m_ 66,.m_ 69,.m_ 75] (.call 3),p4 8 76] .ret) .skip)) (p5 [p6 77 9,p4 78 10,p3 79 [.Bs 78] (.un .neg),p3 80 [.cv (.func 83 [] []),.m_ 77,.cv (.int .i64 0),.cv (.int .i64 100),.m_ 79] (.call 3),p4 81 80,ch 82 [.jm 9] 81 true .mR,ch 83 [.jm 11] 81 true .mR,ch 84 [.Bs 83] 81 true (.un .neg),⟨some 85,[.cv (.func 83 [] []),.m_ 82,.cv (.int .i64 (-10)),.cv (.int .i64 10),.m_ 84],some (81,true),none,.call 3⟩,p3 86 [.Bs 81,.Bs 85,.cv (.bool false)] .pick,p4 8 86] .ret))))))
theorem afj:qt Tryz.prog QR 61=some (aaH,87,[.tmp 8]):=by kernel_rfl
def KZ (p:(qj×(Int×Int))) (order:qa) (bits:Int) (qc:qa→Int→Int→Option Bool):Nat→qa→Int→Int→Int→Option Bool
 | 0,_,_,_,_=>none
 | m+1,s1,s2,dh,G' =>
   if (decide (G'<(order.length:Int)))=true then
    qq (0≤G'∧G'<(order.length:Int)) <|
    qq (0≤(ix order G')∧(ix order G')<(p.1.length:Int)) <|
    (LY G' (order.length:Int)).bind fun aS =>
    qq (0≤G') <|
    if (decide ((w ((BitVec.ofInt IntKind.i64.bits (bits.fdiv (2 ^ (Nat.min G'.toNat IntKind.i64.bits))) &&& BitVec.ofInt IntKind.i64.bits (1:Int)).toNat:Int))=(1:Int)))=true then
     qq ((s1.length+1)*8≤140737488355328) <|
     KZ p order bits qc m (s1++[aS]) s2 dh (w (G'+(2:Int)))
    else
     KZ p order bits qc m s1 (w (s2+(w (aS*(ix p.1 (ix order G')).1)))) (w (dh+(w (aS*(ix p.1 (ix order G')).2)))) (w (G'+(2:Int)))
   else
    qc s1 s2 dh
def H6 (p:(qj×(Int×Int))) (order:qa) (qn bits:Int):Option Bool :=
 KZ p order bits (fun yn oS Gz =>
   if (decide (p.2.1=p.2.2))=true then
    (JN yn (w ((-10:Int)*p.2.1)) (w ((100:Int)+(w ((10:Int)*p.2.1)))) (w ((w (-oS))-(w (Gz*p.2.1))))).bind fun bh =>
    some bh
   else
    (JN yn (0:Int) (100:Int) (w (-oS))).bind fun eH =>
    if eH=true then
     (JN yn (-10:Int) (10:Int) (w (-Gz))).bind fun qP =>
     some qP
    else
     some false) qh ([]:List Int) (0:Int) (0:Int) qn
theorem aja {p:(qj×(Int×Int))} {order:qa} {bits:Int} {qc:qa→Int→Int→Option Bool} {s1:qa} {s2:Int} {dh:Int} {G':Int} {v:Bool} {Q:rR}   (q':∀ (yn:qa) (oS:Int) (Gz:Int) (Js:List ar) (qe:List I),qc yn oS Gz=some v→rk 87 [(4,(.ptr 0 0)),(9,(qy yn (.uniq 1))),(10,(hX oS)),(11,(hX Gz))] qe→Q (.exit 0) qe (ar.cells [(qY p.1 .shared),(hX p.2.1),(hX p.2.2)]::Js)) {T:List I} (bZ:eW (qb false [1,1,1,2,4,4,74]) T=qf 87 [(1,(qy order .shared)),(3,(hX bits)),(4,(.ptr 0 0)),(9,(qy s1 (.uniq 1))),(10,(hX s2)),(11,(hX dh)),(12,(hX G'))]) (h:KZ p order bits qc qh s1 s2 dh G'=some v) :
  dN Tryz.prog QR 61 0 none Qn T [ar.cells [(qY p.1 .shared),(hX p.2.1),(hX p.2.2)]] Q:=by
 unfold Qn;refine wp_loop bZ ?_;refine .intro (fun m T H=>∃ (s1:qa) (s2:Int) (dh:Int) (G':Int) (T1:List ar),T=qf 87 [(1,(qy order .shared)),(3,(hX bits)),(4,(.ptr 0 0)),(9,(qy s1 (.uniq 1))),(10,(hX s2)),(11,(hX dh)),(12,(hX G'))]∧H=(ar.cells [(qY p.1 .shared),(hX p.2.1),(hX p.2.2)]::T1)∧KZ p order bits qc m s1 s2 dh G'=some v) qh ⟨s1,s2,dh,G',[],rfl,rfl,h⟩ ?_;clear h bZ;rintro m T H ⟨s1,s2,dh,G',T1,rfl,rfl,h⟩;cases m
 ·exact rz h
 rename_i m;rw [KZ.eq_2] at h;conv=>whnf
 refine bs h (fun gJ h=>?_) fun gJ h=>?_
 ·rw [gJ];conv=>whnf
  refine qD h id fun gK h=>?_;rw [ri hX order G' gK];conv=>whnf
  refine qD h id fun qs h=>?_;rw [IY p_ 2 Lo p.1 (ix order G') qs];conv=>whnf
  obtain ⟨aS,qG,h⟩:=p' h;refine ⟨(p9 rfl (p9 rfl rfl)),_,Z5 qG,rB,?_⟩;conv=>whnf
  refine Ew (x:=ar.cells [(hX (0:Int)),(hX (0:Int))]) (by first | exact q6.h | rfl | (simp [sr,I.settle];done)) ?_
  conv=>whnf
  rw [HJ];refine qD h id fun qW h=>?_;conv=>whnf
  refine bs h (fun q8 h=>?_) fun q8 h=>?_
  ·rw [q8];(conv=>whnf);obtain ⟨qR,h⟩:=rV h;refine ⟨by first | rfl | simp,by have:=qR;omega,rfl,qR,?_⟩
   erw [L6 hX s1 aS];(conv=>whnf);exact ⟨m,sg m,(s1++[aS]),s2,dh,(w (G'+(2:Int))),_,rfl,rfl,h⟩
  ·rw [q8];(conv=>whnf);refine Ew (x:=ar.cells [(hX (ix p.1 (ix order G')).1),(hX (ix p.1 (ix order G')).2)]) (by first | exact q6.h | rfl | (simp [sr,I.settle];done)) ?_
   (conv=>whnf);refine Ew (x:=ar.cells [(hX (ix p.1 (ix order G')).1),(hX (ix p.1 (ix order G')).2)]) (by first | exact q6.h | rfl | (simp [sr,I.settle];done)) ?_
   (conv=>whnf);exact ⟨m,sg m,s1,(w (s2+(w (aS*(ix p.1 (ix order G')).1)))),(w (dh+(w (aS*(ix p.1 (ix order G')).2)))),(w (G'+(2:Int))),_,rfl,rfl,h⟩
 ·rw [gJ];conv=>whnf
  exact q' _ _ _ _ _ h ⟨rfl,rfl⟩
theorem LS {p:(qj×(Int×Int))} {order:qa} {qn:Int} {bits:Int} {v:Bool} (h:H6 p order qn bits=some v):qv 61 [(.agg [(.av (p.1.flatMap p_) p.1.length .shared),(hX p.2.1),(hX p.2.2)]),(.av (order.map hX) order.length .shared),(hX qn),(hX bits)] (B v):=by
 refine qN eD afj rfl rfl fun Q bo=>?_;have jG:qK [.tmp 8] Q (fun v=>(B v)) v:=fun T H bD=>bo _ T H bD;unfold H6 at h;unfold aaH;obtain ⟨r9,qC⟩:∃ c,Qn=c:=⟨_,rfl⟩;rw [qC];conv=>whnf
 subst qC;refine aja ?_ (by exact rfl) h;intro yn oS Gz Js qe h qz;obtain ⟨rq,rfl⟩:=qz.ex;conv=>whnf
 refine bs h (fun rb h=>?_) fun rb h=>?_
 ·rw [rb];conv=>whnf
  obtain ⟨bh,q9,h⟩:=p' h;refine ⟨qi.pl,_,TF q9,?_⟩;conv=>whnf
  exact qd h jG rfl rfl
 ·rw [rb];conv=>whnf
  obtain ⟨eH,rv,h⟩:=p' h;refine ⟨qi.pl,_,TF rv,?_⟩;conv=>whnf
  cases eH
  ·(conv=>whnf);replace h:=rp rfl h;exact qd h jG rfl rfl
  ·(conv=>whnf);replace h:=rn rfl h;obtain ⟨qP,Hi,h⟩:=p' h;refine ⟨qi.pl,_,TF Hi,?_⟩;(conv=>whnf);exact qd h jG rfl rfl

noncomputable def Qy:gB :=
 .loop (some (qb false [0,1,2,2,11])) (.seq (p5 [p6 5 4,qu 6 5 8 .lss] (.cond (.m_ 6) .skip (.exit 0))) (.seq (.block 1 (qE [p4 9 3,p6 10 0,p6 11 4,qp 12 10 11 .shr,qu 13 12 1 .and,qp 14 9 13 .add,p4 3 14])) (qE [p4 7 4,qV 8 7 1,p4 4 8])))
noncomputable def aaW:gB :=
 p5 [qg 2 0] (p5 [qg 3 0] (.seq (p5 [qg 4 0] (.block 0 Qy)) (p5 [p4 15 3,p4 2 15] .ret)))
theorem afy:qt Tryz.prog QZ 89=some (aaW,16,[.tmp 2]):=by kernel_rfl
def L0 (bits:Int) (qc:Int→Option Int):Nat→Int→Int→Option Int
 | 0,_,_=>none
 | m+1,s1,s2 =>
   if (decide (s2<(8:Int)))=true then
    qq (0≤s2) <|
    L0 bits qc m (w (s1+(w ((BitVec.ofInt IntKind.i64.bits (bits.fdiv (2 ^ (Nat.min s2.toNat IntKind.i64.bits))) &&& BitVec.ofInt IntKind.i64.bits (1:Int)).toNat:Int)))) (w (s2+(1:Int)))
   else
    qc s1
def Ox (bits:Int):Option Int :=
 L0 bits (fun yn =>
   some yn) qh (0:Int) (0:Int)
theorem ajv {bits:Int} {qc:Int→Option Int} {s1:Int} {s2:Int} {v:Int} {Q:rR}   (q':∀ (yn:Int) (qe:List I),qc yn=some v→rk 16 [(3,(hX yn))] qe→Q (.exit 0) qe []) {T:List I} (bZ:eW (qb false [0,1,2,2,11]) T=qf 16 [(0,(hX bits)),(3,(hX s1)),(4,(hX s2))]) (h:L0 bits qc qh s1 s2=some v) :
  dN Tryz.prog QZ 89 0 none Qy T [] Q:=by
 unfold Qy;refine wp_loop bZ ?_;refine .intro (fun m T H=>∃ (s1 s2:Int),T=qf 16 [(0,(hX bits)),(3,(hX s1)),(4,(hX s2))]∧H=[]∧L0 bits qc m s1 s2=some v) qh ⟨s1,s2,rfl,rfl,h⟩ ?_;clear h bZ;rintro m T H ⟨s1,s2,rfl,rfl,h⟩;cases m
 ·exact rz h
 rename_i m;rw [L0.eq_2] at h;conv=>whnf
 refine bs h (fun gJ h=>?_) fun gJ h=>?_
 ·rw [gJ];conv=>whnf
  refine qD h id fun gK h=>?_;conv=>whnf
  exact ⟨m,sg m,(w (s1+(w ((BitVec.ofInt IntKind.i64.bits (bits.fdiv (2 ^ (Nat.min s2.toNat IntKind.i64.bits))) &&& BitVec.ofInt IntKind.i64.bits (1:Int)).toNat:Int)))),(w (s2+(1:Int))),rfl,rfl,h⟩
 ·rw [gJ];conv=>whnf
  exact q' _ _ h ⟨rfl,rfl⟩
theorem ajw {bits:Int} {v:Int} (h:Ox bits=some v):qv 89 [(hX bits)] (hX v):=by
 refine qN eD afy rfl rfl fun Q bo=>?_;have jG:qK [.tmp 2] Q (fun v=>(hX v)) v:=fun T H bD=>bo _ T H bD;unfold Ox at h;unfold aaW;obtain ⟨r9,qC⟩:∃ c,Qy=c:=⟨_,rfl⟩;rw [qC];conv=>whnf
 subst qC;refine ajv ?_ (by exact rfl) h;intro yn qe h qz;obtain ⟨rq,rfl⟩:=qz.ex;conv=>whnf
 exact qd h jG rfl rfl

noncomputable def Qs:gB :=
 .loop (some (qb false [1,3,3,4,46])) (.seq (p5 [p6 22 10,p6 23 1,qZ 24 23,qp 25 22 24 .lss] (.cond (.m_ 25) .skip (.exit 4))) (.seq (.block 5 (qE [p4 28 9,p4 29 28,ch 30 [.m_ 8] 29 true .mR,ch 31 [.m_ 10] 29 true .mR,ch 32 [.Bs 30,.Bs 31] 29 true (.bin .shr),ch 33 [.Bs 32,.cv (.int .i64 1)] 29 true (.bin .and),ch 34 [.Bs 33,.cv (.int .i64 0)] 29 true (.bin .eql),ch 35 [.jm 34] 29 true .mR,ch 36 [.m_ 10] 35 false .mR,ch 37 [.Bs 36,.cv (.int .i64 2)] 35 false (.bin .rem),ch 38 [.m_ 2] 35 false .mR,ch 39 [.Bs 37,.Bs 38] 35 false (.bin .eql),ch 40 [.Bs 35,.cv (.bool true),.Bs 39] 29 true .pick,p3 41 [.Bs 29,.Bs 40,.cv (.bool false)] .pick,p4 9 41])) (qE [p4 26 10,qV 27 26 1,p4 10 27])))
noncomputable def Qt:gB :=
 .loop (some (qb false [1,3,3,2,48])) (.seq (p5 [p6 15 8,p6 16 1,qZ 17 16,p3 18 [.cv (.int .i64 1),.Bs 17] (.bin .shl),qp 19 15 18 .lss] (.cond (.m_ 19) .skip (.exit 2))) (.seq (.block 3 (p5 [p3 9 [.cv (.bool true)] .mR] (.seq (p5 [qg 10 0] (.block 4 Qs)) (p5 [p4 42 9,p4 43 42,ch 44 [.m_ 8] 43 true .mR,⟨some 45,[.cv (.func 89 [] []),.m_ 44],some (43,true),none,.call 3⟩,ch 46 [.m_ 7] 43 true .mR,ch 47 [.Bs 45,.Bs 46] 43 true (.bin .eql),p3 48 [.Bs 43,.Bs 47,.cv (.bool false)] .pick,p4 49 48,ch 50 [.m_ 3] 49 true (.zE (.str 3)),ch 51 [.m_ 1] 49 true .mR,ch 52 [.m_ 2] 49 true .mR,ch 53 [.m_ 8] 49 true .mR,⟨some 54,[.cv (.func 61 [] []),.m_ 50,.m_ 51,.m_ 52,.m_ 53],some (49,true),none,.call 3⟩,p3 55 [.Bs 49,.Bs 54,.cv (.bool false)] .pick] (.cond (.m_ 55) (p5 [p4 56 7,p4 6 56] .ret) .skip))))) (qE [p4 20 8,qV 21 20 1,p4 8 21])))
noncomputable def Qu:gB :=
 .loop (some (qb false [1,3,3,1,49])) (.seq (p5 [p6 11 7,qu 12 11 2 .lss] (.cond (.m_ 12) .skip (.exit 0))) (.seq (.block 1 (p5 [qg 8 0] (.block 2 Qt))) (qE [p4 13 7,qV 14 13 1,p4 7 14])))
noncomputable def aaP:gB :=
 p5 [p3 3 [.jm 0] .box,qg 6 0] (.seq (p5 [qg 7 0] (.block 0 Qu)) (p5 [qg 6 2] .ret))
theorem afr:qt Tryz.prog Nc 75=some (aaP,57,[.tmp 6]):=by kernel_rfl
def Km (order:qa) (qn s2:Int) (sa:Bool→Option Int):Nat→Bool→Int→Option Int
 | 0,_,_=>none
 | m+1,dh,G' =>
   if (decide (G'<(order.length:Int)))=true then
    if dh=true then
     qq (0≤G') <|
     if (decide ((w ((BitVec.ofInt IntKind.i64.bits (s2.fdiv (2 ^ (Nat.min G'.toNat IntKind.i64.bits))) &&& BitVec.ofInt IntKind.i64.bits (1:Int)).toNat:Int))=(0:Int)))=true then
      Km order qn s2 sa m dh (w (G'+(1:Int)))
     else
      qq ((2:Int)≠0) <|
      Km order qn s2 sa m (decide ((G'.tmod (2:Int))=qn)) (w (G'+(1:Int)))
    else
     Km order qn s2 sa m dh (w (G'+(1:Int)))
   else
    sa dh
def Kl (p:(qj×(Int×Int))) (order:qa) (qn s1:Int) (qT:Unit→Option Int):Nat→Int→Option Int
 | 0,_=>none
 | m+1,s2 =>
   qq (0≤(order.length:Int)) <|
   if (decide (s2<(w ((1:Int)*2 ^ (Nat.min (order.length:Int).toNat 64)))))=true then
    Km order qn s2 (fun yn =>
      if yn=true then
       (Ox s2).bind fun aS =>
       if (decide (aS=s1))=true then
        (H6 p order qn s2).bind fun bh =>
        if bh=true then
         some s1
        else
         Kl p order qn s1 qT m (w (s2+(1:Int)))
       else
        Kl p order qn s1 qT m (w (s2+(1:Int)))
      else
       Kl p order qn s1 qT m (w (s2+(1:Int)))) qh true (0:Int)
   else
    qT ()
def JW (p:(qj×(Int×Int))) (order:qa) (qn:Int) (qc:Unit→Option Int):Nat→Int→Option Int
 | 0,_=>none
 | m+1,s1 =>
   if (decide (s1<(2:Int)))=true then
    Kl p order qn s1 (fun _ =>
      JW p order qn qc m (w (s1+(1:Int)))) qh (0:Int)
   else
    qc ()
def M4 (p:(qj×(Int×Int))) (order:qa) (qn:Int):Option Int :=
 JW p order qn (fun _ =>
   some (2:Int)) qh (0:Int)
theorem ajj {order:qa} {qn:Int} {s2:Int} {sa:Bool→Option Int} {dh:Bool} {G':Int} {p:(qj×(Int×Int))} {s1:Int} {v:Int} {Q:rR}   (NA:∀ (yn:Bool) (qe:List I),sa yn=some v→rk 57 [(1,(qy order .shared)),(2,(hX qn)),(3,(.ptr 0 0)),(7,(hX s1)),(8,(hX s2)),(9,(B yn))] qe→Q (.exit 4) qe [ar.cells [(qY p.1 .shared),(hX p.2.1),(hX p.2.2)]]) {T:List I} (bZ:eW (qb false [1,3,3,4,46]) T=qf 57 [(1,(qy order .shared)),(2,(hX qn)),(3,(.ptr 0 0)),(7,(hX s1)),(8,(hX s2)),(9,(B dh)),(10,(hX G'))]) (h:Km order qn s2 sa qh dh G'=some v) :
  dN Tryz.prog Nc 75 0 none Qs T [ar.cells [(qY p.1 .shared),(hX p.2.1),(hX p.2.2)]] Q:=by
 unfold Qs;refine wp_loop bZ ?_;refine .intro (fun m T H=>∃ (dh:Bool) (G':Int),T=qf 57 [(1,(qy order .shared)),(2,(hX qn)),(3,(.ptr 0 0)),(7,(hX s1)),(8,(hX s2)),(9,(B dh)),(10,(hX G'))]∧H=[ar.cells [(qY p.1 .shared),(hX p.2.1),(hX p.2.2)]]∧Km order qn s2 sa m dh G'=some v) qh ⟨dh,G',rfl,rfl,h⟩ ?_;clear h bZ;rintro m T H ⟨dh,G',rfl,rfl,h⟩;cases m
 ·exact rz h
 rename_i m;rw [Km.eq_2] at h;conv=>whnf
 refine bs h (fun qG h=>?_) fun qG h=>?_
 ·rw [qG];conv=>whnf
  cases dh
  ·(conv=>whnf);replace h:=rp rfl h;exact ⟨m,sg m,_,(w (G'+(1:Int))),rfl,rfl,h⟩
  ·(conv=>whnf);replace h:=rn rfl h;refine qD h id fun qW h=>?_;(conv=>whnf);refine bs h (fun q8 h=>?_) fun q8 h=>?_
   ·rw [q8];(conv=>whnf);exact ⟨m,sg m,_,(w (G'+(1:Int))),rfl,rfl,h⟩
   ·rw [q8];(conv=>whnf);refine qD h id fun qR h=>?_;(conv=>whnf);exact ⟨m,sg m,(decide ((G'.tmod (2:Int))=qn)),(w (G'+(1:Int))),rfl,rfl,h⟩
 ·rw [qG];conv=>whnf
  exact NA _ _ h ⟨rfl,rfl⟩
theorem aji {p:(qj×(Int×Int))} {order:qa} {qn:Int} {s1:Int} {qT:Unit→Option Int} {s2:Int} {v:Int} {Q:rR}   (jG:qK [.tmp 6] Q (fun v=>(hX v)) v) (I3:∀ (qe:List I),qT ()=some v→rk 57 [(1,(qy order .shared)),(2,(hX qn)),(3,(.ptr 0 0)),(7,(hX s1))] qe→Q (.exit 2) qe [ar.cells [(qY p.1 .shared),(hX p.2.1),(hX p.2.2)]]) {T:List I} (bZ:eW (qb false [1,3,3,2,48]) T=qf 57 [(1,(qy order .shared)),(2,(hX qn)),(3,(.ptr 0 0)),(7,(hX s1)),(8,(hX s2))]) (h:Kl p order qn s1 qT qh s2=some v) :
  dN Tryz.prog Nc 75 0 none Qt T [ar.cells [(qY p.1 .shared),(hX p.2.1),(hX p.2.2)]] Q:=by
 unfold Qt;obtain ⟨r9,qC⟩:∃ c,Qs=c:=⟨_,rfl⟩;rw [qC];refine wp_loop bZ ?_;refine .intro (fun m T H=>∃ (s2:Int),T=qf 57 [(1,(qy order .shared)),(2,(hX qn)),(3,(.ptr 0 0)),(7,(hX s1)),(8,(hX s2))]∧H=[ar.cells [(qY p.1 .shared),(hX p.2.1),(hX p.2.2)]]∧Kl p order qn s1 qT m s2=some v) qh ⟨s2,rfl,rfl,h⟩ ?_;clear h bZ;rintro m T H ⟨s2,rfl,rfl,h⟩;cases m
 ·exact rz h
 rename_i m;rw [Kl.eq_2] at h;conv=>whnf
 refine qD h id fun gK h=>?_;conv=>whnf
 refine bs h (fun qs h=>?_) fun qs h=>?_
 ·erw [qs];conv=>whnf
  subst qC;refine ajj ?_ (by exact rfl) h;intro yn qe h qz;obtain ⟨rq,rfl⟩:=qz.ex;conv=>whnf
  cases yn
  ·(conv=>whnf);replace h:=rp rfl h;exact ⟨m,sg m,(w (s2+(1:Int))),rfl,rfl,h⟩
  ·(conv=>whnf);replace h:=rn rfl h;obtain ⟨aS,rb,h⟩:=p' h;refine ⟨(p9 rfl rfl),_,ajw rb,?_⟩;(conv=>whnf);refine bs h (fun q9 h=>?_) fun q9 h=>?_
   ·rw [q9];(conv=>whnf);obtain ⟨bh,rv,h⟩:=p' h;refine ⟨qi.pl,_,LS rv,?_⟩;(conv=>whnf);cases bh
    ·(conv=>whnf);replace h:=rp rfl h;exact ⟨m,sg m,(w (s2+(1:Int))),rfl,rfl,h⟩
    ·(conv=>whnf);replace h:=rn rfl h;exact qd h jG rfl rfl
   ·rw [q9];(conv=>whnf);exact ⟨m,sg m,(w (s2+(1:Int))),rfl,rfl,h⟩
 ·erw [qs];conv=>whnf
  exact I3  _ h ⟨rfl,rfl⟩
theorem ajh {p:(qj×(Int×Int))} {order:qa} {qn:Int} {qc:Unit→Option Int} {s1:Int} {v:Int} {Q:rR}   (jG:qK [.tmp 6] Q (fun v=>(hX v)) v) (q':∀ (bw:ar) (qe:List I),qc ()=some v→rk 57 [] qe→Q (.exit 0) qe [bw]) {T:List I} (bZ:eW (qb false [1,3,3,1,49]) T=qf 57 [(1,(qy order .shared)),(2,(hX qn)),(3,(.ptr 0 0)),(7,(hX s1))]) (h:JW p order qn qc qh s1=some v) :
  dN Tryz.prog Nc 75 0 none Qu T [ar.cells [(qY p.1 .shared),(hX p.2.1),(hX p.2.2)]] Q:=by
 unfold Qu;obtain ⟨J2,rN⟩:∃ c,Qt=c:=⟨_,rfl⟩;rw [rN];refine wp_loop bZ ?_;refine .intro (fun m T H=>∃ (s1:Int),T=qf 57 [(1,(qy order .shared)),(2,(hX qn)),(3,(.ptr 0 0)),(7,(hX s1))]∧H=[ar.cells [(qY p.1 .shared),(hX p.2.1),(hX p.2.2)]]∧JW p order qn qc m s1=some v) qh ⟨s1,rfl,rfl,h⟩ ?_;clear h bZ;rintro m T H ⟨s1,rfl,rfl,h⟩;cases m
 ·exact rz h
 rename_i m;rw [JW.eq_2] at h;conv=>whnf
 refine bs h (fun gJ h=>?_) fun gJ h=>?_
 ·rw [gJ];conv=>whnf
  subst rN;refine aji ?_ ?_ (by exact rfl) h
  ·exact fun T H bD=>jG T H bD
  ·intro  qe h qz;obtain ⟨rq,rfl⟩:=qz.ex;(conv=>whnf);exact ⟨m,sg m,(w (s1+(1:Int))),rfl,rfl,h⟩
 ·rw [gJ];conv=>whnf
  exact q' _ _ h ⟨rfl,rfl⟩
theorem Z4 {p:(qj×(Int×Int))} {order:qa} {qn:Int} {v:Int} (h:M4 p order qn=some v):qv 75 [(.agg [(.av (p.1.flatMap p_) p.1.length .shared),(hX p.2.1),(hX p.2.2)]),(.av (order.map hX) order.length .shared),(hX qn)] (hX v):=by
 refine qN eD afr rfl rfl fun Q bo=>?_;have jG:qK [.tmp 6] Q (fun v=>(hX v)) v:=fun T H bD=>bo _ T H bD;unfold M4 at h;unfold aaP;obtain ⟨Q4,Jw⟩:∃ c,Qu=c:=⟨_,rfl⟩;rw [Jw];conv=>whnf
 subst Jw;refine ajh ?_ ?_ (by exact rfl) h
 ·exact fun T H bD=>jG T H bD
 ·intro bw qe h qz;obtain ⟨rq,rfl⟩:=qz.ex;conv=>whnf
  exact qd h jG rfl rfl
end Go.Proofs.YtkoioidpbbbaiaaGreat.Ab


namespace Go.Proofs.YtkoioidpbbbaiaaGreat.Ab
open Go
set_option maxRecDepth 20000
set_option maxHeartbeats 1000000
def r7 (p:qm) (o:List Int) (a:Nat):Prop:=ru p o a p.2.1=0∧ru p o a p.2.2=0
instance (p:qm) (o:List Int) (a:Nat):Decidable (r7 p o a):=by unfold r7;exact inferInstance
def I0 (p:qm) (o:List Int) (a i:Nat) (s:qM):Prop :=
 qI p.1 o a [(i:Int)] (re p.2.1)+qH o.length i*re p.2.1 s=0∧qI p.1 o a [(i:Int)] (re p.2.2)+qH o.length i*re p.2.2 s=0
instance (p:qm) (o:List Int) (a i:Nat) (s:qM):Decidable (I0 p o a i s):=by unfold I0;exact inferInstance
def Jk (t:Nat):qM:=(((t % 101:Nat):Int),((t / 101:Nat):Int)-10)
theorem YQ {t:Nat} (h:t<2121):q2 (Jk t):=by unfold q2 Jk;simp only;omega
theorem YP {s:qM} (h:q2 s):∃ t,t<2121∧Jk t=s:=by
 obtain ⟨ab,ae,aF,ba⟩:=h;refine ⟨(s.2+10).toNat*101+s.1.toNat,by omega,?_⟩;unfold Jk;exact Prod.ext (by simp only;omega) (by simp only;omega)
def H9 (p:qm) (o:List Int) (a i:Nat):Prop:=∃ t,t<2121∧I0 p o a i (Jk t)
instance (p:qm) (o:List Int) (a i:Nat):Decidable (H9 p o a i):=by unfold H9;exact inferInstance
theorem L9 {p:qm} {o:List Int} {a i:Nat}:H9 p o a i↔∃ s,q2 s∧I0 p o a i s:=by
 constructor
 ·rintro ⟨t,ab,ae⟩;exact ⟨_,YQ ab,ae⟩
 ·rintro ⟨s,ab,ae⟩;obtain ⟨t,aF,rfl⟩:=YP ab;exact ⟨t,aF,ae⟩
theorem N9 {L H U V:Int} (h:L=H):(U+V*L=0∧U+V*H=0)↔U+V*L=0:=by subst h;simp
theorem Lx {L H U V:Int} (h:L≠H):(U+V*L=0∧U+V*H=0)↔U=0∧V=0:=by
 constructor
 ·rintro ⟨ab,ae⟩;have aF:V*(H-L)=0:=by grind
  rcases Int.mul_eq_zero.1 aF with ba | ba
  ·subst ba;simp at ab;exact ⟨ab,rfl⟩
  ·omega
 ·rintro ⟨rfl,rfl⟩;simp
theorem OQ {p:qm} {o:List Int} {a:Nat}:r7 p o a↔qI p.1 o a [] Prod.fst+qI p.1 o a [] Prod.snd*p.2.1=0∧qI p.1 o a [] Prod.fst+qI p.1 o a [] Prod.snd*p.2.2=0:=by
 unfold r7 ru;rw [←NJ,←NJ,Mn,Mn]
theorem Rf {p:qm} {o:List Int} {a i:Nat} {s:qM}:I0 p o a i s ↔
  (qI p.1 o a [(i:Int)] Prod.fst+qH o.length i*s.1)+(qI p.1 o a [(i:Int)] Prod.snd+qH o.length i*s.2)*p.2.1=0 ∧
  (qI p.1 o a [(i:Int)] Prod.fst+qH o.length i*s.1)+(qI p.1 o a [(i:Int)] Prod.snd+qH o.length i*s.2)*p.2.2=0:=by
 unfold I0;rw [Mn,Mn];have e:∀ (U V x c d D:Int),U+V*D+x*(c+d*D)=(U+x*c)+(V+x*d)*D:=fun U V x c d D=>by grind
 unfold re;rw [e,e]
section
variable {p:qm} {o:List Int}
theorem ZU (h:rj p) (k:qA p.1.length o) {a:Nat}:Iw (p,()) o (a:Int) []=some ([],decide (r7 p o a)):=by
 have hle:=h.le;have bC:=h.lo;have GO:=h.hi;unfold Iw;rw [P5 (b:=(p,())) (W:=[]) h.s (rX k) (qA.len h k) k.1.symm (by simp),sc];have a7:=Ni (a:=a) (W:=[]) h.s (rX k) (qA.len h k);have a9:=N5 (a:=a) (W:=[]) h.s (rX k) (qA.len h k);have br:=Hy (b:=p.2.1) (B:=50) a9 (by omega);simp only;rw [qF (n:=qI p.1 o a [] Prod.snd*p.2.1) (by omega),qF (by omega)];congr 2;rw [tA];simp only [tC,su,decide_eq_true_eq,Prod.mk.injEq];rw [OQ];by_cases he:p.2.1=p.2.2
 ·rw [N9 he];constructor
  ·rintro (⟨ab,ae⟩ | ⟨_,ab⟩)
   ·rw [ab,ae];simp
   ·exact ab
  ·exact fun ab=>.inr ⟨he,ab⟩
 ·rw [Lx he];constructor
  ·rintro (ab | ⟨ab,_⟩)
   ·exact ab
   ·exact absurd ab he
  ·exact .inl
theorem afL {s:rr×Nat} {k v:ra} {e:Nat×ra×ra} (h:e∈(HT s k v).1):(e.2.1=k∧e.2.2=v)∨e∈s.1:=by
 unfold HT at h;split at h
 ·obtain ⟨x,aj,rfl⟩:=sH.1 h;by_cases al:k=x.2.1
  ·rw [if_pos al];exact .inl ⟨rfl,rfl⟩
  ·rw [if_neg al];exact .inr aj
 ·rcases sU.1 h with h | h
  ·exact .inr h
  ·obtain rfl:=sK.1 h;exact .inl ⟨rfl,rfl⟩
theorem afM (s:rr×Nat) (k v:ra):∃ e∈(HT s k v).1,e.2.1=k:=by
 unfold HT;split
 ·rename_i h;obtain ⟨x,aj,al⟩:=List.any_eq_true.1 h;exact ⟨_,tn aj,by rw [if_pos (of_decide_eq_true al)]⟩
 ·exact ⟨(s.2,k,v),by simp,rfl⟩
theorem afN {s:rr×Nat} {k v:ra} {e:Nat×ra×ra} (h:e∈s.1):∃ cS∈(HT s k v).1,cS.2.1=e.2.1:=by
 unfold HT;split
 ·refine ⟨_,tn h,?_⟩;by_cases al:k=e.2.1
  ·rw [if_pos al];exact al
  ·rw [if_neg al]
 ·exact ⟨e,by simp [h],rfl⟩
theorem YY (lo hi x:Int):∀ (t:Nat) (e:Nat×ra×ra),e∈(Hk lo hi x t).1→∃ iB,iB<t∧e.2.2=Jk iB∧e.2.1=H0 lo hi x (Jk iB).2 (Jk iB).1
 | 0,e,h=>by simp [Hk] at h
 | t+1,e,h=>by
   unfold Hk at h;rcases afL h with ⟨ab,ae⟩ | ab
   ·exact ⟨t,by omega,ae,ab⟩
   ·obtain ⟨iB,ae,aF⟩:=YY lo hi x t e ab;exact ⟨iB,by omega,aF⟩
theorem S6 (lo hi x:Int):∀ (t iB:Nat),iB<t→∃ e∈(Hk lo hi x t).1,e.2.1=H0 lo hi x (Jk iB).2 (Jk iB).1
 | 0,_,h=>absurd h (by omega)
 | t+1,iB,h=>by
   unfold Hk;by_cases e:iB=t
   ·subst e;exact afM _ _ _
   ·obtain ⟨e1,ab,ae⟩:=S6 lo hi x t iB (by omega);obtain ⟨b9,aF,ba⟩:=afN (k:=H0 lo hi x ((t / 101:Nat)-10) ((t % 101:Nat))) (v:=((t % 101:Nat),(t / 101:Nat)-10)) ab;exact ⟨b9,aF,ba.trans ae⟩
theorem aeE {A:rr} {k:ra} (h:JC A k=none):∀ e∈A,e.2.1≠k:=by
 unfold JC at h;rw [Option.map_eq_none_iff,List.find?_eq_none] at h;intro e he al;exact h e he (decide_eq_true al.symm)
theorem aeF {A:rr} {k v:ra} (h:JC A k=some v):∃ e∈A,e.2.1=k∧e.2.2=v:=by
 unfold JC at h;obtain ⟨e,ab,ae⟩:=Option.map_eq_some_iff.1 h;have aF:=List.find?_some ab;exact ⟨e,List.mem_of_find?_eq_some ab,(of_decide_eq_true aF).symm,ae⟩
theorem V' {L H x:Int} {s:qM} (aj:-10≤x∧x≤10) (ah:q2 s) (fm:0≤L∧L≤50):H0 L H x s.2 s.1=if L=H then (x*re L s,0) else (x*s.1,x*s.2):=by
 have af:=L7 ah fm;obtain ⟨ab,ae,aF,ba⟩:=ah;have bl:=Hy (a:=s.2) (b:=L) (A:=10) (B:=50) (by omega) (by omega);have cr:=Hy (a:=x) (b:=re L s) (A:=10) (B:=600) aj (by omega);have eY:=Hy (a:=x) (b:=s.1) (A:=10) (B:=100) aj (by omega);have lN:=Hy (a:=x) (b:=s.2) (A:=10) (B:=10) aj (by omega);unfold H0;rw [qF (n:=s.2*L) (by omega),show s.1+s.2*L=re L s from rfl,qF (n:=re L s) (by omega),qF (n:=x*re L s) (by omega),qF (n:=x*s.1) (by omega),qF (n:=x*s.2) (by omega)]
def Ia (lo:Int) (s:qM):Int:=max (max s.1 (re lo s)) (-(re lo s))
def HK:List Int→Int
 | []=>0
 | x::r=>x+HK r
theorem Y6:∀ (a b:List Int),HK (a++b)=HK a+HK b
 | [],b=>by simp [HK]
 | x::a,b=>by simp only [List.cons_append,HK,Y6 a b];omega
theorem ahL {a b:List Int} (h:a.Perm b):HK a=HK b:=by
 induction h with
 | nil=>rfl
 | cons x _ a8=>simp only [HK,a8]
 | swap x y l=>simp only [HK];omega
 | trans _ _ ab ae=>exact ab.trans ae
theorem Y4 {α:Type} [Inhabited α] (g:α→Int) (l:List α):∀ (k:Nat),k≤l.length→q5 k (fun i=>g (ix l (i:Int)))=HK ((l.take k).map g)
 | 0,_=>rfl
 | k+1,h=>by
   rw [uP (by omega),sR,Y6,←Y4 g l k (by omega)];simp only [q5,sI,List.map_nil,HK];rw [rH (by omega)];omega
theorem S9 {α:Type} [Inhabited α] (g:α→Int) (l:List α):q5 l.length (fun i=>g (ix l (i:Int)))=HK (l.map g):=by
 rw [Y4 g l _ (se _),uM]
theorem RQ {n i:Nat} (h:i<n):ix (qo n) (i:Int)=(i:Int):=by
 rw [rH (by simpa [qo] using h)];simp [qo]
theorem LA (n:Nat):(qo n).length=n:=by simp [qo]
theorem Y3 {S:List qM} {o:List Int} (k:qA S.length o) (g:qM→Int):q5 o.length (fun i=>g (qO S o i))=HK (S.map g):=by
 have e1:=S9 (fun j=>g (ix S j)) o;have b9:=S9 (fun j=>g (ix S j)) (qo S.length);have dx:=S9 g S;rw [ahL ((Lm.1 k).map _),←b9,LA] at e1;rw [←dx];refine e1.trans (N7 fun i hi=>?_);simp only [RQ hi]
theorem ahK {n:Nat} {g f:Nat→Int} (e:∀ i,i<n → -(f i)≤g i∧g i≤f i):-(q5 n f)≤q5 n g∧q5 n g≤q5 n f:=by
 induction n with
 | zero=>simp [q5]
 | succ n a8 =>
   have ab:=a8 fun i hi=>e i (by omega);have ae:=e n (by omega);simp only [q5];omega
theorem OU {lo:Int} {s:qM} (ah:q2 s) (ao:0≤lo∧lo≤50):0≤Ia lo s∧Ia lo s≤600:=by
 have ab:=L7 ah ao;have ae:=ah.1;have aF:=ah.2.1;unfold Ia;omega
theorem W0 {far lo:Int} (aP:0≤far∧far≤10) (ao:0≤lo∧lo≤50):∀ (l:List qM) (n:Int),(∀ s∈l,q2 s)→0≤n→n+6000*l.length≤1000000→Ji far lo l n=n+far*HK (l.map (Ia lo))
 | [],n,_,_,_=>by simp [Ji,HK]
 | s::r,n,ah,aI,af=>by
   have al:=ah s (by simp);have db:=L7 al ao;have bl:=Hy (a:=s.2) (b:=lo) (A:=10) (B:=50) ⟨al.2.2.1,al.2.2.2⟩ (by omega);have cr:=OU al ao;have eY:=Hy (a:=far) (b:=Ia lo s) (A:=10) (B:=600) (by omega) (by omega);have lN:=Int.mul_nonneg aP.1 cr.1;have ab:=al.1;have ae:=al.2.1;rw [List.length_cons] at af;unfold Ji;rw [qF (n:=s.2*lo) (by omega),show s.1+s.2*lo=re lo s from rfl,qF (n:=re lo s) (by omega),qF (n := -(re lo s)) (by omega),show max (max s.1 (re lo s)) (-(re lo s))=Ia lo s from rfl,qF (n:=far*Ia lo s) (by omega),qF (by omega)];rw [W0 aP ao r _ (fun s hh=>ah s (by simp [hh])) (by omega) (by omega),sI];simp only [HK];rw [Int.mul_add];omega
theorem R6 (h:rj p) (k:qA p.1.length o) {a:Nat} {W:List Int} {f:qM→Int} (aP:∀ s,q2 s → -(Ia p.2.1 s)≤f s∧f s≤Ia p.2.1 s) :
  -(qH o.length (o.length-1)*HK (p.1.map (Ia p.2.1)))≤qI p.1 o a W f∧qI p.1 o a W f≤qH o.length (o.length-1)*HK (p.1.map (Ia p.2.1)):=by
 have hle:=h.le;have bC:=h.lo;have GO:=h.hi;have aI:=h.n;rw [←k.1] at aI;rw [←Y3 k (Ia p.2.1),←Y2];refine ahK fun i hi=>?_;have ah:=Iu h.s (rX k) hi;have aO:=OU ah (lo:=p.2.1) (by omega);have a_:-(qH o.length (o.length-1))≤qH o.length i∧qH o.length i≤qH o.length (o.length-1):=by unfold qH;omega
 split
 ·have ab:=aP _ ah;have ae:=Hy a_ ab;exact ae
 ·have:=Int.mul_nonneg (show 0≤qH o.length (o.length-1) by omega) aO.1;omega
theorem ajl (h:rj p) (k:qA p.1.length o) {a i:Nat} (hi:i<o.length):∃ A,M5 (p,()) (qH o.length i)=some A∧(∀ e∈A,q2 e.2.2∧e.2.1=H0 p.2.1 p.2.2 (qH o.length i) e.2.2.2 e.2.2.1)∧∀ s,q2 s→I0 p o a i s→∃ e∈A,e.2.1=H0 p.2.1 p.2.2 (qH o.length i) s.2 s.1:=by
 have hle:=h.le;have bC:=h.lo;have GO:=h.hi;have aI:=h.n;have J6:=h.len;have adH:=k.1;have fI:=qA.len h k;unfold M5;simp only;rw [qw (by omega),show ((p.1.length:Int)-1)=((o.length-1:Nat):Int) by omega,qF (n:=((o.length-1:Nat):Int)) (by omega),P4 (b:=(p,())) fI k.1.symm (by omega),sc];have RI:0≤qH o.length (o.length-1)∧qH o.length (o.length-1)≤10:=by unfold qH;omega
 have V1:=W0 RI (lo:=p.2.1) (by omega) p.1 0 h.s (by omega) (by omega);rw [Int.zero_add] at V1;rw [V1];obtain ⟨M,CA⟩:∃ M,M=qH o.length (o.length-1)*HK (p.1.map (Ia p.2.1)):=⟨_,rfl⟩;have ajW:0≤M∧M≤1000000:=by
  have ab:=R6 h k (a:=0) (W:=[]) (f:=fun _=>0) fun s ah=>by have:=OU ah (lo:=p.2.1) (by omega);omega
  have ae:=Lv (n:=o.length) (g:=fun i=>Ia p.2.1 (qO p.1 o i)) (B:=600) fun i hi=>by have:=OU (Iu h.s (rX k) hi) (lo:=p.2.1) (by omega);omega
  rw [Y3 k (Ia p.2.1)] at ae;have aF:=Hy (a:=qH o.length (o.length-1)) (A:=10) (by omega) ae;rw [←CA] at ab aF;omega
 rw [←CA,qF (n := -M) (by omega)];have hg:=KF hi fI;obtain ⟨x,aj⟩:∃ x,x=qH o.length i:=⟨_,rfl⟩;rw [←aj] at hg ⊢;refine ⟨_,rfl,fun e he=>?_,fun s ah KA=>?_⟩
 ·obtain ⟨iB,ab,ae,aF⟩:=YY _ _ _ _ _ (tc.1 he).1;have ba:iB<2121:=by
   by_cases aQ:x=0
   ·rw [if_pos aQ] at ab;omega
   ·rw [if_neg aQ] at ab;exact ab
  rw [ae];exact ⟨YQ ba,aF⟩
 ·have hM:∃ e∈(Hk p.2.1 p.2.2 x (if x=0 then 1 else 2121)).1,e.2.1=H0 p.2.1 p.2.2 x s.2 s.1:=by
   by_cases aQ:x=0
   ·rw [if_pos aQ];obtain ⟨e,ab,ae⟩:=S6 p.2.1 p.2.2 x 1 0 (by omega);refine ⟨e,ab,ae.trans ?_⟩;subst aQ;unfold H0;simp only [Int.zero_mul]
   ·rw [if_neg aQ];obtain ⟨t,ab,ae⟩:=YP ah;rw [←ae];exact S6 _ _ _ _ _ ab
  obtain ⟨e,ab,ae⟩:=hM;refine ⟨e,tc.2 ⟨ab,?_⟩,ae⟩;rw [ae,V' hg ah (by omega)];have CY:=Rf.1 KA;rw [←aj] at CY;by_cases he:p.2.1=p.2.2
  ·rw [if_pos he];(have bO:=R6 h k (a:=a) (W:=[(i:Int)]) (f:=re p.2.1) fun s ah=>by unfold Ia;omega);have bP:=KA.1;rw [←aj] at bP;rw [←CA] at bO;simp only [su,decide_eq_true_eq];omega
  ·rw [if_neg he];rw [Lx he] at CY;(have bO:=R6 h k (a:=a) (W:=[(i:Int)]) (f:=Prod.fst) fun s ah=>by have:=ah.1;unfold Ia;omega);rw [←CA] at bO;have bP:=CY.1;simp only [su,decide_eq_true_eq];omega
theorem Wa (h:rj p) (k:qA p.1.length o) {a i:Nat} (hi:i<o.length) {s:qM} (ah:q2 s) :
  H0 p.2.1 p.2.2 (qH o.length i) s.2 s.1=(if p.2.1=p.2.2 then (w (w (-(qI p.1 o a [(i:Int)] Prod.fst))-w (qI p.1 o a [(i:Int)] Prod.snd*p.2.1)),0) else (w (-(qI p.1 o a [(i:Int)] Prod.fst)),w (-(qI p.1 o a [(i:Int)] Prod.snd))))↔I0 p o a i s:=by
 have hle:=h.le;have bC:=h.lo;have GO:=h.hi;have a7:=Ni (a:=a) (W:=[(i:Int)]) h.s (rX k) (qA.len h k);have a9:=N5 (a:=a) (W:=[(i:Int)]) h.s (rX k) (qA.len h k);have br:=Hy (b:=p.2.1) (B:=50) a9 (by omega);rw [V' (KF hi (qA.len h k)) ah (by omega),Rf];rw [qF (n := -(qI p.1 o a [(i:Int)] Prod.fst)) (by omega),qF (n:=qI p.1 o a [(i:Int)] Prod.snd*p.2.1) (by omega),qF (n := -(qI p.1 o a [(i:Int)] Prod.snd)) (by omega),qF (by omega)];generalize qI p.1 o a [(i:Int)] Prod.fst=U;generalize qI p.1 o a [(i:Int)] Prod.snd=V;generalize qH o.length i=x;by_cases he:p.2.1=p.2.2
 ·rw [if_pos he,if_pos he,N9 he,Prod.mk.injEq];have e:U+x*s.1+(V+x*s.2)*p.2.1=U+V*p.2.1+x*re p.2.1 s:=by unfold re;grind
  rw [e];constructor
  ·rintro ⟨ab,_⟩;omega
  ·intro ab;exact ⟨by omega,rfl⟩
 ·rw [if_neg he,if_neg he,Lx he,Prod.mk.injEq];constructor
  ·rintro ⟨ab,ae⟩;omega
  ·rintro ⟨ab,ae⟩;exact ⟨by omega,by omega⟩
theorem ZT (h:rj p) (k:qA p.1.length o) {a i:Nat} (hi:i<o.length) :
  (∃ s,Iw (p,()) o (a:Int) [(i:Int)]=some ([(ix o (i:Int),s)],true)∧q2 s∧I0 p o a i s)∨(Iw (p,()) o (a:Int) [(i:Int)]=some ([],false)∧¬ H9 p o a i):=by
 unfold Iw;rw [P5 (b:=(p,())) (W:=[(i:Int)]) h.s (rX k) (qA.len h k) k.1.symm (by simp),sc];obtain ⟨A,aL,ab,ae⟩:=ajl h k (a:=a) hi;simp only;rw [P4 (b:=(p,())) (qA.len h k) k.1.symm hi,sc,aL,sc];cases al:JC A (if p.2.1=p.2.2 then (w (w (-(qI p.1 o a [(i:Int)] Prod.fst))-w (qI p.1 o a [(i:Int)] Prod.snd*p.2.1)),0) else (w (-(qI p.1 o a [(i:Int)] Prod.fst)),w (-(qI p.1 o a [(i:Int)] Prod.snd)))) with
 | none =>
   refine .inr ⟨rfl,fun ak=>?_⟩;obtain ⟨s,ah,aP⟩:=L9.1 ak;obtain ⟨e,he,adC⟩:=ae s ah aP;exact aeE al e he (adC.trans ((Wa h k hi ah).2 aP))
 | some s =>
   obtain ⟨e,he,Da,rfl⟩:=aeF al;obtain ⟨ah,pN⟩:=ab e he;refine .inl ⟨e.2.2,?_,ah,(Wa h k hi ah).1 (pN.symm.trans Da)⟩;simp only;rw [qw (by omega)]
end
end Go.Proofs.YtkoioidpbbbaiaaGreat.Ab


namespace Go.Proofs.YtkoioidpbbbaiaaGreat.Ab
open Go
set_option maxRecDepth 20000
set_option maxHeartbeats 4000000
noncomputable def aaF:gB :=
 p5 [p3 2 [.jm 0] .box,qg 4 0] (.seq (rh [p3 5 [.m_ 2] (.zE (.str 3)),p6 6 1,p3 7 [.cv (.func 75 [] []),.m_ 5,.m_ 6,.cv (.int .i64 0)] (.call 3),p3 8 [.m_ 2] (.zE (.str 3)),p6 9 1,p3 10 [.cv (.func 75 [] []),.m_ 8,.m_ 9,.cv (.int .i64 1)] (.call 3),qp 11 7 10 .add,p4 4 11]) .ret)
theorem afh:qt Tryz.prog UD 55=some (aaF,12,[.tmp 4]):=by kernel_rfl
def Ol (p:(qj×(Int×Int))) (order:qa):Option Int :=
 (M4 p order (0:Int)).bind fun aS =>
 (M4 p order (1:Int)).bind fun bh =>
 some (w (aS+bh))
theorem ai7 {p:(qj×(Int×Int))} {order:qa} {v:Int} (h:Ol p order=some v):qv 55 [(.agg [(.av (p.1.flatMap p_) p.1.length .shared),(hX p.2.1),(hX p.2.2)]),(.av (order.map hX) order.length .shared)] (hX v):=by
 refine qN eD afh rfl rfl fun Q bo=>?_;have jG:qK [.tmp 4] Q (fun v=>(hX v)) v:=fun T H bD=>bo _ T H bD;unfold Ol at h;unfold aaF;conv=>whnf
 obtain ⟨aS,gJ,h⟩:=p' h;refine ⟨qi.pl,_,Z4 gJ,rB,?_⟩;conv=>whnf
 obtain ⟨bh,gK,h⟩:=p' h;refine ⟨qi.pl,_,Z4 gK,(K4 (fun _ e=>by simp at e) rB),?_⟩;conv=>whnf
 exact qd h jG rfl rfl

noncomputable def aah:gB :=
 p5 [p3 2 [.jm 0] .box,qg 4 0,qg 5 0] (.seq (p5 [p3 6 [.m_ 2] (.zE (.str 3)),p6 7 1,p3 8 [.cv (.func 52 [] []),.m_ 6,.m_ 7] (.call 3),qu 9 8 0 .neq] (.cond (.m_ 9) (p5 [p3 10 [.Bs 2] (.zE (.str 3)),p4 11 1,p3 12 [.cv (.func 52 [] []),.m_ 10,.m_ 11] (.call 3),qg 4 0,p4 5 12] .ret) .skip)) (p5 [p3 13 [.Bs 2] (.zE (.str 3)),p4 14 1,p3 15 [.cv (.func 55 [] []),.m_ 13,.m_ 14] (.call 3),p4 4 15,qg 5 0] .ret))
theorem aeU:qt Tryz.prog Ui 22=some (aah,16,[.tmp 4,.tmp 5]):=by kernel_rfl
def Od (p:(qj×(Int×Int))) (order:qa):Option (Int×Int) :=
 (KX p order).bind fun aS =>
 if (decide (aS≠(0:Int)))=true then
  (KX p order).bind fun bh =>
  some ((0:Int),bh)
 else
  (Ol p order).bind fun eH =>
  some (eH,(0:Int))
theorem aiw {p:(qj×(Int×Int))} {order:qa} {v:(Int×Int)} (h:Od p order=some v):qv 22 [(.agg [(.av (p.1.flatMap p_) p.1.length .shared),(hX p.2.1),(hX p.2.2)]),(.av (order.map hX) order.length .shared)] (.tuple [(hX v.1),(hX v.2)]):=by
 refine qN eD aeU rfl (Ir (p9 rfl (p9 rfl rfl))) fun Q bo=>?_;have jG:qK [.tmp 4,.tmp 5] Q (fun v=>(.tuple [(hX v.1),(hX v.2)])) v:=fun T H bD=>bo _ T H bD;unfold Od at h;unfold aah;conv=>whnf
 obtain ⟨aS,gJ,h⟩:=p' h;refine ⟨qi.pl,_,P1 gJ,?_⟩;conv=>whnf
 refine bs h (fun gK h=>?_) fun gK h=>?_
 ·rw [gK];conv=>whnf
  obtain ⟨bh,qs,h⟩:=p' h;refine ⟨qi.pl,_,P1 qs,?_⟩;conv=>whnf
  exact qd h jG rfl rfl
 ·rw [gK];conv=>whnf
  obtain ⟨eH,qG,h⟩:=p' h;refine ⟨qi.pl,_,ai7 qG,?_⟩;conv=>whnf
  exact qd h jG rfl rfl
end Go.Proofs.YtkoioidpbbbaiaaGreat.Ab


namespace Go.Proofs.YtkoioidpbbbaiaaGreat.Ab
open Go
set_option maxRecDepth 20000
set_option maxHeartbeats 1000000
theorem abV:∀ (b:Fin 128) (j:Fin 8),w (((BitVec.ofInt IntKind.i64.bits (((b.1:Nat):Int).fdiv (2 ^ (Nat.min (((j.1:Nat):Int)).toNat IntKind.i64.bits))) &&& BitVec.ofInt IntKind.i64.bits (1:Int)).toNat:Nat):Int)=(if b.1.testBit j.1=true then 1 else 0:Int):=by decide +kernel
theorem Nd {b j:Nat} (af:b<128) (aw:j<8):w (((BitVec.ofInt IntKind.i64.bits (((b:Nat):Int).fdiv (2 ^ (Nat.min (((j:Nat):Int)).toNat IntKind.i64.bits))) &&& BitVec.ofInt IntKind.i64.bits (1:Int)).toNat:Nat):Int)=(if b.testBit j=true then 1 else 0:Int):=abV ⟨b,af⟩ ⟨j,aw⟩
def HU (n a:Nat) (W:List Int):Nat→List Int
 | 0=>[]
 | i+1=>if i % 2=a∧(i:Int)∈W then HU n a W i++[qH n i] else HU n a W i
theorem Xg (n a:Nat) (W:List Int):∀ i,(HU n a W i).length≤i
 | 0=>se _
 | i+1=>by
   have:=Xg n a W i;unfold HU;split
   ·simp;omega
   ·omega
theorem af2 {n a i:Nat} {W:List Int} (h:i % 2=a):HU n a W (i+2)=if (i:Int)∈W then HU n a W i++[qH n i] else HU n a W i:=by
 rw [show i+2=(i+1)+1 from rfl,HU,if_neg (by omega),HU];by_cases hw:(i:Int)∈W
 ·rw [if_pos ⟨h,hw⟩,if_pos hw]
 ·rw [if_neg fun k=>hw k.2,if_neg hw]
theorem Xh (n a:Nat):∀ i,HU n a [] i=[]
 | 0=>rfl
 | i+1=>by rw [HU,if_neg (by simp),Xh n a i]
theorem Xi {n a i:Nat} (h:i % 2=a):∀ j,HU n a [(i:Int)] j=if i<j then [qH n i] else []
 | 0=>rfl
 | j+1=>by
   rw [HU,Xi h j];by_cases e:j=i
   ·subst e;rw [if_pos ⟨h,by simp⟩,if_neg (by omega),if_pos (by omega)];rfl
   ·rw [if_neg (by rintro ⟨_,ae⟩;simp at ae;omega)];by_cases aF:i<j
    ·rw [if_pos aF,if_pos (by omega)]
    ·rw [if_neg aF,if_neg (by omega)]
theorem Y5 {i a:Nat} {W:List Int} {g:Nat→Int} (h:i % 2=a):q5 (i+2) (fun j=>if j % 2=a∧(j:Int) ∉ W then g j else 0)=q5 i (fun j=>if j % 2=a∧(j:Int) ∉ W then g j else 0)+if (i:Int) ∉ W then g i else 0:=by
 simp only [q5];rw [if_neg (show ¬ ((i+1) % 2=a∧((i+1:Nat):Int) ∉ W) by omega),tJ];by_cases hw:(i:Int) ∉ W
 ·rw [if_pos ⟨h,hw⟩,if_pos hw]
 ·rw [if_neg fun k=>hw k.2,if_neg hw]
section
variable {p:qm} {o:List Int}
theorem qA.Ml (h:rj p) (k:qA p.1.length o):o.length≤7:=by have:=h.len;have:=k.1;omega
theorem RT (h:rj p) (k:qA p.1.length o) {b a:Nat} (af:b<128) {W:List Int} (l9:∀ j,j<8→b.testBit j=decide ((j:Int)∈W)) {K:List Int→Int→Int→Option Bool} :
  ∀ (m i:Nat),i % 2=a→i≤o.length+1→o.length+1-i<m →
    KZ p o (b:Int) K m (HU o.length a W i) (q5 i fun j=>if j % 2=a∧(j:Int) ∉ W then qH o.length j*(qO p.1 o j).1 else 0) (q5 i fun j=>if j % 2=a∧(j:Int) ∉ W then qH o.length j*(qO p.1 o j).2 else 0) (i:Int)=K (HU o.length a W o.length) (qI p.1 o a W Prod.fst) (qI p.1 o a W Prod.snd)
 | 0,_,_,_,h=>absurd h (by omega)
 | m+1,i,cq,hi,hm=>by
   rw [KZ];have fI:=qA.len h k;have Lg:=qA.Ml h k;by_cases aR:i<o.length
   ·rw [if_pos (decide_eq_true (by omega)),qw (by omega),qw (rX k i aR),TE aR fI,sc,qw (by omega),Nd af (by omega),l9 i (by omega)];(have rJ:w ((i:Int)+2)=((i+2:Nat):Int):=by rw [qF (n:=(i:Int)+2) (by omega)];omega);have a8:=RT h k af l9 (a:=a) (K:=K) m (i+2) (by omega) (by omega) (by omega);rw [af2 cq,Y5 cq,Y5 cq] at a8;by_cases hw:(i:Int)∈W
    ·rw [if_pos (by simp [hw]),qw (by have:=Xg o.length a W i;omega),rJ];rw [if_pos hw,if_neg (fun k=>k hw),if_neg (fun k=>k hw),tJ,tJ] at a8;exact a8
    ·have ah:=Iu h.s (rX k) aR;have eY:=Hy (KF aR fI) (b:=(qO p.1 o i).1) (B:=100) ⟨by have:=ah.1;omega,ah.2.1⟩;have abT:=Hy (KF aR fI) (b:=(qO p.1 o i).2) (B:=10) ⟨ah.2.2.1,ah.2.2.2⟩;have lN:=Lv (n:=i) (g:=fun i=>if i % 2=a∧(i:Int) ∉ W then qH o.length i*(qO p.1 o i).1 else 0) (B:=1000) fun j aw=>ME (B:=100) (by omega) fI (by omega) (by have:=Iu h.s (rX k) (i:=j) (by omega);exact ⟨by have:=this.1;omega,this.2.1⟩);have abU:=Lv (n:=i) (g:=fun i=>if i % 2=a∧(i:Int) ∉ W then qH o.length i*(qO p.1 o i).2 else 0) (B:=100) fun j aw=>ME (B:=10) (by omega) fI (by omega) (by have:=Iu h.s (rX k) (i:=j) (by omega);exact ⟨this.2.2.1,this.2.2.2⟩);rw [if_neg (by simp [hw]),rJ];rw [if_neg hw,if_pos hw,if_pos hw] at a8;have e1:ix p.1 (ix o (i:Int))=qO p.1 o i:=rfl;rw [e1,qF (n:=qH o.length i*(qO p.1 o i).1) (by omega),qF (n:=qH o.length i*(qO p.1 o i).2) (by omega),qF (by omega),qF (by omega)];exact a8
   ·rw [if_neg (by simpa using by omega)];by_cases e:i=o.length
    ·subst e;rfl
    ·(obtain rfl:i=o.length+1:=by omega);rw [HU,if_neg (by omega)];simp only [q5];rw [if_neg (by omega),if_neg (by omega),tJ,tJ];rfl
theorem ZY (h:rj p) (k:qA p.1.length o) {b a:Nat} (cq:a<2) (af:b<128) {W:List Int} (l9:∀ j,j<8→b.testBit j=decide ((j:Int)∈W)) :
  H6 p o (a:Int) (b:Int)=(if (decide (p.2.1=p.2.2))=true then
      (JN (HU o.length a W o.length) (w ((-10:Int)*p.2.1)) (w ((100:Int)+(w ((10:Int)*p.2.1)))) (w ((w (-(qI p.1 o a W Prod.fst)))-(w (qI p.1 o a W Prod.snd*p.2.1))))).bind fun bh=>some bh
   else
    (JN (HU o.length a W o.length) (0:Int) (100:Int) (w (-(qI p.1 o a W Prod.fst)))).bind fun eH =>
    if eH=true then (JN (HU o.length a W o.length) (-10:Int) (10:Int) (w (-(qI p.1 o a W Prod.snd)))).bind fun qP=>some qP
    else some false):=by
 have aI:=h.len;have adH:=k.1;unfold H6;rcases (show a=0∨a=1 by omega) with rfl | rfl
 ·exact RT h k af l9 qh 0 rfl (by omega) (r5 (by omega))
 ·exact RT h k af l9 (a:=1) qh 1 rfl (by omega) (r5 (by omega))
theorem ajp (lo hi s:Int):JN [] lo hi s=some (decide (s=0)):=by
 obtain ⟨m,hm⟩:=Nj;unfold JN;rw [hm];show LZ (M6 (m+1)) [] lo hi s=_;unfold LZ;exact if_pos (show decide (((0:Nat):Int)=0)=true from rfl)
theorem TG {x lo hi s:Int} (ao:lo≤hi) (ah:-1000000≤s∧s≤1000000):∃ r,JN [x] lo hi s=some r∧(r=true↔∃ y,lo≤y∧y≤hi∧x*y=s):=by
 obtain ⟨m,hm⟩:=Nj;unfold JN;rw [hm];show ∃ r,LZ (M6 (m+1)) [x] lo hi s=some r∧_;unfold LZ;rw [if_neg (by simp),if_pos (by simp),qw (by simp)];have e1:ix [x] (0:Int)=x:=rfl;rw [e1];by_cases aj:x=0
 ·subst aj;rw [if_neg (by decide),if_pos (by decide)];refine ⟨_,rfl,?_⟩;rw [decide_eq_true_eq];constructor
  ·rintro rfl;exact ⟨lo,by omega,by omega,by omega⟩
  ·rintro ⟨y,_,_,aF⟩;omega
 ·rw [if_pos (by simpa using aj),qw aj];have a_:(s.tdiv x).natAbs≤s.natAbs:=Int.natAbs_tdiv_le_natAbs _ _;rw [qF (n:=s.tdiv x) (by omega)];have a1:s.tmod x=0→x*s.tdiv x=s:=fun aQ=>by
   have:=Int.tmod_def s x;omega
  have hu:∀ y,x*y=s→s.tmod x=0∧s.tdiv x=y:=fun y aY=>by
   subst aY;exact ⟨Int.mul_tmod_right _ _,Int.mul_tdiv_cancel_left _ aj⟩
  have nV:¬ (decide (x=0))=true:=by simpa using aj
  by_cases aQ:s.tmod x=0
  ·rw [if_pos (decide_eq_true aQ),qw aj];by_cases ab:lo≤s.tdiv x
   ·rw [if_pos (decide_eq_true ab),qw aj];by_cases ae:s.tdiv x≤hi
    ·rw [if_pos (decide_eq_true ae)];exact ⟨true,rfl,fun _=>⟨_,ab,ae,a1 aQ⟩,fun _=>rfl⟩
    ·rw [if_neg (by simpa using ae),if_neg nV];refine ⟨false,rfl,fun h=>absurd h (by decide),?_⟩;rintro ⟨y,_,ba,bO⟩;have:=(hu y bO).2;omega
   ·rw [if_neg (by simpa using ab),if_neg nV];refine ⟨false,rfl,fun h=>absurd h (by decide),?_⟩;rintro ⟨y,aF,_,bO⟩;have:=(hu y bO).2;omega
  ·rw [if_neg (by simpa using aQ),if_neg nV];refine ⟨false,rfl,fun h=>absurd h (by decide),?_⟩;rintro ⟨y,_,_,bO⟩;exact absurd (hu y bO).1 aQ
theorem abR {d y:Int} (a1:0≤d∧d≤50) (ab:-10*d≤y) (ae:y≤100+10*d):∃ s,q2 s∧re d s=y:=by
 unfold q2 re;by_cases aF:y<0
 ·have aB:0<d:=by omega
  have aA:=Int.emod_nonneg y (show d≠0 by omega);have aG:=Int.emod_lt_of_pos y aB;have aT:=Int.emod_def y d;have bq:-10≤y / d:=(Int.le_ediv_iff_mul_le aB).2 (by omega);have bf:y / d<0:=Int.ediv_neg_of_neg_of_pos aF aB;refine ⟨(y % d,y / d),?_,?_⟩
  ·simp only;omega
  ·simp only;rw [aT,uE d];omega
 ·by_cases ba:y≤100
  ·exact ⟨(y,0),by simp only;omega,by simp⟩
  ·(have aB:0<d:=by omega);have aA:=Int.emod_nonneg (100-y) (show d≠0 by omega);have aG:=Int.emod_lt_of_pos (100-y) aB;have aT:=Int.emod_def (100-y) d;have bq:-10≤(100-y) / d:=(Int.le_ediv_iff_mul_le aB).2 (by omega);have bf:(100-y) / d<0:=Int.ediv_neg_of_neg_of_pos (by omega) aB;refine ⟨(100-(100-y) % d,-((100-y) / d)),?_,?_⟩
   ·simp only;omega
   ·simp only;rw [aT,Int.neg_mul,uE d];omega
theorem abS {d:Int} {s:qM} (a1:0≤d∧d≤50) (ah:q2 s):-10*d≤re d s∧re d s≤100+10*d:=by
 obtain ⟨ab,ae,aF,ba⟩:=ah;have bl:=vH aF a1.1;have cr:=vH ba a1.1;unfold re;omega
theorem Tx (h:rj p) (k:qA p.1.length o) {a:Nat} (cq:a<2):H6 p o (a:Int) 0=some (decide (r7 p o a)):=by
 have hle:=h.le;have bC:=h.lo;have GO:=h.hi;have e:=ZY h k cq (b:=0) (by omega) (W:=[]) (fun j _=>by simp);rw [show ((0:Nat):Int)=0 from rfl] at e;rw [e,Xh];have a7:=Ni (a:=a) (W:=[]) h.s (rX k) (qA.len h k);have a9:=N5 (a:=a) (W:=[]) h.s (rX k) (qA.len h k);have br:=Hy (b:=p.2.1) (B:=50) a9 (by omega);simp only [ajp,sc];rw [qF (n := -(qI p.1 o a [] Prod.fst)) (by omega),qF (n := -(qI p.1 o a [] Prod.snd)) (by omega),qF (n:=qI p.1 o a [] Prod.snd*p.2.1) (by omega),qF (by omega)];by_cases he:p.2.1=p.2.2
 ·rw [if_pos (decide_eq_true he)];congr 1;rw [tA,decide_eq_true_eq,decide_eq_true_eq,OQ,N9 he];omega
 ·rw [if_neg (by simpa using he)];by_cases aQ:qI p.1 o a [] Prod.fst=0
  ·rw [if_pos (decide_eq_true (by omega))];congr 1;rw [tA,decide_eq_true_eq,decide_eq_true_eq,OQ,Lx he];omega
  ·rw [if_neg (by rw [decide_eq_true_eq];omega)];congr 1;rw [tA,decide_eq_true_eq,OQ,Lx he];constructor
   ·intro ak;cases ak
   ·rintro ⟨ab,_⟩;exact absurd ab aQ
theorem ZX (h:rj p) (k:qA p.1.length o) {i a:Nat} (hi:i<o.length) (cq:i % 2=a):H6 p o (a:Int) ((2 ^ i:Nat):Int)=some (decide (H9 p o a i)):=by
 have hle:=h.le;have bC:=h.lo;have GO:=h.hi;have Lg:=qA.Ml h k;have Rj:2 ^ i<128:=Nat.pow_lt_pow_right (by omega) (show i<7 by omega);have e:=ZY h k (a:=a) (by omega) Rj (W:=[(i:Int)]) (fun j _=>by rw [uA];simp;omega);rw [e,Xi cq,if_pos hi];have a7:=Ni (a:=a) (W:=[(i:Int)]) h.s (rX k) (qA.len h k);have a9:=N5 (a:=a) (W:=[(i:Int)]) h.s (rX k) (qA.len h k);have br:=Hy (b:=p.2.1) (B:=50) a9 (by omega);rw [qF (n := -(qI p.1 o a [(i:Int)] Prod.fst)) (by omega),qF (n := -(qI p.1 o a [(i:Int)] Prod.snd)) (by omega),qF (n:=qI p.1 o a [(i:Int)] Prod.snd*p.2.1) (by omega),qF (n := -(qI p.1 o a [(i:Int)] Prod.fst)-_) (by omega),qF (n := -10*p.2.1) (by omega),qF (n:=10*p.2.1) (by omega),qF (n:=100+10*p.2.1) (by omega)];obtain ⟨U,r8⟩:∃ U,U=qI p.1 o a [(i:Int)] Prod.fst:=⟨_,rfl⟩;obtain ⟨V,jH⟩:∃ V,V=qI p.1 o a [(i:Int)] Prod.snd:=⟨_,rfl⟩;have KA:∀ s,I0 p o a i s↔(U+qH o.length i*s.1)+(V+qH o.length i*s.2)*p.2.1=0∧(U+qH o.length i*s.1)+(V+qH o.length i*s.2)*p.2.2=0:=fun s=>by rw [r8,jH];exact Rf
 rw [←r8,←jH];rw [←r8] at a7;rw [←jH] at a9 br;generalize qH o.length i=x at KA ⊢;by_cases he:p.2.1=p.2.2
 ·rw [if_pos (decide_eq_true he)];obtain ⟨r,ab,ae⟩:=TG (x:=x) (lo := -10*p.2.1) (hi:=100+10*p.2.1) (s := -U-V*p.2.1) (by omega) (by omega);rw [ab,sc];congr 1;rw [tA,ae,decide_eq_true_eq,L9];have b9:∀ s:qM,U+x*s.1+(V+x*s.2)*p.2.1=U+V*p.2.1+x*re p.2.1 s:=fun s=>by unfold re;grind
  constructor
  ·rintro ⟨y,aF,ba,bO⟩;obtain ⟨s,bP,cL⟩:=abR (d:=p.2.1) (by omega) aF ba;refine ⟨s,bP,(KA s).2 ((N9 he).2 ?_)⟩;rw [b9,cL];omega
  ·rintro ⟨s,bP,cL⟩;have cO:=(N9 he).1 ((KA s).1 cL);rw [b9] at cO;obtain ⟨ck,dk⟩:=abS (d:=p.2.1) (by omega) bP;exact ⟨_,ck,dk,by omega⟩
 ·rw [if_neg (by simpa using he)];obtain ⟨r,ab,ae⟩:=TG (x:=x) (lo:=0) (hi:=100) (s := -U) (by omega) (by omega);obtain ⟨bh,aF,ba⟩:=TG (x:=x) (lo := -10) (hi:=10) (s := -V) (by omega) (by omega);rw [ab,aF,sc];have ak:H9 p o a i↔r=true∧bh=true:=by
   rw [ae,ba,L9];constructor
   ·rintro ⟨s,bP,cL⟩;have cO:=(Lx he).1 ((KA s).1 cL);obtain ⟨aJ,aN,b',hn⟩:=bP;exact ⟨⟨s.1,aJ,aN,by omega⟩,⟨s.2,b',hn,by omega⟩⟩
   ·rintro ⟨⟨y,aJ,aN,n0⟩,⟨z,b',hn,aj7⟩⟩;exact ⟨(y,z),⟨aJ,aN,b',hn⟩,(KA _).2 ((Lx he).2 ⟨by simp only;omega,by simp only;omega⟩)⟩
  cases r with
  | true =>
    rw [if_pos rfl,sc];congr 1;rw [tA,decide_eq_true_eq,ak];simp
  | false =>
    rw [if_neg (by decide)];congr 1;rw [tA,decide_eq_true_eq,ak];simp
def H_ (b:Nat):Nat→Nat
 | 0=>0
 | i+1=>H_ b i+if b.testBit i=true then 1 else 0
theorem Va (b:Nat):∀ i,H_ b i≤i
 | 0=>se _
 | i+1=>by have:=Va b i;unfold H_;split <;> omega
theorem Wz {b:Nat} (af:b<128) {K:Int→Option Int}:∀ (m i:Nat),i≤8→8-i<m→L0 (b:Int) K m (H_ b i:Int) (i:Int)=K (H_ b 8:Int)
 | 0,_,_,h=>absurd h (by omega)
 | m+1,i,hi,hm=>by
   rw [L0];by_cases aR:i<8
   ·rw [if_pos (decide_eq_true (by omega)),qw (by omega),Nd af aR,Hq i (by omega)];have a8:=Wz af (K:=K) m (i+1) (by omega) (by omega);rw [←a8];have ak:=Va b i;have e:H_ b (i+1)=H_ b i+if b.testBit i=true then 1 else 0:=rfl;rw [e];congr 1;split
    ·rw [qF (by omega)];omega
    ·rw [qF (by omega)];omega
   ·(obtain rfl:i=8:=by omega);rw [if_neg (by decide)]
theorem aju {b:Nat} (af:b<128):Ox (b:Int)=some (H_ b 8:Int):=by
 unfold Ox;exact Wz af qh 0 (by omega) (r5 (by omega))
theorem acq:∀ b:Fin 128,H_ b.1 8=0→b.1=0:=by decide +kernel
theorem Vd:∀ b:Fin 128,H_ b.1 8=1→b.1=2 ^ b.1.log2∧b.1.log2<7:=by decide +kernel
theorem acp:∀ i:Fin 7,H_ (2 ^ i.1) 8=1:=by decide +kernel
def par (a b:Nat):Nat→Bool
 | 0=>true
 | i+1=>par a b i && (!(b.testBit i) || decide (i % 2=a))
theorem NN {a b:Nat}:∀ {n:Nat},par a b n=true↔∀ j,j<n→b.testBit j=true→j % 2=a
 | 0=>by simp [par]
 | n+1=>by
   unfold par;rw [su,NN];simp only [tC,Bool.not_eq_true',decide_eq_true_eq];constructor
   ·rintro ⟨ab,ae⟩ j aw af;by_cases e:j=n
    ·subst e;rcases ae with ae | ae
     ·rw [ae] at af;cases af
     ·exact ae
    ·exact ab j (by omega) af
   ·intro ab;refine ⟨fun j aw=>ab j (by omega),?_⟩;cases af:b.testBit n with
    | false=>exact .inl rfl
    | true=>exact .inr (ab n (by omega) af)
theorem Wx {a b:Nat} (af:b<128) (ao:o.length≤7) {K:Bool→Option Int}:∀ (m i:Nat),i≤o.length→o.length-i<m→Km o (a:Int) (b:Int) K m (par a b i) (i:Int)=K (par a b o.length)
 | 0,_,_,h=>absurd h (by omega)
 | m+1,i,hi,hm=>by
   rw [Km];by_cases aR:i<o.length
   ·have a8:=Wx (a:=a) af ao (K:=K) m (i+1) (by omega) (by omega);rw [if_pos (decide_eq_true (by omega)),Hq i (by omega)];rw [par] at a8;by_cases aB:par a b i=true
    ·rw [if_pos aB,qw (by omega),Nd af (by omega)];cases ak:b.testBit i with
     | false =>
       rw [if_pos (by simp)];rw [aB,ak] at a8;rw [aB];exact a8
     | true =>
       rw [if_neg (by decide),qw (by decide),Lw];rw [aB,ak] at a8;rw [←a8];congr 1;rw [tA];simp;omega
    ·rw [if_neg aB];(have O4:par a b i=false:=by simpa using aB);rw [O4] at a8 ⊢;exact a8
   ·(obtain rfl:i=o.length:=by omega);rw [if_neg (by simp)]
theorem RU {a v:Nat} (ao:o.length≤7) {K:Unit→Option Int} {G:Nat→Bool} (rF:∀ b,b<2 ^ o.length→par a b o.length=true→H_ b 8=v→H6 p o (a:Int) (b:Int)=some (G b)) :
  ∀ (m b:Nat),b≤2 ^ o.length→2 ^ o.length-b<m→Kl p o (a:Int) (v:Int) K m (b:Int)=if ∃ c,c<2 ^ o.length∧b≤c∧par a c o.length=true∧H_ c 8=v∧G c=true then some (v:Int) else K ()
 | 0,_,_,h=>absurd h (by omega)
 | m+1,b,af,hm=>by
   have Rj:2 ^ o.length≤128:=Nat.pow_le_pow_right (by omega) (show o.length≤7 by omega);have b9:w ((1:Int)*2 ^ (Nat.min ((o.length:Int)).toNat 64))=((2 ^ o.length:Nat):Int):=by
    rw [tD,Int.one_mul,show Nat.min o.length 64=o.length from Nat.min_eq_left (by omega)]
    have:((2:Int) ^ o.length)=((2 ^ o.length:Nat):Int):=by simp
    rw [this,qF (by omega)]
   rw [Kl,qw (by omega),b9];by_cases aR:b<2 ^ o.length
   ·rw [if_pos (decide_eq_true (by omega))];refine (Wx (a:=a) (o:=o) (b:=b) (by omega) ao qh 0 (by omega) (r5 (by omega))).trans ?_;have a8:=RU ao (K:=K) rF m (b+1) (by omega) (by omega);have fp:¬ (par a b o.length=true∧H_ b 8=v∧G b=true)→((∃ c,c<2 ^ o.length∧b≤c∧par a c o.length=true∧H_ c 8=v∧G c=true)↔∃ c,c<2 ^ o.length∧b+1≤c∧par a c o.length=true∧H_ c 8=v∧G c=true):=fun aI=>by
     constructor
     ·rintro ⟨c,ab,ae,aF⟩;by_cases e:c=b
      ·subst e;exact absurd aF aI
      ·exact ⟨c,ab,by omega,aF⟩
     ·rintro ⟨c,ab,ae,aF⟩;exact ⟨c,ab,by omega,aF⟩
    rw [Hq b (by omega),a8,aju (by omega)];by_cases aB:par a b o.length=true
    ·rw [if_pos aB,sc];by_cases ak:H_ b 8=v
     ·rw [if_pos (decide_eq_true (by omega)),rF b aR aB ak,sc];by_cases aO:G b=true
      ·rw [if_pos aO,if_pos ⟨b,aR,se _,aB,ak,aO⟩]
      ·rw [if_neg aO];simp only [fp fun k=>aO k.2.2]
     ·rw [if_neg (by simpa using by omega)];simp only [fp fun k=>ak k.2.1]
    ·rw [if_neg aB];simp only [fp fun k=>aB k.1]
   ·rw [if_neg (by rw [decide_eq_true_eq];omega),if_neg (by rintro ⟨c,ab,ae,_⟩;omega)]
def HY (p:qm) (o:List Int) (a:Nat):Nat:=if r7 p o a then 0 else if ∃ i,i<o.length∧i % 2=a∧H9 p o a i then 1 else 2
theorem Z3 (h:rj p) (k:qA p.1.length o) {a:Nat} (cq:a<2):M4 p o (a:Int)=some (HY p o a:Int):=by
 have Lg:=qA.Ml h k;have Rj:2 ^ o.length≤128:=Nat.pow_le_pow_right (by omega) (show o.length≤7 by omega);obtain ⟨m,hm⟩:∃ m,qh=m+3:=⟨qh-3,rfl⟩;have VM:2 ^ o.length-0<qh:=r5 (by omega);unfold M4;rw [hm,JW,if_pos (by decide)]
 have ahq:=RU (p:=p) (o:=o) (a:=a) (v:=0) Lg (K:=fun _=>JW p o (a:Int) (fun _=>some 2) (m+2) (w (0+1))) (G:=fun _=>decide (r7 p o a)) (fun b af aB ak=>by
  have:=acq ⟨b,by omega⟩ ak;simp only at this;subst this
  exact Tx h k cq) qh 0 (sE _) VM
 refine ahq.trans ?_;unfold HY;by_cases aP:r7 p o a
 ·rw [if_pos aP,if_pos ⟨0,Nat.pow_pos (by omega),se _,NN.2 fun j _ aw=>by simp at aw,rfl,decide_eq_true aP⟩]
 ·rw [if_neg aP,if_neg (by rintro ⟨c,_,_,_,_,bO⟩;exact aP (of_decide_eq_true bO))];rw [show w (0+1)=((1:Nat):Int) from rfl,JW,if_pos (by decide)]
  have s1:=RU (p:=p) (o:=o) (a:=a) (v:=1) Lg (K:=fun _=>JW p o (a:Int) (fun _=>some 2) (m+1) (w (((1:Nat):Int)+1))) (G:=fun b=>decide (H9 p o a b.log2)) (fun b af aB ak=>by
   obtain ⟨ab,ae⟩:=Vd ⟨b,by omega⟩ ak;simp only at ab ae;have aF:b.log2<o.length:=by
    rw [ab] at af;exact (uQ (by omega)).1 af
   have ba:b.log2 % 2=a:=NN.1 aB _ aF (by rw [ab,vQ,uA];simp);have:=ZX h k aF ba;rw [←ab] at this
   exact this) qh 0 (sE _) VM
  refine s1.trans ?_;by_cases ak:∃ i,i<o.length∧i % 2=a∧H9 p o a i
  ·rw [if_pos ak,if_pos]
   ·obtain ⟨i,ab,ae,aF⟩:=ak;refine ⟨2 ^ i,(uQ (by omega)).2 ab,sE _,NN.2 fun j _ aw=>?_,acp ⟨i,by omega⟩,decide_eq_true (by rw [vQ];exact aF)⟩;rw [uA] at aw;have:=of_decide_eq_true aw;omega
  ·rw [if_neg ak,if_neg]
   ·rw [JW,if_neg (by decide)];rfl
   ·rintro ⟨c,ab,_,aF,ba,bO⟩;obtain ⟨bP,cL⟩:=Vd ⟨c,by omega⟩ ba;simp only at bP cL;refine ak ⟨c.log2,?_,?_,of_decide_eq_true bO⟩
    ·rw [bP] at ab;exact (uQ (by omega)).1 ab
    ·refine NN.1 aF _ ?_ (by rw [bP,vQ,uA];simp);rw [bP] at ab;exact (uQ (by omega)).1 ab
theorem Mb (p:qm) (o:List Int) (a:Nat):HY p o a≤2:=by unfold HY;split <;> (try split) <;> omega
theorem ai6 (h:rj p) (k:qA p.1.length o):Ol p o=some ((HY p o 0+HY p o 1:Nat):Int):=by
 have aQ:=Z3 h k (a:=0) (by omega);have ab:=Z3 h k (a:=1) (by omega);have db:=Mb p o 0;have bl:=Mb p o 1;unfold Ol;rw [show (0:Int)=((0:Nat):Int) from rfl,aQ,sc,show (1:Int)=((1:Nat):Int) from rfl,ab,sc,qF (by omega),Int.natCast_add]
theorem aiv (aB:p.1.length≤1000) (ao:o.length≤12):Od p o=some (if rU p o=0 then (((HY p o 0+HY p o 1:Nat):Int),0) else (0,rU p o)):=by
 unfold Od;rw [ZO aB (by omega),sc];by_cases h:rU p o=0
 ·obtain ⟨ad,al⟩:=Ln.1 h;rw [if_neg (by simpa using h),if_pos h,ai6 ad al,sc]
 ·rw [if_pos (by simpa using h),if_neg h,sc]
end
end Go.Proofs.YtkoioidpbbbaiaaGreat.Ab


namespace Go.Proofs.YtkoioidpbbbaiaaGreat.Ab
open Go
set_option maxRecDepth 20000
set_option maxHeartbeats 4000000
noncomputable def Qa:gB :=
 .loop (some (qb false [1,3,4,1,58])) (.seq (p5 [p6 17 8,p6 18 2,qZ 19 18,qp 20 17 19 .lss] (.cond (.m_ 20) .skip (.exit 0))) (.seq (.block 1 (p5 [p6 23 2,p6 24 8,rm 25 23 24 3,p3 26 [.Bs 25] (.zE (.str 3)),p3 9 [] (.alloc [.int .i64 0,.int .i64 0,.int .i64 0]),⟨none,[.m_ 9,.jm 26],none,none,.st 3⟩] (.seq (rh [p3 27 [.m_ 9] (.yM 0),ql 28 27,qu 29 28 0 .lss,p4 30 29,ch 31 [.m_ 9] 30 false (.yM 0),ch 32 [.Bs 31] 30 false (.zE .one),ch 33 [.m_ 3] 30 false (.yM 0),ch 34 [.Bs 33] 30 false (.zE .one),ch 35 [.jm 34] 30 false .zJ,ch 36 [.Bs 32,.Bs 35] 30 false (.bin .geq),p3 37 [.m_ 30,.cv (.bool true),.Bs 36] .pick,p4 38 37,ch 39 [.m_ 8] 38 false .mR,ch 40 [.Bs 39,.cv (.int .i64 0)] 38 false (.bin .gtr),ch 41 [.jm 40] 38 false .mR,ch 42 [.m_ 9] 41 true (.yM 0),ch 43 [.Bs 42] 41 true (.zE .one),ch 44 [.m_ 2] 41 true .mR,ch 45 [.m_ 8] 41 true .mR,ch 46 [.Bs 45,.cv (.int .i64 1)] 41 true (.bin .sub),ch 47 [.Bs 44,.Bs 46] 41 true (.kV 3),ch 48 [.Bs 47] 41 true (.yM 0),ch 49 [.Bs 48] 41 true (.zE .one),ch 50 [.Bs 43,.Bs 49] 41 true (.bin .leq),ch 51 [.m_ 41,.Bs 50,.cv (.bool false)] 38 false .pick,p3 52 [.m_ 38,.cv (.bool true),.Bs 51] .pick,p4 53 52,ch 54 [.m_ 9] 53 false (.yM 1),ch 55 [.Bs 54] 53 false (.zE (.str 2)),⟨some 56,[.cv (.func 53 [] []),.m_ 55],some (53,false),none,.call 3⟩,ch 57 [.Bs 56] 53 false (.un .not),p3 58 [.m_ 53,.cv (.bool true),.Bs 57] .pick]) (.cond (.m_ 58) (p5 [qg 6 0,qg 7 3] .ret) .skip)))) (qE [p4 21 8,qV 22 21 1,p4 8 22])))
noncomputable def aaf:gB :=
 p5 [p3 3 [.jm 0] .box,qg 6 0,qg 7 0] (.seq (p5 [p3 10 [.m_ 3] (.zE (.str 3)),p6 11 1,p3 12 [.cv (.func 52 [] []),.m_ 10,.m_ 11] (.call 3),qu 13 12 0 .neq] (.cond (.m_ 13) (p5 [p3 14 [.Bs 3] (.zE (.str 3)),p4 15 1,p3 16 [.cv (.func 52 [] []),.m_ 14,.m_ 15] (.call 3),qg 6 0,p4 7 16] .ret) .skip)) (.seq (p5 [qg 8 0] (.block 0 Qa)) (.seq (p5 [p3 59 [.Bs 3] (.zE (.str 3)),p6 60 2,p3 61 [.cv (.func 54 [] []),.m_ 59,.m_ 60] (.call 3),p4 62 1,p3 63 [.cv (.func 39 [] []),.m_ 61,.m_ 62] (.call 3),qu 64 63 0 .gtr] (.cond (.m_ 64) (p5 [qg 6 0,qg 7 23] .ret) .skip)) (p5 [p4 65 2,qZ 66 65,p4 6 66,qg 7 0] .ret))))
theorem aeS:qt Tryz.prog QL 20=some (aaf,67,[.tmp 6,.tmp 7]):=by kernel_rfl
def Kf (p:(qj×(Int×Int))) (changes:(List (Int×(Int×Int)))) (qc:Unit→Option (Int×Int)):Nat→Int→Option (Int×Int)
 | 0,_=>none
 | m+1,s1 =>
   if (decide (s1<(changes.length:Int)))=true then
    qq (0≤s1∧s1<(changes.length:Int)) <|
    if (decide ((ix changes s1).1<(0:Int)))=true then
     some ((0:Int),(3:Int))
    else
     if (decide ((p.1.length:Int)≤(ix changes s1).1))=true then
      some ((0:Int),(3:Int))
     else
      if (decide ((0:Int)<s1))=true then
       qq (0≤(w (s1-(1:Int)))∧(w (s1-(1:Int)))<(changes.length:Int)) <|
       if (decide ((ix changes s1).1≤(ix changes (w (s1-(1:Int)))).1))=true then
        some ((0:Int),(3:Int))
       else
        (LR ((ix changes s1).2)).bind fun eH =>
        if eH=true then
         Kf p changes qc m (w (s1+(1:Int)))
        else
         some ((0:Int),(3:Int))
      else
       (LR ((ix changes s1).2)).bind fun qP =>
       if qP=true then
        Kf p changes qc m (w (s1+(1:Int)))
       else
        some ((0:Int),(3:Int))
   else
    qc ()
def KO (p:(qj×(Int×Int))) (order:qa) (changes:(List (Int×(Int×Int)))):Option (Int×Int) :=
 (KX p order).bind fun aS =>
 if (decide (aS≠(0:Int)))=true then
  (KX p order).bind fun bh =>
  some ((0:Int),bh)
 else
  Kf p changes (fun _ =>
    (Oj p changes).bind fun q3 =>
    (LL q3 order).bind fun rP =>
    if (decide ((0:Int)<rP))=true then
     some ((0:Int),(23:Int))
    else
     some ((changes.length:Int),(0:Int))) qh (0:Int)
theorem aiu {p:(qj×(Int×Int))} {changes:(List (Int×(Int×Int)))} {qc:Unit→Option (Int×Int)} {s1:Int} {order:qa} {v:(Int×Int)} {Q:rR}   (jG:qK [.tmp 6,.tmp 7] Q (fun v=>(.tuple [(hX v.1),(hX v.2)])) v) (q':∀ (Js:List ar) (qe:List I),qc ()=some v→rk 67 [(1,(qy order .shared)),(2,(.av (changes.flatMap qx) changes.length .shared)),(3,(.ptr 0 0))] qe→Q (.exit 0) qe (ar.cells [(qY p.1 .shared),(hX p.2.1),(hX p.2.2)]::Js)) {T:List I} (bZ:eW (qb false [1,3,4,1,58]) T=qf 67 [(1,(qy order .shared)),(2,(.av (changes.flatMap qx) changes.length .shared)),(3,(.ptr 0 0)),(8,(hX s1))]) (h:Kf p changes qc qh s1=some v) :
  dN Tryz.prog QL 20 0 none Qa T [ar.cells [(qY p.1 .shared),(hX p.2.1),(hX p.2.2)]] Q:=by
 unfold Qa;refine wp_loop bZ ?_;refine .intro (fun m T H=>∃ (s1:Int) (T0:List ar),T=qf 67 [(1,(qy order .shared)),(2,(.av (changes.flatMap qx) changes.length .shared)),(3,(.ptr 0 0)),(8,(hX s1))]∧H=(ar.cells [(qY p.1 .shared),(hX p.2.1),(hX p.2.2)]::T0)∧Kf p changes qc m s1=some v) qh ⟨s1,[],rfl,rfl,h⟩ ?_;clear h bZ;rintro m T H ⟨s1,T0,rfl,rfl,h⟩;cases m
 ·exact rz h
 rename_i m;rw [Kf.eq_2] at h;conv=>whnf
 refine bs h (fun qG h=>?_) fun qG h=>?_
 ·rw [qG];conv=>whnf
  refine qD h id fun qW h=>?_;rw [IY qx 3 H7 changes s1 qW];conv=>whnf
  refine Ew (x:=ar.cells [(hX (0:Int)),(hX (0:Int)),(hX (0:Int))]) (by first | exact q6.h | rfl | (simp [sr,I.settle];done)) ?_
  conv=>whnf
  rw [HJ];refine Ew (x:=ar.cells [(hX (ix changes s1).1),(hX (ix changes s1).2.1),(hX (ix changes s1).2.2)]) (by first | exact q6.h | rfl | (simp [sr,I.settle];done)) ?_
  conv=>whnf
  refine bs h (fun q8 h=>?_) fun q8 h=>?_
  ·rw [q8];(conv=>whnf);exact qd h jG rfl rfl
  ·rw [q8];(conv=>whnf);refine Ew (x:=ar.cells [(hX (ix changes s1).1),(hX (ix changes s1).2.1),(hX (ix changes s1).2.2)]) (by first | exact q6.h | rfl | (simp [sr,I.settle];done)) ?_
   (conv=>whnf);refine bs h (fun qR h=>?_) fun qR h=>?_
   ·rw [qR];(conv=>whnf);exact qd h jG rfl rfl
   ·rw [qR];(conv=>whnf);refine bs h (fun rb h=>?_) fun rb h=>?_
    ·rw [rb];(conv=>whnf);refine Ew (x:=ar.cells [(hX (ix changes s1).1),(hX (ix changes s1).2.1),(hX (ix changes s1).2.2)]) (by first | exact q6.h | rfl | (simp [sr,I.settle];done)) ?_
     (conv=>whnf);refine qD h id fun q9 h=>?_;rw [IY qx 3 H7 changes (w (s1-(1:Int))) q9];(conv=>whnf);refine bs h (fun rv h=>?_) fun rv h=>?_
     ·rw [rv];(conv=>whnf);exact qd h jG rfl rfl
     ·rw [rv];(conv=>whnf);refine Ew (x:=ar.cells [(hX (ix changes s1).1),(hX (ix changes s1).2.1),(hX (ix changes s1).2.2)]) (by first | exact q6.h | rfl | (simp [sr,I.settle];done)) ?_
      (conv=>whnf);obtain ⟨eH,Hi,h⟩:=p' h;refine ⟨qi.pl,_,Tw Hi,rB,?_⟩;(conv=>whnf);cases eH
      ·(conv=>whnf);replace h:=rp rfl h;exact qd h jG rfl rfl
      ·(conv=>whnf);replace h:=rn rfl h;exact ⟨m,sg m,(w (s1+(1:Int))),_,rfl,rfl,h⟩
    ·rw [rb];(conv=>whnf);refine Ew (x:=ar.cells [(hX (ix changes s1).1),(hX (ix changes s1).2.1),(hX (ix changes s1).2.2)]) (by first | exact q6.h | rfl | (simp [sr,I.settle];done)) ?_
     (conv=>whnf);obtain ⟨qP,Hp,h⟩:=p' h;refine ⟨qi.pl,_,Tw Hp,rB,?_⟩;(conv=>whnf);cases qP
     ·(conv=>whnf);replace h:=rp rfl h;exact qd h jG rfl rfl
     ·(conv=>whnf);replace h:=rn rfl h;exact ⟨m,sg m,(w (s1+(1:Int))),_,rfl,rfl,h⟩
 ·rw [qG];conv=>whnf
  exact q' _ _ h ⟨rfl,rfl⟩
theorem Th {p:(qj×(Int×Int))} {order:qa} {changes:(List (Int×(Int×Int)))} {v:(Int×Int)} (h:KO p order changes=some v):qv 20 [(.agg [(.av (p.1.flatMap p_) p.1.length .shared),(hX p.2.1),(hX p.2.2)]),(.av (order.map hX) order.length .shared),(.av (changes.flatMap qx) changes.length .shared)] (.tuple [(hX v.1),(hX v.2)]):=by
 refine qN eD aeS rfl (Ir (p9 rfl (p9 rfl rfl))) fun Q bo=>?_;have jG:qK [.tmp 6,.tmp 7] Q (fun v=>(.tuple [(hX v.1),(hX v.2)])) v:=fun T H bD=>bo _ T H bD;unfold KO at h;unfold aaf;obtain ⟨r9,qC⟩:∃ c,Qa=c:=⟨_,rfl⟩;rw [qC];conv=>whnf
 obtain ⟨aS,gJ,h⟩:=p' h;refine ⟨qi.pl,_,P1 gJ,?_⟩;conv=>whnf
 refine bs h (fun gK h=>?_) fun gK h=>?_
 ·rw [gK];conv=>whnf
  obtain ⟨bh,qs,h⟩:=p' h;refine ⟨qi.pl,_,P1 qs,?_⟩;conv=>whnf
  exact qd h jG rfl rfl
 ·rw [gK];conv=>whnf
  subst qC;refine aiu ?_ ?_ (by exact rfl) h
  ·exact fun T H bD=>jG T H bD
  ·intro Js qe h qz;obtain ⟨rq,rfl⟩:=qz.ex;(conv=>whnf);obtain ⟨q3,Hv,h⟩:=p' h;refine ⟨qi.pl,_,ai5 Hv,?_⟩;(conv=>whnf);obtain ⟨rP,HZ,h⟩:=p' h;refine ⟨qi.pl,_,ZH HZ,?_⟩;(conv=>whnf);refine bs h (fun HH h=>?_) fun HH h=>?_
   ·rw [HH];(conv=>whnf);exact qd h jG rfl rfl
   ·rw [HH];(conv=>whnf);exact qd h jG rfl rfl
end Go.Proofs.YtkoioidpbbbaiaaGreat.Ab


namespace Go.Proofs.YtkoioidpbbbaiaaGreat.Ab
open Go
set_option maxRecDepth 20000
set_option maxHeartbeats 1000000
def r3:List qB→List qM→List qM
 | [],S=>S
 | c::r,S=>r3 r (S.set c.1.toNat c.2)
theorem N4:∀ (l:List qB) (S:List qM),(r3 l S).length=S.length
 | [],_=>rfl
 | c::r,S=>by rw [r3,N4 r];simp
def Hz (n:Int):List qB→Int→Prop
 | [],_=>True
 | c::r,m=>m≤c.1∧c.1<n∧q2 c.2∧Hz n r (c.1+1)
instance afP (n:Int):∀ (l:List qB) (m:Int),Decidable (Hz n l m)
 | [],_=>isTrue trivial
 | c::r,m=>by unfold Hz;exact @instDecidableAnd _ _ _ (@instDecidableAnd _ _ _ (@instDecidableAnd _ _ _ (afP n r (c.1+1))))
theorem S3 {n:Int}:∀ {l:List qB} {S:List qM} {m:Int},Hz n l m→(∀ s∈S,q2 s)→∀ s∈r3 l S,q2 s
 | [],_,_,_,h=>h
 | c::r,S,m,ao,h=>by
   refine S3 (l:=r) ao.2.2.2 fun s ah=>?_;rcases List.mem_or_eq_of_mem_set ah with ab | ab
   ·exact h s ab
   ·rw [ab];exact ao.2.2.1
theorem U' {n:Nat} (aI:n≤1000):∀ (l:List qB) (S:List qM) (m:Int),S.length=n→0≤m→m≤1000→L_ n l S m=some (if Hz n l m then some (r3 l S) else none)
 | [],S,m,_,_,_=>rfl
 | c::r,S,m,cl,hm,nM=>by
   unfold L_;rw [qF (n:=(n:Int)-1) (by omega),MY,sc];by_cases ab:m≤c.1∧c.1<(n:Int)
   ·rw [if_pos (by simp;omega),ZM,sc];by_cases ae:q2 c.2
    ·rw [if_neg (by simpa using ae),qw (by omega),qF (by omega),U' aI r _ _ (by simp [cl]) (by omega) (by omega)];by_cases aF:Hz n r (c.1+1)
     ·rw [if_pos aF,if_pos ⟨ab.1,ab.2,ae,aF⟩];rfl
     ·rw [if_neg aF,if_neg fun k=>aF k.2.2.2]
    ·rw [if_pos (by simpa using ae),if_neg fun k=>ae k.2.2.1]
   ·rw [if_neg (by simp;omega),if_neg fun k=>ab ⟨k.1,k.2.1⟩]
theorem U_ {n:Nat}:∀ (l:List qB) (S:List qM) (m:Int),S.length=n→0≤m→Hz n l m→K8 l S=some (r3 l S)
 | [],_,_,_,_,_=>rfl
 | c::r,S,m,cl,hm,ao=>by
   unfold K8;have ab:=ao.1;have ae:=ao.2.1;rw [qw (by omega)];exact U_ r _ (c.1+1) (by simp [cl]) (by omega) ao.2.2.2
section
variable {p:qm} {o:List Int} {l:List qB}
theorem PR (aB:p.1.length≤1000) (ao:o.length≤12) (ak:l.length≤1000):JK p o l=some (if rU p o=0 then (if Hz p.1.length l 0 then (if 0<q_ (r3 l p.1,p.2) o then (0,23) else ((l.length:Int),0)) else (0,3)) else (0,rU p o)):=by
 unfold JK;rw [PX aB ao,sc];by_cases h:rU p o=0
 ·rw [if_pos h,if_pos h];obtain ⟨ad,al⟩:=Ln.1 h;have J6:=ad.len;simp only;rw [if_neg (by decide),qw ⟨fun e=>by rw [e] at J6;simp at J6,aB,ak⟩,U' aB l p.1 0 rfl (by omega) (by omega),sc];by_cases ab:Hz p.1.length l 0
  ·rw [if_pos ab,if_pos ab];simp only;have dd:rj (r3 l p.1,p.2):=⟨by rw [N4];exact ad.n,S3 ab ad.s,ad.lo,ad.le,ad.hi⟩;rw [Og dd (by rw [N4];exact al),sc];by_cases ae:0<q_ (r3 l p.1,p.2) o
   ·rw [if_pos (decide_eq_true ae),if_pos ae]
   ·rw [if_neg (by simpa using ae),if_neg ae]
  ·rw [if_neg ab,if_neg ab]
 ·rw [if_neg h,if_neg h];simp only;rw [if_pos (decide_eq_true h)]
theorem Wg (aB:p.1.length≤1000) (ak:l.length≤1000) {K:Option (Int×Int)}:∀ (m i:Nat),i≤l.length→l.length-i<m→∀ (t:Int),(i=0→t=0)→(0<i→t=(ix l ((i-1:Nat):Int)).1+1∧0<t∧t≤1000) →
  Kf p l (fun _=>K) m (i:Int)=if Hz p.1.length (l.drop i) t then K else some (0,3)
 | 0,_,_,h,_,_,_=>absurd h (by omega)
 | m+1,i,hi,hm,t,aQ,ab=>by
   rw [Kf];by_cases aR:i<l.length
   ·rw [if_pos (decide_eq_true (by omega)),qw (by omega),sV aR,←rH aR,Hq i (by omega)];have a8:=Wg aB ak (K:=K) m (i+1) (by omega) (by omega) ((ix l (i:Int)).1+1) (fun e=>by omega);by_cases cq:(ix l (i:Int)).1<0
    ·rw [if_pos (decide_eq_true cq),if_neg];intro k;have:=k.1;by_cases e:i=0
     ·have:=aQ e;omega
     ·have:=ab (by omega);omega
    ·rw [if_neg (by simpa using by omega)];by_cases af:(p.1.length:Int)≤(ix l (i:Int)).1
     ·rw [if_pos (decide_eq_true af),if_neg fun k=>by have:=k.2.1;omega]
     ·rw [if_neg (by simpa using by omega),ZP];have fin:t≤(ix l (i:Int)).1→((some (decide (q2 (ix l (i:Int)).2))).bind fun r=>if r=true then Kf p l (fun _=>K) m ((i+1:Nat):Int) else some (0,3))=if Hz p.1.length (ix l (i:Int)::l.drop (i+1)) t then K else some (0,3):=fun ax=>by
       rw [sc];by_cases ah:q2 (ix l (i:Int)).2
       ·rw [if_pos (decide_eq_true ah),a8 fun _=>⟨by simp,by omega,by omega⟩];by_cases ai:Hz p.1.length (l.drop (i+1)) ((ix l (i:Int)).1+1)
        ·rw [if_pos ai,if_pos ⟨ax,by omega,ah,ai⟩]
        ·rw [if_neg ai,if_neg fun k=>ai k.2.2.2]
       ·rw [if_neg (by simpa using ah),if_neg fun k=>ah k.2.2.1]
      by_cases e:0<i
      ·obtain ⟨t1,t2,t3⟩:=ab e;rw [if_pos (decide_eq_true (by omega)),qF (by omega),show (i:Int)-1=((i-1:Nat):Int) by omega,qw (by omega)];by_cases a1:(ix l (i:Int)).1≤(ix l ((i-1:Nat):Int)).1
       ·rw [if_pos (decide_eq_true a1),if_neg fun k=>by have:=k.1;omega]
       ·rw [if_neg (by rw [decide_eq_true_eq];exact a1)];exact fin (by omega)
      ·rw [if_neg (by simpa using by omega)];exact fin (by have:=aQ (by omega);omega)
   ·rw [if_neg (by simpa using by omega),uR (by omega),if_pos (show Hz _ [] t from trivial)]
theorem Tg (aB:p.1.length≤1000) (ao:o.length≤12) (ak:l.length≤1000):KO p o l=some (if rU p o=0 then (if Hz p.1.length l 0 then (if 0<q_ (r3 l p.1,p.2) o then (0,23) else ((l.length:Int),0)) else (0,3)) else (0,rU p o)):=by
 unfold KO;rw [ZO aB (by omega),sc,sc];by_cases h:rU p o=0
 ·rw [if_neg (show ¬ decide (rU p o≠0)=true by simpa using h),if_pos h];obtain ⟨ad,al⟩:=Ln.1 h;have J6:=ad.len;have:=Wg aB ak (K:=(Oj p l).bind fun q3=>(LL q3 o).bind fun rP=>if (decide ((0:Int)<rP))=true then some ((0:Int),(23:Int)) else some ((l.length:Int),(0:Int))) qh 0 (by omega) (r5 (by omega)) 0 (fun _=>rfl) (fun h=>absurd h (by omega));rw [List.drop_zero] at this;refine this.trans ?_;by_cases ab:Hz p.1.length l 0
  ·rw [if_pos ab,if_pos ab];unfold Oj;rw [qw ⟨fun e=>by rw [e] at J6;simp at J6,aB,ak⟩,U_ l p.1 0 rfl (by omega) ab,sc,sc];have dd:rj (r3 l p.1,p.2):=⟨by rw [N4];exact ad.n,S3 ab ad.s,ad.lo,ad.le,ad.hi⟩;rw [ZG dd (by rw [N4];exact al),sc];by_cases ae:0<q_ (r3 l p.1,p.2) o
   ·rw [if_pos (decide_eq_true ae),if_pos ae]
   ·rw [if_neg (by simpa using ae),if_neg ae]
  ·rw [if_neg ab,if_neg ab]
 ·rw [if_pos (decide_eq_true h),if_neg h]
end
end Go.Proofs.YtkoioidpbbbaiaaGreat.Ab


namespace Go.Proofs.YtkoioidpbbbaiaaGreat.Ab
open Go
noncomputable def agL:gB :=
 .ou false [p4 48 9,p4 49 10,p3 50 [.Bs 49] (.yB 1 1 [.int .i64 0] [0]),p3 51 [.jm 48,.jm 50] (.app 1 8),p4 9 51]
noncomputable def Sx:gB :=
 p5 [p6 44 0,p6 45 10,p3 46 [.cv (.func 77 [] []),.jm 44,.jm 45] (.call 9),qu 47 46 0 .gtr] (.cond (.m_ 47) agL .skip)
noncomputable def Sy:gB :=
 .seq (p5 [p6 34 0,p6 35 1,p6 36 2,p6 37 10,p3 38 [.Bs 37] (.yB 1 1 [.int .i64 0] [0]),p3 39 [.cv (.func 60 [] []),.jm 34,.jm 35,.jm 36,.jm 38] (.call 1),p4 33 39,qQ 40 33 0,p3 41 [.Bs 33] (.ext 1),p4 11 40,p4 12 41] (p5 [p4 42 12] (.cond (.m_ 42) (p5 [p4 43 11,p4 6 43] .ret) .skip))) Sx
noncomputable def Yd:gB :=
 .seq (p5 [p6 29 10,qu 30 29 2 .rem,p6 31 2,qp 32 30 31 .neq] (.cond (.m_ 32) (.exit 1) .skip)) Sy
noncomputable def Ye:gB :=
 .block 1 (p5 [p6 28 26,p4 10 28] Yd)
noncomputable def Sz:gB :=
 .ou true [p4 59 13,p6 60 1,p6 61 15,rm 62 60 61 1,ql 63 62,p6 64 0,p3 65 [.Bs 64] .z4,qJ 66 65 0,qJ 67 66 0,ql 68 67,p6 69 1,p6 70 1,qZ 71 70,qu 72 71 1 .sub,p6 73 15,qp 74 72 73 .sub,rm 75 69 74 1,ql 76 75,rm 77 68 76 2,p3 78 [.Bs 77] (.zE (.str 2)),p3 79 [.Bs 63,.Bs 78] (.build [.int .i64 0,.int .i64 0,.int .i64 0] [(0,1),(1,2)]),p3 80 [.Bs 79] (.yB 1 3 [.int .i64 0,.int .i64 0,.int .i64 0] [0]),p3 81 [.jm 59,.jm 80] (.app 3 24),p4 13 81]
noncomputable def Yf:gB :=
 .block 3 (p5 [p3 57 [.m_ 53,.m_ 55] (.kV 1),ql 58 57,p4 15 58] Sz)
noncomputable def Pk:gB :=
 .loop (some (qb false [0,2,11,1,39,3,28])) (p5 [p3 56 [.m_ 55,.m_ 54] (.bin .lss)] (.seq (.cond (.m_ 56) .skip (.exit 2)) (.seq Yf (qE [qV 82 55 1,p4 55 82]))))
noncomputable def SA:gB :=
 .seq (p5 [p4 53 9,p3 54 [.m_ 53] .zJ,qg 55 0] (.block 2 Pk)) (p5 [p4 83 13,p4 6 83] .ret)
noncomputable def Pl:gB :=
 .loop (some (qb false [0,3,6,1,15,2,57])) (p5 [p3 27 [.m_ 26,.m_ 25] (.bin .lss)] (.seq (.cond (.m_ 27) .skip (.exit 0)) (.seq Ye (qE [qV 52 26 1,p4 26 52]))))
noncomputable def SB:gB :=
 .seq (p5 [p6 24 1,qZ 25 24,qg 26 0] (.block 0 Pl)) (p5 [p3 13 [.cv (.av [] 0 .full)] (.nil 3)] SA)
noncomputable def Yc:gB :=
 .seq (p5 [p6 17 0,p6 18 1,p6 19 2,p3 20 [.cv (.func 60 [] []),.jm 17,.jm 18,.jm 19,.cv (.av [] 0 .full)] (.call 1),p4 16 20,qQ 21 16 0,p3 22 [.Bs 16] (.ext 1),p4 7 21,p4 8 22] (p5 [p4 23 8] (.cond (.m_ 23) (p5 [p3 6 [.cv (.av [] 0 .full)] (.nil 3)] .ret) .skip))) (p5 [p3 9 [.cv (.av [] 0 .full)] (.nil 1)] SB)
noncomputable def Pj:gB :=
 p5 [p3 6 [.cv (.av [] 0 .full)] (.nil 3)] Yc
theorem R0:qt Go.Proofs.Tryz.prog K5 57=some (Pj,84,[.tmp 6]):=by kernel_rfl
end Go.Proofs.YtkoioidpbbbaiaaGreat.Ab


namespace Go.Proofs.YtkoioidpbbbaiaaGreat.Ab
open Go
set_option maxRecDepth 20000
set_option maxHeartbeats 4000000
def Jt (b:r_) (order:List Int) (qn:Int):List Int→Nat→List Int→Option (Nat×(List qB ⊕ List Int))
 | [],k,ad=>some (k,.inr ad)
 | i::r,k,ad =>
   if i.tmod 2≠qn then Jt b order qn r (k+1) ad
   else (Iw b order qn [i]).bind fun q=>if q.2=true then some (k+1,.inl q.1) else
    (Kn b i).bind fun p=>Jt b order qn r (k+1) (if 0<p then ad++[i] else ad)
def Jj (b:r_) (order:List Int):List Int→List qB→Option (List qB)
 | [],out=>some out
 | i::r,out=>qq (0≤i∧i<(order.length:Int)) <| qq (0≤w (w (order.length-1)-i)∧w (w (order.length-1)-i)<(order.length:Int)) <|
   qq (0≤ix order (w (w (order.length-1)-i))∧ix order (w (w (order.length-1)-i))<(b.1.1.length:Int)) <|
   Jj b order r (out++[(ix order i,ix b.1.1 (ix order (w (w (order.length-1)-i))))])
theorem afU {b:r_} {m lo:Nat} {order ad:List Int} {v:List qB} (h:Jj b order ad []=some v) (ao:ad.length≤1000) {T:List I} {H:List ar} {Q:cN→List I→List ar→Prop}
  (bZ:eW [true,true,false,false,false,false,false,false,false,false,false,false,false,true,false,false,false,false,false,false,false,false,false,false,false,false,false,false,false,false,false,false,false,false,false,false,false,false,false,false,false,false,false,false,false,false,false,false,false,false,false,false,false,true,true,true,false,false,false,false,false,false,false,false,false,false,false,false,false,false,false,false,false,false,false,false,false,false,false,false,false,false,false,false] T=qf 84 [(0,r0 b m),(1,.av (order.map hX) order.length .shared),(13,.av [] 0 (.uniq 3)),(53,.av (ad.map hX) ad.length (.own 1)),(54,hX ad.length),(55,hX 0)])
  (bo:∀ Zg Zh Zi Zj,Q (.exit 2) (qf 84 [(0,r0 b m),(1,.av (order.map hX) order.length .shared),(13,.av (v.flatMap qx) v.length (.uniq 3)),(53,Zg),(54,Zh),(55,Zi),(56,Zj)]) H) :
  dN Tryz.prog K5 57 lo none Pk T H Q:=by
 unfold Pk;refine wp_loop bZ ?_;refine .intro (fun ho T H'=>∃ (i:Nat) (out:List qB),i≤ad.length∧ho=ad.length-i∧out.length=i∧Jj b order (ad.drop i) out=some v∧T=qf 84 [(0,r0 b m),(1,.av (order.map hX) order.length .shared),(13,.av (out.flatMap qx) out.length (.uniq 3)),(53,.av (ad.map hX) ad.length (.own 1)),(54,hX ad.length),(55,hX i)]∧H'=H) ad.length ⟨0,[],sE _,rfl,rfl,h,rfl,rfl⟩ ?_;clear bZ h;rintro ho T H' ⟨i,out,hi,rfl,aq,al,rfl,rfl⟩;conv=>whnf
 refine HG (fun aR=>?_) (fun aR=>?_)
 ·have HI:i<ad.length:=by omega
  have IC:0≤(i:Int)∧(i:Int)<(ad.length:Int):=by omega
  rw [sV HI] at al;unfold Jj at al;obtain ⟨cc,al⟩:=rV al;obtain ⟨b_,al⟩:=rV al;obtain ⟨eP,al⟩:=rV al;unfold Yf;obtain ⟨fY,Ho⟩:∃ c,Sz=c:=⟨_,rfl⟩;rw [Ho];conv=>whnf
  refine ⟨IC,?_⟩;rw [ri hX ad (i:Int) IC,rH HI];conv=>whnf
  subst Ho;unfold Sz;conv=>whnf
  refine ⟨cc,?_⟩;rw [ri hX order _ cc];conv=>whnf
  refine ⟨b_,?_⟩;rw [ri hX order _ b_];conv=>whnf
  refine ⟨eP,?_⟩;rw [IY p_ 2 Lo b.1.1 _ eP];conv=>whnf
  refine ⟨rfl,by decide,?_⟩;conv=>whnf
  refine ⟨by decide,by omega,?_⟩;conv=>whnf
  have rJ:IntKind.i64.wrap ((i:Int)+1)=((i+1:Nat):Int):=by rw [HQ _ (by omega) (by omega)];omega
  refine ⟨ad.length-(i+1),by omega,i+1,_,by omega,rfl,by simp [aq],al,?_,rfl⟩;rw [rJ,uB,sD];rfl
 ·have:i=ad.length:=by omega
  subst this;rw [List.drop_length] at al;obtain rfl:=Option.some.inj al;conv=>whnf
  exact bo _ _ _ _
theorem ahR {n i:Nat} (h:i<n):(qo n).drop i=(i:Int)::(qo n).drop (i+1):=by
 have ao:i<(qo n).length:=by rw [Lz];exact h
 rw [sV ao];simp [qo]
theorem adY {b:r_} {m lo k:Nat} {order:List Int} {qn:Int} {res:List qB ⊕ List Int} (h:Jt b order qn (qo order.length) 0 []=some (k,res)) (ao:order.length≤1000) {Hs:Nat→List ar}
  (cl:∀ (i:Nat) q,(i:Int).tmod 2=qn→Iw b order qn [(i:Int)]=some q→Sem Tryz.prog (.fn 60) [r0 b m,.av (order.map hX) order.length .shared,hX qn,.av [hX (i:Int)] 1 (.uniq 1)] (Hs i) lo (.tuple [.av (q.1.flatMap qx) q.1.length .shared,B q.2]) (Hs (i+1)))
  (bI:∀ i:Nat,(i:Int).tmod 2≠qn→Hs (i+1)=Hs i) {T:List I} {Q:cN→List I→List ar→Prop}
  (bZ:eW [true,true,true,false,false,false,false,false,false,true,false,false,false,false,false,false,false,false,false,false,false,false,false,false,false,true,true,false,false,false,false,false,false,false,false,false,false,false,false,false,false,false,false,false,false,false,false,false,false,false,false,false,false,false,false,false,false,false,false,false,false,false,false,false,false,false,false,false,false,false,false,false,false,false,false,false,false,false,false,false,false,false,false,false] T=qf 84 [(0,r0 b m),(1,.av (order.map hX) order.length .shared),(2,hX qn),(9,.av [] 0 (.uniq 1)),(25,hX order.length),(26,hX 0)])
  (ac7:∀ q T,res=.inl q→rZ (Hs k) T [.tmp 6]=some [.av (q.flatMap qx) q.length .shared]→Q .ret T (Hs k))
  (ac8:∀ ad Zc Zd Ze,res=.inr ad→ad.length≤order.length→Q (.exit 0) (qf 84 [(0,r0 b m),(1,.av (order.map hX) order.length .shared),(2,hX qn),(9,.av (ad.map hX) ad.length (.uniq 1)),(25,Zc),(26,Zd),(27,Ze)]) (Hs k)) :
  dN Tryz.prog K5 57 lo none Pl T (Hs 0) Q:=by
 unfold Pl;refine wp_loop bZ ?_;refine .intro (fun ho T H'=>∃ (i:Nat) (ad:List Int),i≤order.length∧ho=order.length-i∧ad.length≤i∧Jt b order qn ((qo order.length).drop i) i ad=some (k,res)∧T=qf 84 [(0,r0 b m),(1,.av (order.map hX) order.length .shared),(2,hX qn),(9,.av (ad.map hX) ad.length (.uniq 1)),(25,hX order.length),(26,hX i)]∧H'=Hs i) order.length ⟨0,[],sE _,rfl,se _,h,rfl,rfl⟩ ?_;clear bZ h;rintro ho T H' ⟨i,ad,hi,rfl,adz,al,rfl,rfl⟩;conv=>whnf
 have rJ:i<order.length→IntKind.i64.wrap ((i:Int)+1)=((i+1:Nat):Int):=fun _=>by rw [HQ _ (by omega) (by omega)];omega
 refine HG (fun aR=>?_) (fun aR=>?_)
 ·have HI:i<order.length:=by omega
  rw [ahR HI] at al;unfold Jt at al;unfold Ye Yd;obtain ⟨br,eP⟩:∃ c,Sy=c:=⟨_,rfl⟩;rw [eP];conv=>whnf
  refine ⟨by decide,?_⟩;conv=>whnf
  by_cases KB:(i:Int).tmod 2=qn
  ·rw [decide_eq_false (show ¬ ((i:Int).tmod 2≠qn) from fun h=>h KB)];rw [if_neg (fun h=>h KB)] at al;obtain ⟨q,a_,al⟩:=p' al;(conv=>whnf);subst eP;unfold Sy;obtain ⟨a9,b_⟩:∃ c,Sx=c:=⟨_,rfl⟩;rw [b_];(conv=>whnf);refine ⟨_,_,rG (cl i q KB a_),?_⟩;(conv=>whnf);obtain ⟨q1,aW⟩:=q;cases aW with
   | true =>
     rw [if_pos rfl] at al;obtain ⟨ab,ae⟩:=Prod.mk.inj (Option.some.inj al);subst ab;(conv=>whnf);exact ac7 _ _ ae.symm rfl
   | false =>
     rw [if_neg (by simp)] at al;obtain ⟨pl,hg,al⟩:=p' al;(conv=>whnf);subst b_;unfold Sx;(conv=>whnf);refine ⟨_,_,call9 (bs:=[lj b,hX i]) rfl (p9 (Ic b) (p9 rfl rfl)) (K1 hg),?_⟩;(conv=>whnf);refine HG (fun aB=>?_) (fun aB=>?_)
     ·rw [if_pos aB] at al;(conv=>whnf);refine ⟨rfl,by decide,?_⟩;(conv=>whnf);refine ⟨by decide,by omega,?_⟩;(conv=>whnf);refine ⟨order.length-(i+1),by omega,i+1,_,by omega,rfl,by simp;omega,al,?_,rfl⟩;rw [rJ HI,sR,sD];rfl
     ·rw [if_neg aB] at al;(conv=>whnf);exact ⟨order.length-(i+1),by omega,i+1,ad,by omega,rfl,by omega,al,by rw [rJ HI];rfl,rfl⟩
  ·rw [decide_eq_true (show (i:Int).tmod 2≠qn from KB)];rw [if_pos KB] at al;(conv=>whnf);refine ⟨order.length-(i+1),by omega,i+1,ad,by omega,rfl,by omega,al,by rw [rJ HI];rfl,?_⟩;rw [bI i KB]
 ·have:i=order.length:=by omega
  subst this;rw [uR (by rw [Lz];omega)] at al;obtain ⟨ab,ae⟩:=Prod.mk.inj (Option.some.inj al);subst ab;conv=>whnf
  exact ac8 _ _ _ _ ae.symm adz
def KY (b:r_) (order:List Int) (qn:Int):Option (List qB) :=
 qq (order.length≤1000) <|
 (Iw b order qn []).bind fun r=>if r.2=true then some [] else
 (Jt b order qn (qo order.length) 0 []).bind fun q=>match q.2 with
 | .inl l=>some l
 | .inr ad=>Jj b order ad []
theorem Ii.refl (m:Nat) (H:List ar):Ii m H H:=⟨se _,fun _ _ _=>rfl⟩
theorem Ii.trans {m:Nat} {H H1 H2:List ar} (h:Ii m H H1) (k:Ii m H1 H2):Ii m H H2 :=
 ⟨Nat.le_trans h.1 k.1,fun j aw ao=>by rw [k.2 j aw (by have:=h.1;omega),h.2 j aw ao]⟩
theorem ZR {b:r_} {order:List Int} {qn:Int} {v:List qB} (h:KY b order qn=some v) {m lo:Nat} {H:List ar} (bC:lo≤m) (bF:HW b m H) :
  ∃ H' c,(c=.shared∨c=.uniq 3∨c=.own 3)∧HW b m H'∧Ii m H H'∧Sem Tryz.prog (.fn 57) [r0 b m,.av (order.map hX) order.length .shared,hX qn] H lo (.av (v.flatMap qx) v.length c) H':=by
 unfold KY at h;obtain ⟨aI,h⟩:=rV h;obtain ⟨r,ai,h⟩:=p' h;have en:m<H.length:=by obtain ⟨_,_,ab,_⟩:=bF;exact (sd.1 ab).1
 obtain ⟨dz,o,ac9⟩:=ZV ai (m:=m) (lo:=lo) (H:=H) (by omega);obtain ⟨aS,bh⟩:=r;have dz:aS=[]:=dz;subst dz
 classical
 obtain ⟨Hs,gI,Md⟩:=OJ (fun i rQ H8=>HW b m rQ→(HW b m H8∧Ii m rQ H8∧a' lo rQ H8)∧(∀ q,(i:Int).tmod 2=qn→Iw b order qn [(i:Int)]=some q→Sem Tryz.prog (.fn 60) [r0 b m,.av (order.map hX) order.length .shared,hX qn,.av [hX (i:Int)] 1 (.uniq 1)] rQ lo (.tuple [.av (q.1.flatMap qx) q.1.length .shared,B q.2]) H8)∧((i:Int).tmod 2≠qn→H8=rQ)) (H++[o]) (fun i rQ=>by
  by_cases aP:HW b m rQ
  ·by_cases hm:(i:Int).tmod 2=qn
   ·cases a_:Iw b order qn [(i:Int)] with
    | none=>exact ⟨rQ,fun _=>⟨⟨aP,Ii.refl _ _,a'.refl _ _⟩,(fun q _ h=>by cases h),fun h=>absurd hm h⟩⟩
    | some q =>
      obtain ⟨H',f1,f2,f3⟩:=ZW a_ bC aP;exact ⟨H',fun _=>⟨⟨f1,f2,f3.1⟩,(fun fT _ h=>by obtain rfl:=Option.some.inj h;exact f3),fun h=>absurd hm h⟩⟩
   ·exact ⟨rQ,fun _=>⟨⟨aP,Ii.refl _ _,a'.refl _ _⟩,fun q h _=>absurd h hm,fun _=>rfl⟩⟩
  ·exact ⟨rQ,fun h=>absurd h aP⟩)
 have cY:∀ i,HW b m (Hs i)∧Ii m H (Hs i)∧a' lo H (Hs i):=fun i=>by
  induction i with
  | zero=>rw [gI];exact ⟨bF.more _,⟨by simp,fun j _ aw=>by rw [sk aw]⟩,a'.append _ _ _⟩
  | succ i a8 =>
    obtain ⟨⟨aA,aG,aT⟩,_,_⟩:=Md i a8.1;exact ⟨aA,a8.2.1.trans aG,a8.2.2.trans aT⟩
 have start:∀ (Q:cN→List I→List ar→Prop) (B9:gB),SB=B9→(bh=true→∀ T,rZ (H++[o]) T [.tmp 6]=some [.av [] 0 (.uniq 3)]→Q .ret T (H++[o]))→(bh=false→∀ JI,dN Tryz.prog K5 57 lo none B9 (qf 84 [(0,r0 b m),(1,.av (order.map hX) order.length .shared),(2,hX qn),(6,.av [] 0 (.uniq 3)),(7,JI),(9,.av [] 0 (.uniq 1)),(23,.bool false)]) (H++[o]) Q) →
   dN Tryz.prog K5 57 lo none Pj (qf 84 [(0,r0 b m),(1,.av (order.map hX) order.length .shared),(2,hX qn)]) H Q:=by
  intro Q B9 adq ab ae;unfold Pj Yc;rw [adq];conv=>whnf
  refine ⟨_,_,rG ac9,?_⟩;conv=>whnf
  cases bh with
  | true =>
    (conv=>whnf);exact ab rfl _ rfl
  | false =>
    (conv=>whnf);exact ae rfl _
 cases bh with
 | true =>
   rw [if_pos rfl] at h;obtain rfl:=Option.some.inj h;refine ⟨H++[o],.uniq 3,.inr (.inl rfl),bF.more _,⟨by simp,fun j _ aw=>by rw [sk aw]⟩,?_⟩;refine rK eD R0 rfl (a'.append _ _ _) fun Q bo=>?_;refine start Q _ rfl (fun _ T bZ=>?_) (fun h=>by cases h);exact bo _ _ _ ⟨.inr rfl,lF.refl _,by rw [bZ];rfl⟩
 | false =>
   rw [if_neg (by simp)] at h;obtain ⟨⟨k,res⟩,ak,h⟩:=p' h;have pA:∀ (Q:cN→List I→List ar→Prop),
     (∀ q T,res=.inl q→rZ (Hs k) T [.tmp 6]=some [.av (q.flatMap qx) q.length .shared]→Q .ret T (Hs k)) →
     (∀ ad,res=.inr ad→∃ bn,Jj b order ad []=some bn∧∀ T,rZ (Hs k) T [.tmp 6]=some [.av (bn.flatMap qx) bn.length (.uniq 3)]→Q .ret T (Hs k)) →
     dN Tryz.prog K5 57 lo none Pj (qf 84 [(0,r0 b m),(1,.av (order.map hX) order.length .shared),(2,hX qn)]) H Q:=by
    intro Q ab ae;refine start Q _ rfl (fun h=>by cases h) fun _ JI=>?_;unfold SB;obtain ⟨a9,b_⟩:∃ c,Pl=c:=⟨_,rfl⟩;obtain ⟨ns,Jv⟩:∃ c,SA=c:=⟨_,rfl⟩;rw [b_,Jv];(conv=>whnf);subst b_;rw [←gI];refine adY (b:=b) (m:=m) (lo:=lo) ak aI (Hs:=Hs) (fun i q hm a_=>(Md i (cY i).1).2.1 q hm a_) (fun i hm=>(Md i (cY i).1).2.2 hm) (by exact rfl) (fun q T a_ bZ=>?_) (fun ad Zc Zd Ze a_ xe=>?_)
    ·(conv=>whnf);exact ab q T a_ bZ
    ·obtain ⟨bn,aq,ai⟩:=ae ad a_;(conv=>whnf);subst Jv;unfold SA;obtain ⟨a7,cc⟩:∃ c,Pk=c:=⟨_,rfl⟩;rw [cc];(conv=>whnf);subst cc;refine afU (b:=b) (m:=m) (lo:=lo) aq (by omega) (by exact rfl) fun Zg Zh Zi Zj=>?_;(conv=>whnf);exact ai _ rfl
   have Mh:=cY k;cases res with
   | inl l =>
     obtain rfl:=Option.some.inj h;refine ⟨Hs k,.shared,.inl rfl,Mh.1,Mh.2.1,?_⟩;refine rK eD R0 rfl Mh.2.2 fun Q bo=>?_;refine pA Q (fun q T a_ bZ=>?_) (fun ad a_=>by cases a_);injection a_ with a_;subst a_;exact bo _ _ _ ⟨.inr rfl,lF.refl _,by rw [bZ];rfl⟩
   | inr ad =>
     refine ⟨Hs k,.uniq 3,.inr (.inl rfl),Mh.1,Mh.2.1,?_⟩;refine rK eD R0 rfl Mh.2.2 fun Q bo=>?_;refine pA Q (fun q T a_ bZ=>by cases a_) (fun bg a_=>⟨v,?_,fun T bZ=>?_⟩)
     ·injection a_ with a_;subst a_;exact h
     ·exact bo _ _ _ ⟨.inr rfl,lF.refl _,by rw [bZ];rfl⟩
end Go.Proofs.YtkoioidpbbbaiaaGreat.Ab


namespace Go.Proofs.YtkoioidpbbbaiaaGreat.Ab
open Go
noncomputable def agE:gB :=
 p5 [p6 19 3, qu 20 19 0 .lss] (.cond (.m_ 20) (qE [p3 21 [.cv (.str (ByteArray.mk (Array.mk [108, 101, 110, 32, 111, 117, 116, 32, 111, 102, 32, 114, 97, 110, 103, 101])))] (.other (Oper.mk (some 21) (Op.makeInterface 9 (Operand.const (Value.string (ByteArray.mk (Array.mk [108, 101, 110, 32, 111, 117, 116, 32, 111, 102, 32, 114, 97, 110, 103, 101]))))) 20 "slices.go:496" (Array.mk []) none) 0), ⟨none, [.Bs 21], none, none, .other (Oper.mk none (Op.panic (Operand.tmp 21)) 0 "slices.go:496" (Array.mk [Edge.mk 0 Ground.data]) none) 0⟩]) .skip)
noncomputable def agF:gB :=
 p5 [p4 15 3,p4 16 5,qZ 17 16,qp 18 15 17 .add,p4 3 18] agE
noncomputable def agG:gB :=
 .block 1 (p5 [p3 13 [.m_ 9,.m_ 11] (.kV 1),ql 14 13,p4 5 14] agF)
noncomputable def agH:gB :=
 .ou false [p4 31 6,p4 32 8,p3 33 [.jm 31,.jm 32] (.app 3 24),p4 6 33]
noncomputable def agI:gB :=
 .block 3 (p5 [p3 29 [.m_ 25,.m_ 27] (.kV 1),ql 30 29,p4 8 30] agH)
noncomputable def agJ:gB :=
 .seq (p5 [p4 25 0,p3 26 [.m_ 25] .zJ,qg 27 0] (.block 2 (.loop (some (qb false [6,1,18,3,8])) (p5 [p3 28 [.m_ 27,.m_ 26] (.bin .lss)] (.seq (.cond (.m_ 28) .skip (.exit 2)) (.seq agI (qE [qV 34 27 1,p4 27 34]))))))) (p5 [p4 35 6,p4 2 35] .ret)
noncomputable def agK:gB :=
 .seq (p5 [p6 9 0,p3 10 [.m_ 9] .zJ,qg 11 0] (.block 0 (.loop (some (qb false [0,1,2,1,5,3,24])) (p5 [p3 12 [.m_ 11,.m_ 10] (.bin .lss)] (.seq (.cond (.m_ 12) .skip (.exit 0)) (.seq agG (qE [qV 22 11 1,p4 11 22]))))))) (p5 [p4 23 3,p3 24 [.cv (.func 76 [] []),.cv (.av [] 0 .full),.m_ 23] (.call 0),p4 6 24] agJ)
noncomputable def Yb:gB :=
 p5 [p3 2 [.cv (.av [] 0 .full)] (.nil 3)] (p5 [qg 3 0] agK)
theorem aep:qt Go.Proofs.Tryz.prog UE 56=some (Yb,36,[.tmp 2]):=by kernel_rfl
end Go.Proofs.YtkoioidpbbbaiaaGreat.Ab


namespace Go.Proofs.YtkoioidpbbbaiaaGreat.Ab
open Go
set_option maxRecDepth 20000
set_option maxHeartbeats 4000000
noncomputable def PA (k:Nat) (args:List I):Option I:=match fZ Go.Proofs.Tryz.prog jA (PF []) 300 (.fn k) args [] 0 with
 | some (r,H2)=>match bL H2 0 H2.length 0 8 r with
   | some v=>match cn 8 v with
     | true=>some v
     | false=>none
   | none=>none
 | none=>none
theorem YG {k:Nat} {args:List I} {v:I} (h:PA k args=some v):nj Go.Proofs.Tryz.prog k args v:=by
 unfold PA at h;split at h
 ·rename_i r H2 ak;split at h
  ·rename_i u aP;split at h
   ·rename_i aB;cases h;have ah:=(Cb eD jA (Y8 (l:=[]) (by simp)) (W7 UX) 300).Ha ak;refine ⟨⟨a'.refl _ _,ah.2.1,fun B aa J S w xs ag aI ad=>CallsIn.mono (ah.2.2 B aa J S w xs ag aI ad) fun e w' he=>?_⟩,aB⟩;cases e with
    | returned x=>exact xG ag (fun id aE=>by simp at aE) aP he
    | panicked c=>exact he.elim
    | outgrown=>exact he.elim
   ·cases h
  ·cases h
 ·cases h
def O8:I→Bool
 | .av [] 0 (.uniq 3)=>true
 | _=>false
theorem V8 {v:I} (h:O8 v=true):v=.av [] 0 (.uniq 3):=by
 unfold O8 at h;split at h
 ·rfl
 ·cases h
theorem acX:((List.range 20).all fun n=>match PA 76 [.av [] 0 .full,.int .i64 ((n+1:Nat):Int)] with | some v=>O8 v | none=>false)=true:=by kernel_rfl
theorem acY {n:Nat} (h:n<20):qv 76 [.av [] 0 .full,hX ((n+1:Nat):Int)] (.av [] 0 (.uniq 3)):=by
 have:=List.all_eq_true.1 acX n (sJ.2 h);split at this
 ·rename_i v ad;rw [V8 this] at ad;exact YG ad
 ·cases this
theorem acx:(match PA 56 [.av [.av [] 0 .shared,.av [] 0 .shared] 2 (.uniq 1)] with | some v=>O8 v | none=>false)=true:=by kernel_rfl
theorem acv:qv 56 [.av [.av [] 0 .shared,.av [] 0 .shared] 2 (.uniq 1)] (.av [] 0 (.uniq 3)):=by
 have:=acx;split at this
 ·rename_i v ad;rw [V8 this] at ad;exact YG ad
 ·cases this
abbrev LE (l:List qB):I:=.av (l.flatMap qx) l.length .shared
theorem acw {l1 l2:List qB} (aI:l1.length+l2.length≤20) {H:List ar} {lo:Nat}:Sem Tryz.prog (.fn 56) [.av [LE l1,LE l2] 2 (.uniq 1)] H lo (.av ((l1++l2).flatMap qx) (l1++l2).length (.uniq 3)) H:=by
 by_cases aQ:l1.length+l2.length=0
 ·obtain rfl:=sT.1 (show l1.length=0 by omega);obtain rfl:=sT.1 (show l2.length=0 by omega);have:=YK (H:=H) (by rfl) acv;exact ⟨a'.refl _ _,this.2⟩
 obtain ⟨k,al⟩:∃ k,l1.length+l2.length=k+1:=⟨l1.length+l2.length-1,by omega⟩;refine rK eD aep rfl (a'.refl _ _) fun Q bo=>?_;unfold Yb;conv=>whnf
 have bH:IntKind.i64.wrap (0+(l1.length:Int))=(l1.length:Int):=by rw [HQ _ (by omega) (by omega)];omega
 have bW:IntKind.i64.wrap ((l1.length:Int)+(l2.length:Int))=((l1.length+l2.length:Nat):Int):=by rw [HQ _ (by omega) (by omega)];omega
 refine .intro (fun m T H'=>(m=2∧T=qf 36 [(0,.av [LE l1,LE l2] 2 (.own 1)),(3,hX 0),(9,.av [LE l1,LE l2] 2 .shared),(10,hX 2),(11,hX 0)]∧H'=H)∨(m=1∧T=qf 36 [(0,.av [LE l1,LE l2] 2 (.own 1)),(3,hX l1.length),(9,.av [LE l1,LE l2] 2 .shared),(10,hX 2),(11,hX 1)]∧H'=H)∨(m=0∧T=qf 36 [(0,.av [LE l1,LE l2] 2 (.own 1)),(3,hX ((l1.length+l2.length:Nat):Int)),(9,.av [LE l1,LE l2] 2 .shared),(10,hX 2),(11,hX 2)]∧H'=H)) 2 (.inl ⟨rfl,rfl,rfl⟩) ?_;rintro m T H' (⟨rfl,rfl,rfl⟩ | ⟨rfl,rfl,rfl⟩ | ⟨rfl,rfl,rfl⟩)
 ·conv=>whnf
  refine ⟨by decide,?_⟩;conv=>whnf
  rw [bH,decide_eq_false (show ¬ ((l1.length:Int)<0) by omega)];conv=>whnf
  exact ⟨1,by decide,.inr (.inl ⟨rfl,rfl,rfl⟩)⟩
 ·conv=>whnf
  refine ⟨by decide,?_⟩;conv=>whnf
  rw [bW,decide_eq_false (show ¬ (((l1.length+l2.length:Nat):Int)<0) by omega)];conv=>whnf
  exact ⟨0,by decide,.inr (.inr ⟨rfl,rfl,rfl⟩)⟩
 ·conv=>whnf
  rw [al];refine ⟨_,_,Nf (p9 rfl (p9 rfl rfl)) (acY (n:=k) (by omega)) _ _,?_⟩;conv=>whnf
  have bl:(l1.flatMap qx).length=l1.length*3:=Iy qx 3 (fun _=>rfl) l1;have cr:(l2.flatMap qx).length=l2.length*3:=Iy qx 3 (fun _=>rfl) l2;refine .intro (fun m T H2=>(m=2∧T=qf 36 [(6,.av [] 0 (.uniq 3)),(25,.av [LE l1,LE l2] 2 (.own 1)),(26,hX 2),(27,hX 0)]∧H2=H')∨(m=1∧T=qf 36 [(6,.av (l1.flatMap qx) l1.length (.uniq 3)),(25,.av [LE l1,LE l2] 2 (.own 1)),(26,hX 2),(27,hX 1)]∧H2=H')∨(m=0∧T=qf 36 [(6,.av ((l1++l2).flatMap qx) (l1++l2).length (.uniq 3)),(25,.av [LE l1,LE l2] 2 (.own 1)),(26,hX 2),(27,hX 2)]∧H2=H')) 2 (.inl ⟨rfl,rfl,rfl⟩) ?_;rintro m T H2 (⟨rfl,rfl,rfl⟩ | ⟨rfl,rfl,rfl⟩ | ⟨rfl,rfl,rfl⟩)
  ·(conv=>whnf);refine ⟨by decide,?_⟩;(conv=>whnf);refine ⟨bl,by omega,rfl,by omega,?_⟩;(conv=>whnf);refine ⟨1,by decide,.inr (.inl ⟨rfl,?_,rfl⟩)⟩;rw [sG];rfl
  ·(conv=>whnf);refine ⟨by decide,?_⟩;(conv=>whnf);refine ⟨cr,by omega,rfl,by omega,?_⟩;(conv=>whnf);refine ⟨0,by decide,.inr (.inr ⟨rfl,?_,rfl⟩)⟩;rw [uB,sD];rfl
  ·(conv=>whnf);exact bo _ _ _ ⟨.inr rfl,lF.refl _,rfl⟩

noncomputable def aaG:gB :=
 p5 [p3 2 [.jm 0] .box,p3 3 [.jm 1] .box,qg 4 0] (p5 [qJ 5 2 0,ql 6 5,qJ 7 3 0,ql 8 7,qp 9 6 8 .sub,p4 4 9] .ret)
theorem afi:qt Tryz.prog UG 59=some (aaG,10,[.tmp 4]):=by kernel_rfl
def ZS (x:(Int×(Int×Int))) (y:(Int×(Int×Int))):Option Int :=
 some (w (x.1-y.1))
theorem ai8 {x:(Int×(Int×Int))} {y:(Int×(Int×Int))} {v:Int} (h:ZS x y=some v):qv 59 [(.agg [(hX x.1),(hX x.2.1),(hX x.2.2)]),(.agg [(hX y.1),(hX y.2.1),(hX y.2.2)])] (hX v):=by
 refine qN eD afi rfl rfl fun Q bo=>?_;have jG:qK [.tmp 4] Q (fun v=>(hX v)) v:=fun T H bD=>bo _ T H bD;unfold ZS at h;unfold aaG;conv=>whnf
 exact qd h jG rfl rfl
end Go.Proofs.YtkoioidpbbbaiaaGreat.Ab


namespace Go.Proofs.YtkoioidpbbbaiaaGreat.Ab
open Go
noncomputable def agM:gB :=
 .ou false [p4 7 0,p6 8 4,p4 9 4,p3 10 [.Bs 9] (.conv .u64),p3 11 [.cv (.func 79 [] []),.m_ 10] (.call 3),p4 12 1,p3 13 [.cv (.func 78 [] []),.jm 7,.cv (.int .i64 0),.jm 8,.jm 11,.jm 12] (.call 1)]
noncomputable def SC:gB :=
 p5 [p6 5 0,qZ 6 5,p4 4 6] agM
theorem WK:qt Go.Proofs.Tryz.prog UF 58=some (SC,14,[]):=by kernel_rfl
noncomputable def NY:gB :=
 p5 [p4 26 0,p4 27 1,p4 28 2,p4 29 4,p3 30 [.cv (.func 90 [] []),.jm 26,.jm 27,.jm 28,.jm 29] (.call 1)] .ret
noncomputable def ag0:gB :=
 p5 [p4 33 0,p4 34 1,p4 35 2,p4 36 4,p3 37 [.cv (.func 91 [] []),.jm 33,.jm 34,.jm 35,.jm 36] (.call 1)] .ret
noncomputable def ag1:gB :=
 p5 [p6 40 0,p6 41 1,p6 42 2,p6 43 4,p3 44 [.cv (.func 92 [] []),.jm 40,.jm 41,.jm 42,.jm 43] (.call 1)] (qE [p4 45 3,qu 46 45 1 .sub,p4 3 46])
noncomputable def ag2:gB :=
 p5 [p6 62 2,qu 63 62 1 .sub,p4 64 13,p6 65 1,qp 66 64 65 .sub,qp 67 63 66 .sub,p4 13 67] (qE [qg 14 1])
noncomputable def ag3:gB :=
 p5 [p6 57 0,p6 58 1,p6 59 2,p6 60 4,p3 61 [.cv (.func 94 [] []),.jm 57,.jm 58,.jm 59,.jm 60] (.call 1)] ag2
noncomputable def ag4:gB :=
 p5 [p6 76 0,p6 77 1,p6 78 2,p6 79 4,p3 80 [.cv (.func 95 [] []),.jm 76,.jm 77,.jm 78,.jm 79] (.call 1)] (.cond (.m_ 80) .ret .skip)
noncomputable def ag5:gB :=
 p5 [p6 98 0,p4 99 1,p6 100 2,p4 101 13,p6 102 4,p3 103 [.cv (.func 96 [] []),.jm 98,.jm 99,.jm 100,.jm 101,.jm 102] (.call 1),p4 15 103] (p5 [p4 104 15,p4 1 104] (.exit 1))
noncomputable def ag6:gB :=
 p5 [p6 129 0,p4 130 1,p6 131 16,p6 132 3,p6 133 4,p3 134 [.cv (.func 78 [] []),.jm 129,.jm 130,.jm 131,.jm 132,.jm 133] (.call 1)] (qE [p4 135 16,qV 136 135 1,p4 1 136])
noncomputable def ag7:gB :=
 p5 [p4 126 18,p4 127 20,qp 128 126 127 .geq,p4 10 128] ag6
noncomputable def agS:gB :=
 p5 [p6 140 0,p6 141 16,qV 142 141 1,p4 143 2,p6 144 3,p6 145 4,p3 146 [.cv (.func 78 [] []),.jm 140,.jm 142,.jm 143,.jm 144,.jm 145] (.call 1)] (qE [p4 147 16,p4 2 147])
noncomputable def agT:gB :=
 p5 [p4 137 19,p4 138 20,qp 139 137 138 .geq,p4 10 139] agS
noncomputable def agU:gB :=
 p5 [p4 121 12,qu 122 121 8 .quo,p4 20 122] (p5 [p6 123 18,p6 124 19,qp 125 123 124 .lss] (.cond (.m_ 125) ag7 agT))
noncomputable def agV:gB :=
 p5 [p6 115 16,p6 116 1,qp 117 115 116 .sub,p6 118 2,p6 119 16,qp 120 118 119 .sub,p4 18 117,p4 19 120] agU
noncomputable def agW:gB :=
 p5 [p6 106 0,p6 107 1,p6 108 2,p4 109 13,p6 110 4,p3 111 [.cv (.func 97 [] []),.jm 106,.jm 107,.jm 108,.jm 109,.jm 110] (.call 1),p4 105 111,qQ 112 105 0,p3 113 [.Bs 105] (.ext 1),p4 16 112,p4 17 113] (p5 [p4 114 17,p4 11 114] agV)
noncomputable def agX:gB :=
 .seq (.seq (rh [p6 81 1,qu 82 81 0 .gtr,p4 83 82,ch 84 [.m_ 4] 83 true .mR,ch 85 [.m_ 0] 83 true .mR,ch 86 [.m_ 1] 83 true .mR,ch 87 [.Bs 86,.cv (.int .i64 1)] 83 true (.bin .sub),ch 88 [.Bs 85,.Bs 87] 83 true (.kV 3),ch 89 [.Bs 88] 83 true (.zE (.str 3)),ch 90 [.m_ 0] 83 true .mR,ch 91 [.m_ 13] 83 true .mR,ch 92 [.Bs 90,.Bs 91] 83 true (.kV 3),ch 93 [.Bs 92] 83 true (.zE (.str 3)),ch 94 [.m_ 84,.m_ 89,.m_ 93] 83 true (.call 6),ch 95 [.Bs 94,.cv (.int .i64 0)] 83 true (.bin .lss),ch 96 [.Bs 95] 83 true (.un .not),p3 97 [.m_ 83,.Bs 96,.cv (.bool false)] .pick]) (.cond (.m_ 97) ag5 .skip)) agW
noncomputable def agY:gB :=
 .seq (p5 [p6 68 10,p4 69 68,ch 70 [.m_ 11] 69 true .mR,p3 71 [.Bs 69,.Bs 70,.cv (.bool false)] .pick,p4 72 71,ch 73 [.jm 14] 72 true .mR,ch 74 [.Bs 73,.cv (.int .i64 1)] 72 true (.bin .eql),p3 75 [.Bs 72,.Bs 74,.cv (.bool false)] .pick] (.cond (.m_ 75) ag4 .skip)) agX
noncomputable def agZ:gB :=
 p5 [p6 48 0,p6 49 1,p6 50 2,p6 51 4,p3 52 [.cv (.func 93 [] []),.jm 48,.jm 49,.jm 50,.jm 51] (.call 1),p4 47 52,qQ 53 47 0,p3 54 [.Bs 47] (.ext 1),p4 13 53,p4 14 54] (.seq (p5 [p6 55 14,qu 56 55 2 .eql] (.cond (.m_ 56) ag3 .skip)) agY)
noncomputable def SM:gB :=
 .seq (p5 [p6 31 3,qu 32 31 0 .eql] (.cond (.m_ 32) ag0 .skip)) (.seq (p5 [p6 38 10,p3 39 [.Bs 38] (.un .not)] (.cond (.m_ 39) ag1 .skip)) agZ)
noncomputable def NZ:gB :=
 .block 1 (p5 [p6 21 2,p6 22 1,qp 23 21 22 .sub,p4 12 23] (.seq (p5 [p6 24 12,qu 25 24 12 .leq] (.cond (.m_ 25) NY .skip)) SM))
noncomputable def SL:gB :=
 p5 [p3 10 [.cv (.bool true)] .mR] (p5 [p3 11 [.cv (.bool true)] .mR] (.block 0 (.loop (some (qb false [0,5,5,2,136])) NZ)))
theorem WN:qt Go.Proofs.Tryz.prog UO 78=some (SL,148,[]):=by kernel_rfl
noncomputable def aha:gB :=
 .block 3 (rh [p6 37 0,p6 38 9,p6 39 0,p6 40 9,qu 41 40 1 .sub,p6 42 0,p6 43 9,qu 44 43 1 .sub,rm 45 42 44 3,p3 46 [.Bs 45] (.zE (.str 3)),p6 47 0,p6 48 9,rm 49 47 48 3,p3 50 [.Bs 49] (.zE (.str 3)),rm 51 37 38 3,⟨none,[.jm 51,.jm 46],none,none,.st 3⟩,rm 52 39 41 3,⟨none,[.jm 52,.jm 50],none,none,.st 3⟩])
noncomputable def ahb:gB :=
 .seq (.seq (rh [p6 18 9,p6 19 1,qp 20 18 19 .gtr,p4 21 20,ch 22 [.m_ 3] 21 true .mR,ch 23 [.m_ 0] 21 true .mR,ch 24 [.m_ 9] 21 true .mR,ch 25 [.Bs 23,.Bs 24] 21 true (.kV 3),ch 26 [.Bs 25] 21 true (.zE (.str 3)),ch 27 [.m_ 0] 21 true .mR,ch 28 [.m_ 9] 21 true .mR,ch 29 [.Bs 28,.cv (.int .i64 1)] 21 true (.bin .sub),ch 30 [.Bs 27,.Bs 29] 21 true (.kV 3),ch 31 [.Bs 30] 21 true (.zE (.str 3)),ch 32 [.m_ 22,.m_ 26,.m_ 31] 21 true (.call 6),ch 33 [.Bs 32,.cv (.int .i64 0)] 21 true (.bin .lss),p3 34 [.m_ 21,.Bs 33,.cv (.bool false)] .pick]) (.cond (.m_ 34) .skip (.exit 2))) (.seq aha (qE [p4 35 9,qu 36 35 1 .sub,p4 9 36]))
noncomputable def ahc:gB :=
 .block 1 (p5 [p6 17 8,p4 9 17] (.block 2 (.loop (some (qb false [0,4,4,2,43])) ahb)))
noncomputable def ahd:gB :=
 .seq (p5 [p6 12 8,p6 13 2,qp 14 12 13 .lss] (.cond (.m_ 14) .skip (.exit 0))) (.seq ahc (qE [p4 15 8,qV 16 15 1,p4 8 16]))
noncomputable def SX:gB :=
 p5 [p6 10 1,qV 11 10 1,p4 8 11] (.block 0 (.loop (some (qb false [0,4,4,1,44])) ahd))
theorem WQ:qt Go.Proofs.Tryz.prog UW 90=some (SX,53,[]):=by kernel_rfl
end Go.Proofs.YtkoioidpbbbaiaaGreat.Ab


namespace Go.Proofs.YtkoioidpbbbaiaaGreat.Ab
open Go
set_option maxRecDepth 20000
set_option maxHeartbeats 4000000
def q7 (S:List qB) (j:Nat):qB:=ix S (j:Int)
def Kd (S:List qB) (j:Nat):List qB:=(S.set (j+1) (q7 S j)).set j (q7 S (j+1))
def NF (x y:qB):Bool:=decide (w (x.1-y.1)<0)
def Ib:Nat→List qB→List qB
 | 0,S=>S
 | j+1,S=>if NF (q7 S (j+1)) (q7 S j)=true then Ib j (Kd S j) else S
def IK:Nat→Nat→List qB→List qB
 | 0,_,S=>S
 | m+1,i,S=>IK m (i+1) (Ib i S)
def Hf (S:List qB):List qB:=IK (S.length-1) 1 S
theorem Y7 (S:List qB) (j:Nat):(Kd S j).length=S.length:=by simp [Kd]
theorem V3:∀ (j:Nat) (S:List qB),(Ib j S).length=S.length
 | 0,S=>rfl
 | j+1,S=>by
   unfold Ib;split
   ·rw [V3 j,Y7]
   ·rfl
theorem YN (S:List qB) (i:Nat) (c:qB) (h:i<S.length):(((S.flatMap qx).set (i*3) (hX c.1)).set (i*3+1) (hX c.2.1)).set (i*3+2) (hX c.2.2)=(S.set i c).flatMap qx:=by
 induction S generalizing i with
 | nil=>exact absurd h (by simp)
 | cons s S a8 =>
   cases i with
   | zero=>rfl
   | succ i =>
     have:=a8 i (by simpa using h);show (((hX s.1::hX s.2.1::hX s.2.2::S.flatMap qx).set ((i+1)*3) (hX c.1)).set ((i+1)*3+1) (hX c.2.1)).set ((i+1)*3+2) (hX c.2.2)=hX s.1::hX s.2.1::hX s.2.2::(S.set i c).flatMap qx;rw [←this,show (i+1)*3=i*3+1+1+1 by omega];rfl
abbrev IH (S:List qB):ar:=.cells (S.flatMap qx)
theorem adU {H:List ar} {id lo n:Nat} (bC:lo≤id) {S:List qB} (aI:S.length=n) (za:n≤100) (ag:H[id]?=some (IH S)) :
  Sem Tryz.prog (.fn 90) [.ref id 0 n none 3,hX 0,hX n,.func 59 [] []] H lo (.tuple []) (H.set id (IH (Hf S))):=by
 have aE:=(sd.1 ag).1;refine rK eD WQ rfl ⟨by simp,fun j ab ae=>by rw [sf (by omega)]⟩ fun Q bo=>?_;have CI:Nat.ble lo id=true:=tw bC;have gs:∀ c:ar,(H.set id c)[id]?=some c:=fun c=>by rw [sn aE]
 have J4:∀ c e:ar,(H.set id c).set id e=H.set id e:=fun c e=>List.set_set ..;unfold SX;conv=>whnf
 refine .intro (fun m T H'=>∃ (i:Nat) (S':List qB),1≤i∧(i≤n∨i=1)∧m=n-i∧S'.length=n∧IK (n-i) i S'=Hf S∧T=qf 53 [(0,.ref id 0 n none 3),(1,hX 0),(2,hX n),(3,.func 59 [] []),(8,hX i)]∧H'=H.set id (IH S')) (n-1) ⟨1,S,se _,.inr rfl,rfl,aI,by rw [←aI];rfl,rfl,?_⟩ ?_
 ·obtain ⟨ab,ae⟩:=sd.1 ag;rw [←ae,List.set_getElem_self]
 rintro m T H' ⟨i,S',adA,RJ,rfl,pj,he,rfl,rfl⟩;have Vh:i<n→IntKind.i64.wrap ((i:Int)+1)=((i+1:Nat):Int):=fun _=>by rw [HQ _ (by omega) (by omega)];omega
 conv=>whnf
 refine HG (fun aR=>?_) (fun aR=>?_)
 ·have HI:i<n:=by omega
  conv=>whnf
  refine .intro (fun j T H'=>∃ bK:List qB,j≤i∧bK.length=n∧Ib j bK=Ib i S'∧T=qf 53 [(0,.ref id 0 n none 3),(1,hX 0),(2,hX n),(3,.func 59 [] []),(8,hX i),(9,hX j)]∧H'=H.set id (IH bK)) i ⟨S',se _,pj,rfl,rfl,rfl⟩ ?_;rintro j T H' ⟨bK,aw,Rl,Lf,rfl,rfl⟩;have pD:(bK.flatMap qx).length=bK.length*3:=Iy qx 3 (fun _=>rfl) bK;conv=>whnf
  cases j with
  | zero =>
    (conv=>whnf);refine ⟨n-(i+1),by omega,i+1,bK,by omega,by omega,rfl,Rl,?_,by rw [Vh HI];rfl,rfl⟩;rw [←he,show n-i=(n-(i+1))+1 by omega];show _=IK (n-(i+1)) (i+1) (Ib i S');rw [←Lf];rfl
  | succ y =>
    (have hw:IntKind.i64.wrap (((y+1:Nat):Int)-1)=(y:Int):=by rw [HQ _ (by omega) (by omega)];omega);rw [decide_eq_true (show (0:Int)<((y+1:Nat):Int) by omega)];(conv=>whnf);refine ⟨by omega,?_⟩;(conv=>whnf);refine Ew (gs _) ?_;(have gJ:0≤((y+1:Nat):Int)∧((y+1:Nat):Int)<(bK.length:Int):=by omega);(have iP:0≤(y:Int)∧(y:Int)<(bK.length:Int):=by omega);(conv=>whnf);refine Pz qx 3 H7 bK ((y+1:Nat):Int) gJ rfl ?_;(conv=>whnf);refine Kb qx 3 H7 bK ((y+1:Nat):Int) gJ 1 rfl ?_;(conv=>whnf);refine Kb qx 3 H7 bK ((y+1:Nat):Int) gJ 2 rfl ?_;(conv=>whnf);rw [hw];refine ⟨by omega,?_⟩;(conv=>whnf);refine Ew (gs _) ?_;(conv=>whnf);refine Pz qx 3 H7 bK (y:Int) iP rfl ?_;(conv=>whnf);refine Kb qx 3 H7 bK (y:Int) iP 1 rfl ?_;(conv=>whnf);refine Kb qx 3 H7 bK (y:Int) iP 2 rfl ?_;(conv=>whnf);refine ⟨p9 (H3 (p9 rfl (p9 rfl (p9 rfl rfl)))) (p9 (H3 (p9 rfl (p9 rfl (p9 rfl rfl)))) rfl),[.agg [hX (q7 bK (y+1)).1,hX (q7 bK (y+1)).2.1,hX (q7 bK (y+1)).2.2],.agg [hX (q7 bK y).1,hX (q7 bK y).2.1,hX (q7 bK y).2.2]],rfl,hX (w ((q7 bK (y+1)).1-(q7 bK y).1)),rfl,ai8 rfl,rB,?_⟩;(conv=>whnf);have mq:decide (w ((q7 bK (y+1)).1-(q7 bK y).1)<0)=NF (q7 bK (y+1)) (q7 bK y):=rfl;rw [mq];have h8:Ib (y+1) bK=if NF (q7 bK (y+1)) (q7 bK y)=true then Ib y (Kd bK y) else bK:=rfl;cases ak:NF (q7 bK (y+1)) (q7 bK y) with
    | false =>
      rw [ak,if_neg (by decide)] at h8;(conv=>whnf);refine ⟨n-(i+1),by omega,i+1,bK,by omega,by omega,rfl,Rl,?_,by rw [Vh HI];rfl,rfl⟩;rw [←he,show n-i=(n-(i+1))+1 by omega];show _=IK (n-(i+1)) (i+1) (Ib i S');rw [←Lf,h8]
    | true =>
      rw [ak,if_pos rfl] at h8;(conv=>whnf);rw [hw];refine ⟨by omega,?_⟩;(conv=>whnf);refine Ew (gs _) ?_;(conv=>whnf);refine Pz qx 3 H7 bK (y:Int) iP rfl ?_;(conv=>whnf);refine Kb qx 3 H7 bK (y:Int) iP 1 rfl ?_;(conv=>whnf);refine Kb qx 3 H7 bK (y:Int) iP 2 rfl ?_;(conv=>whnf);refine ⟨by omega,?_⟩;(conv=>whnf);refine Ew (gs _) ?_;(conv=>whnf);refine Pz qx 3 H7 bK ((y+1:Nat):Int) gJ rfl ?_;(conv=>whnf);refine Kb qx 3 H7 bK ((y+1:Nat):Int) gJ 1 rfl ?_;(conv=>whnf);refine Kb qx 3 H7 bK ((y+1:Nat):Int) gJ 2 rfl ?_;(conv=>whnf);refine ⟨by omega,?_⟩;(conv=>whnf);rw [CI];refine Ew (gs _) ?_;(conv=>whnf);rw [show 0+((y+1:Nat):Int).toNat*3=(y+1)*3 by omega];refine Gn (by omega) ?_;(conv=>whnf);refine Gn (by rw [ta];omega) ?_;(conv=>whnf);refine Gn (by rw [ta,ta];omega) ?_;(conv=>whnf);have e1:=YN bK (y+1) (q7 bK y) (by omega);obtain ⟨jw,Rm⟩:∃ jw,jw=bK.set (y+1) (q7 bK y):=⟨_,rfl⟩;(have J6:jw.length=n:=by rw [Rm,ta];exact Rl);rw [←Rm] at e1;have aj1:(jw.flatMap qx).length=jw.length*3:=Iy qx 3 (fun _=>rfl) jw;erw [e1,J4];refine ⟨by omega,?_⟩;(conv=>whnf);rw [CI];refine Ew (gs _) ?_;(conv=>whnf);rw [show 0+(y:Int).toNat*3=y*3 by omega];refine Gn (by omega) ?_;(conv=>whnf);refine Gn (by rw [ta];omega) ?_;(conv=>whnf);refine Gn (by rw [ta,ta];omega) ?_;(conv=>whnf);have b9:=YN jw y (q7 bK (y+1)) (by omega);erw [b9,J4];(conv=>whnf);rw [hw];refine ⟨y,by omega,jw.set y (q7 bK (y+1)),by omega,by rw [ta];exact J6,?_,rfl,rfl⟩;rw [←Lf,h8,Rm];rfl
 ·have bj:n-i=0:=by omega
  rw [bj] at he;have he:S'=Hf S:=he;subst he;conv=>whnf
  exact bo _ _ _ ⟨.inl rfl,lF.refl _,rfl⟩
theorem afY {H:List ar} {id lo n:Nat} (bC:lo≤id) {S:List qB} {JB:Int} (aI:S.length=n) (za:n≤12) (ag:H[id]?=some (IH S)) :
  Sem Tryz.prog (.fn 78) [.ref id 0 n none 3,hX 0,hX n,hX JB,.func 59 [] []] H lo (.tuple []) (H.set id (IH (Hf S))):=by
 refine rK eD WN rfl ⟨by simp,fun j ab ae=>by rw [sf (by omega)]⟩ fun Q bo=>?_;unfold SL;obtain ⟨Q3,Ju⟩:∃ c,NZ=c:=⟨_,rfl⟩;rw [Ju];conv=>whnf
 refine .intro (fun m T H'=>T=qf 148 [(0,.ref id 0 n none 3),(1,hX 0),(2,hX n),(3,hX JB),(4,.func 59 [] []),(10,B true),(11,B true)]∧H'=H) 0 ⟨rfl,rfl⟩ ?_;rintro m T H' ⟨rfl,rfl⟩;subst Ju;unfold NZ;obtain ⟨a7,cc⟩:∃ c,NY=c:=⟨_,rfl⟩;obtain ⟨Q2,K9⟩:∃ c,SM=c:=⟨_,rfl⟩;rw [cc,K9];conv=>whnf
 rw [show IntKind.i64.wrap ((n:Int)-0)=(n:Int) by rw [HQ _ (by omega) (by omega)];omega,decide_eq_true (show (n:Int)≤12 by omega)];conv=>whnf
 subst cc;unfold NY;conv=>whnf
 refine ⟨_,_,rG (adU bC aI (by omega) ag),?_⟩;conv=>whnf
 exact bo _ _ _ ⟨.inr rfl,lF.refl _,rfl⟩
theorem ahA {H:List ar} {id lo n:Nat} (bC:lo≤id) {S:List qB} (aI:S.length=n) (za:n≤12) (ag:H[id]?=some (IH S)) :
  Sem Tryz.prog (.fn 58) [.ref id 0 n none 3,.func 59 [] []] H lo (.tuple []) (H.set id (IH (Hf S))):=by
 refine rK eD WK rfl ⟨by simp,fun j ab ae=>by rw [sf (by omega)]⟩ fun Q bo=>?_;unfold SC;conv=>whnf
 rw [show IntKind.u64.wrap (n:Int)=(n:Int) by rw [Zu];omega];refine ⟨by first | rfl | simp only [tH,uj,Mq,My,Mr,Mt,Ms,Mu,MA,Mz,Ka,Mv,Mw,Mx,tx,uh],_,OH n za,?_⟩
 conv=>whnf
 refine ⟨_,_,rG (afY bC aI za ag),?_⟩;conv=>whnf
 exact bo _ _ _ ⟨.inl rfl,lF.refl _,rfl⟩
section
variable {H:List ar} {lo:Nat}
theorem adV:Sem Tryz.prog (.fn 90) [.av [] 0 .shared,hX 0,hX 0,.func 59 [] []] H lo (.tuple []) H:=by
 refine rK eD WQ rfl (a'.refl _ _) fun Q bo=>?_;unfold SX;conv=>whnf
 refine .intro (fun m T H'=>T=qf 53 [(0,.av [] 0 .shared),(1,hX 0),(2,hX 0),(3,.func 59 [] []),(8,hX 1)]∧H=H') 0 ⟨rfl,rfl⟩ ?_;rintro m T H' ⟨rfl,rfl⟩;conv=>whnf
 exact bo _ _ _ ⟨.inl rfl,lF.refl _,rfl⟩
theorem afZ {JB:Int}:Sem Tryz.prog (.fn 78) [.av [] 0 .shared,hX 0,hX 0,hX JB,.func 59 [] []] H lo (.tuple []) H:=by
 refine rK eD WN rfl (a'.refl _ _) fun Q bo=>?_;unfold SL;obtain ⟨Q3,Ju⟩:∃ c,NZ=c:=⟨_,rfl⟩;rw [Ju];conv=>whnf
 refine .intro (fun m T H'=>T=qf 148 [(0,.av [] 0 .shared),(1,hX 0),(2,hX 0),(3,hX JB),(4,.func 59 [] []),(10,B true),(11,B true)]∧H'=H) 0 ⟨rfl,rfl⟩ ?_;rintro m T H' ⟨rfl,rfl⟩;subst Ju;unfold NZ;obtain ⟨a7,cc⟩:∃ c,NY=c:=⟨_,rfl⟩;obtain ⟨Q2,K9⟩:∃ c,SM=c:=⟨_,rfl⟩;rw [cc,K9];conv=>whnf
 subst cc;unfold NY;conv=>whnf
 refine ⟨_,_,rG adV,?_⟩;conv=>whnf
 exact bo _ _ _ ⟨.inr rfl,lF.refl _,rfl⟩
theorem ahB:Sem Tryz.prog (.fn 58) [.av [] 0 .shared,.func 59 [] []] H lo (.tuple []) H:=by
 refine rK eD WK rfl (a'.refl _ _) fun Q bo=>?_;unfold SC;conv=>whnf
 refine ⟨by first | rfl | simp only [tH,uj,Mq,My,Mr,Mt,Ms,Mu,MA,Mz,Ka,Mv,Mw,Mx,tx,uh],_,OH 0 (by decide),?_⟩
 conv=>whnf
 refine ⟨_,_,rG afZ,?_⟩;conv=>whnf
 exact bo _ _ _ ⟨.inl rfl,lF.refl _,rfl⟩
end

abbrev L4 (p:qm) (qk:List (List Int)):List I:=[(.agg [(.av (p.1.flatMap p_) p.1.length .shared),(hX p.2.1),(hX p.2.2)]),(.av (qk.map oW) qk.length (.uniq 1))]
theorem aiQ {eH:(List Int)} {qT:Unit→Option ((Option (((List (Int×Int))×(Int×Int))×Unit))×Int)} {s2:Int} {p:((List (Int×Int))×(Int×Int))} {qk:(List (List Int))} {s1:Int} {v:((Option (((List (Int×Int))×(Int×Int))×Unit))×Int)} {Q:cN→List I→List ar→Prop}   (jG:∀ (e:Int) (T:List I),v=(none,e)→rZ [rS p] T [.tmp 4,.tmp 5]=some [.eF,hX e]→Q .ret T [rS p]) (I3:∀ (qe:List I),qT ()=some v→rk 48 [(2,(.ptr 0 0)),(8,(.av ((ix qk s1).map hX) (ix qk s1).length .shared)),(17,(.av (qk.map oW) qk.length (.own 1))),(18,(hX (qk.length:Int))),(19,(hX s1))] qe→Q (.exit 2) qe [ar.cells [(.av (p.1.flatMap p_) p.1.length .shared),(hX p.2.1),(hX p.2.2)]]) {T:List I} (bZ:eW [false,false,true,false,false,false,false,false,true,false,false,false,false,false,false,false,false,true,true,true,false,false,false,false,false,false,true,true,true,false,false,false,false,false,false,false,false,false,false,false,false,false,false,false,false,false,false,false] T=qf 48 [(2,(.ptr 0 0)),(8,(.av ((ix qk s1).map hX) (ix qk s1).length .shared)),(17,(.av (qk.map oW) qk.length (.own 1))),(18,(hX (qk.length:Int))),(19,(hX s1)),(26,(.av (eH.map hX) eH.length .shared)),(27,(hX (eH.length:Int))),(28,(hX s2))]) (h:IG eH qT qh s2=some v) :
  dN Tryz.prog Kt 40 0 none JY T [ar.cells [(.av (p.1.flatMap p_) p.1.length .shared),(hX p.2.1),(hX p.2.2)]] Q:=by
 unfold JY;skip;refine wp_loop bZ ?_;refine .intro (fun m T H=>∃ (s2:Int),T=qf 48 [(2,(.ptr 0 0)),(8,(.av ((ix qk s1).map hX) (ix qk s1).length .shared)),(17,(.av (qk.map oW) qk.length (.own 1))),(18,(hX (qk.length:Int))),(19,(hX s1)),(26,(.av (eH.map hX) eH.length .shared)),(27,(hX (eH.length:Int))),(28,(hX s2))]∧H=[ar.cells [(.av (p.1.flatMap p_) p.1.length .shared),(hX p.2.1),(hX p.2.2)]]∧IG eH qT m s2=some v) qh ⟨s2,rfl,rfl,h⟩ ?_;clear h bZ;rintro m T H ⟨s2,rfl,rfl,h⟩;cases m
 ·exact rz h
 rename_i m;rw [IG.eq_2] at h;conv=>whnf
 refine bs h (fun qR h=>?_) fun qR h=>?_
 ·rw [qR];conv=>whnf
  refine qD h id fun rb h=>?_;rw [ri hX eH s2 rb];conv=>whnf
  refine bs h (fun q9 h=>?_) fun q9 h=>?_
  ·rw [q9];(conv=>whnf);obtain rfl:=Option.some.inj h;exact jG _ _ rfl rfl
  ·rw [q9];(conv=>whnf);exact ⟨m,sg m,(w (s2+(1:Int))),rfl,rfl,h⟩
 ·rw [qR];conv=>whnf
  exact I3  _ h ⟨rfl,rfl⟩
theorem ZK {p:((List (Int×Int))×(Int×Int))} {qk:(List (List Int))} {qc:Unit→Option ((Option (((List (Int×Int))×(Int×Int))×Unit))×Int)} {s1:Int} {v:((Option (((List (Int×Int))×(Int×Int))×Unit))×Int)} {Q:cN→List I→List ar→Prop}   (jG:∀ (e:Int) (T:List I),v=(none,e)→rZ [rS p] T [.tmp 4,.tmp 5]=some [.eF,hX e]→Q .ret T [rS p]) (q':∀ (qe:List I),qc ()=some v→rk 48 [(2,(.ptr 0 0))] qe→Q (.exit 0) qe [ar.cells [(.av (p.1.flatMap p_) p.1.length .shared),(hX p.2.1),(hX p.2.2)]]) {T:List I} (bZ:eW [false,false,true,false,false,false,false,false,false,false,false,false,false,false,false,false,false,true,true,true,false,false,false,false,false,false,false,false,false,false,false,false,false,false,false,false,false,false,false,false,false,false,false,false,false,false,false,false] T=qf 48 [(2,(.ptr 0 0)),(17,(.av (qk.map oW) qk.length (.own 1))),(18,(hX (qk.length:Int))),(19,(hX s1))]) (h:HD p qk qc qh s1=some v) :
  dN Tryz.prog Kt 40 0 none Jp T [ar.cells [(.av (p.1.flatMap p_) p.1.length .shared),(hX p.2.1),(hX p.2.2)]] Q:=by
 unfold Jp;obtain ⟨r9,qC⟩:∃ c,JY=c:=⟨_,rfl⟩;rw [qC];refine wp_loop bZ ?_;refine .intro (fun m T H=>∃ (s1:Int),T=qf 48 [(2,(.ptr 0 0)),(17,(.av (qk.map oW) qk.length (.own 1))),(18,(hX (qk.length:Int))),(19,(hX s1))]∧H=[ar.cells [(.av (p.1.flatMap p_) p.1.length .shared),(hX p.2.1),(hX p.2.2)]]∧HD p qk qc m s1=some v) qh ⟨s1,rfl,rfl,h⟩ ?_;clear h bZ;rintro m T H ⟨s1,rfl,rfl,h⟩;cases m
 ·exact rz h
 rename_i m;rw [HD.eq_2] at h;conv=>whnf
 refine bs h (fun qs h=>?_) fun qs h=>?_
 ·rw [qs];conv=>whnf
  refine qD h id fun qG h=>?_;rw [ri oW qk s1 qG];conv=>whnf
  obtain ⟨bh,qW,h⟩:=p' h;refine ⟨qi.pl,_,TC qW,?_⟩;conv=>whnf
  obtain ⟨eH,q8,h⟩:=p' h;refine ⟨(p9 (I7 rfl (p9 (Iq (p9 (rL (fun _=>rfl) _ _ _) rfl)) rfl)) rfl),_,TB  q8,?_⟩;conv=>whnf
  subst qC;refine aiQ ?_ ?_ (by exact rfl) h
  ·exact fun e T bD ai=>jG e T bD ai
  ·intro  qe h qz;obtain ⟨rq,rfl⟩:=qz.ex;(conv=>whnf);refine bs h (fun rv h=>?_) fun rv h=>?_
   ·rw [rv];(conv=>whnf);obtain rfl:=Option.some.inj h;exact jG _ _ rfl rfl
   ·rw [rv];(conv=>whnf);exact ⟨m,sg m,(w (s1+(1:Int))),rfl,rfl,h⟩
 ·rw [qs];conv=>whnf
  exact q'  _ h ⟨rfl,rfl⟩
theorem aiM {p:qm} {qk:List (List Int)} {e:Int} (h:rW p qk=some (none,e)):Sem Tryz.prog (.fn 40) (L4 p qk) [] 0 (.tuple [.eF,hX e]) [rS p]:=by
 refine rK eD NG rfl (IM (sE _)) fun Q bo=>?_;have jG:∀ (cS:Int) (T:List I),((none,e):Option (qm×Unit)×Int)=(none,cS)→rZ [rS p] T [.tmp 4,.tmp 5]=some [.eF,hX cS]→Q .ret T [rS p]:=fun cS T he ai=>by
  obtain rfl:=(Prod.mk.inj he).2;exact bo _ _ _ ⟨.inr rfl,lF.refl _,by rw [ai];rfl⟩
 unfold rW at h;unfold M7;obtain ⟨J2,rN⟩:∃ c,Jp=c:=⟨_,rfl⟩;rw [rN];conv=>whnf
 obtain ⟨aS,gJ,h⟩:=p' h;refine ⟨qi.pl,_,Oq gJ,?_⟩;conv=>whnf
 refine bs h (fun gK h=>?_) fun gK h=>?_
 ·rw [gK];conv=>whnf
  obtain rfl:aS=e:=(Prod.mk.inj (Option.some.inj h)).2;exact jG _ _ rfl rfl
 ·rw [gK];conv=>whnf
  subst rN;refine ZK ?_ ?_ (by exact rfl) h
  ·exact fun e T bD ai=>jG e T bD ai
  ·intro  qe h qz;exact absurd (Prod.mk.inj (Option.some.inj h)).1 (by simp)
theorem aiR {p:qm} {qk:List (List Int)} {t:qm×Unit} {e:Int} (h:rW p qk=some (some t,e)):t=(p,())∧e=0∧Sem Tryz.prog (.fn 40) (L4 p qk) [] 0 (.tuple [.ptr 2 0,hX 0]) [rS p,.map [] 0,.cells [(.av (p.1.flatMap p_) p.1.length .shared),(hX p.2.1),(hX p.2.2),.map 1]]:=by
 have ad:t=(p,())∧e=0:=by
  have aX:=h;unfold rW at aX;obtain ⟨aS,gJ,aX⟩:=p' aX;split at aX
  ·cases aX
  ·exact Wm aX
 obtain ⟨rfl,rfl⟩:=ad;refine ⟨rfl,rfl,?_⟩;refine rK eD NG rfl (IM (sE _)) fun Q bo=>?_;unfold rW at h;unfold M7;obtain ⟨J2,rN⟩:∃ c,Jp=c:=⟨_,rfl⟩;rw [rN];conv=>whnf
 obtain ⟨aS,gJ,h⟩:=p' h;refine ⟨qi.pl,_,Oq gJ,?_⟩;conv=>whnf
 refine bs h (fun gK h=>?_) fun gK h=>?_
 ·exact absurd (Prod.mk.inj (Option.some.inj h)).1 (by simp)
 ·rw [gK];conv=>whnf
  subst rN;refine ZK ?_ ?_ (by exact rfl) h
  ·exact fun e T bD ai=>absurd (Prod.mk.inj bD).1 (by simp)
  ·intro  qe h qz;obtain ⟨rq,rfl⟩:=qz.ex;(conv=>whnf);exact bo _ _ _ ⟨.inr rfl,lF.refl _,rfl⟩
section
variable {p:qm} {qk:List (List Int)}
theorem ab_ {e:Int} {lo:Nat} (h:rW p qk=some (none,e)):oU Tryz.prog 8 lo (.fn 40) (L4 p qk) [] (.tuple [.eF,hX e]) [] :=
 ⟨_,EB (aiM h),by
  show (k6 _ _ _ _ _ _ (.fn 40) (L4 p qk) [] 0).bind _=_
  rw [EA];rfl⟩
theorem acb {t:qm×Unit} {e:Int} {lo:Nat} (h:rW p qk=some (some t,e)):oU Tryz.prog 8 lo (.fn 40) (L4 p qk) [] (.tuple [.bR [(.av (p.1.flatMap p_) p.1.length .shared),(hX p.2.1),(hX p.2.2),.map 0],hX 0]) [.map [] 0] :=
 ⟨_,EB (aiR h).2.2,by
  show (k6 _ _ _ _ _ _ (.fn 40) (L4 p qk) [] 0).bind _=_;rw [EA];have e1:dZ (bL [rS p,.map [] 0,.cells [(.av (p.1.flatMap p_) p.1.length .shared),(hX p.2.1),(hX p.2.2),.map 1]] 0 1 0 6) [(.av (p.1.flatMap p_) p.1.length .shared),(hX p.2.1),(hX p.2.2),.map 1]=some [(.av (p.1.flatMap p_) p.1.length .shared),(hX p.2.1),(hX p.2.2),.map 0] :=
   rM (yW (HB (fun _=>p9 rfl (p9 rfl rfl)) _ _ _)) (rM (yW rfl) (rM (yW rfl) (rM rfl IP)))
  have b9:bL [rS p,.map [] 0,.cells [(.av (p.1.flatMap p_) p.1.length .shared),(hX p.2.1),(hX p.2.2),.map 1]] 0 1 0 8 (.tuple [.ptr 2 0,hX 0])=some (.tuple [.bR [(.av (p.1.flatMap p_) p.1.length .shared),(hX p.2.1),(hX p.2.2),.map 0],hX 0]) :=
   Nh (rM (show (dZ (bL [rS p,.map [] 0,.cells [(.av (p.1.flatMap p_) p.1.length .shared),(hX p.2.1),(hX p.2.2),.map 1]] 0 1 0 6) [(.av (p.1.flatMap p_) p.1.length .shared),(hX p.2.1),(hX p.2.2),.map 1]).map I.bR=_ by rw [e1];rfl) (rM rfl IP))
  show (match mapM (bL [rS p,.map [] 0,.cells [(.av (p.1.flatMap p_) p.1.length .shared),(hX p.2.1),(hX p.2.2),.map 1]] 0 1 0 8) [],bL [rS p,.map [] 0,.cells [(.av (p.1.flatMap p_) p.1.length .shared),(hX p.2.1),(hX p.2.2),.map 1]] 0 1 0 8 (.tuple [.ptr 2 0,hX 0]) with | some es',some v=>some (v,[]++[ar.map es' 0]) | _,_=>none)=_
  rw [b9];rfl⟩
end
end Go.Proofs.YtkoioidpbbbaiaaGreat.Ab


namespace Go.Proofs.YtkoioidpbbbaiaaGreat.Ab
open Go
noncomputable def Sr:gB :=
 p5 [p6 33 9, p4 34 8, p3 35 [.jm 33, .jm 34] (.other (Oper.mk (some 35) (Op.call (Call.mk (Callee.builtin Builtin.copy) (Array.mk [Operand.tmp 33, Operand.tmp 34]) (Array.mk [38, 38]))) 3 "curl.go:142" (Array.mk [Edge.mk 0 Ground.data, Edge.mk 1 Ground.data]) none) 0)] (p5 [p4 36 9, p4 4 36, qg 5 0] .ret)
noncomputable def NS:gB :=
 p5 [p6 30 8,qZ 31 30,p3 32 [.m_ 31,.Bs 31] (.z1 [.int .i64 0,.int .i64 0,.int .i64 0] 3 24),p4 9 32] Sr
noncomputable def Lp:gB :=
 p5 [p6 28 8,p3 29 [.cv (.func 58 [] []),.jm 28,.cv (.func 59 [] [])] (.call 1)] NS
noncomputable def Ss:gB :=
 p5 [p6 20 6,p6 21 1,p3 22 [.cv (.func 57 [] []),.jm 20,.jm 21,.cv (.int .i64 0)] (.call 1),p4 23 6,p4 24 1,p3 25 [.cv (.func 57 [] []),.jm 23,.jm 24,.cv (.int .i64 1)] (.call 1),p3 26 [.Bs 22,.Bs 25] (.yB 2 1 [.av [] 0 .full] [0,1]),p3 27 [.cv (.func 56 [] []),.jm 26] (.call 1),⟨some 8,[.jm 27],none,some 27,.Bq⟩] Lp
noncomputable def X1:gB :=
 .seq (p5 [p6 17 7,qu 18 17 0 .neq] (.cond (.m_ 18) (p5 [p4 19 7,p3 4 [.cv (.av [] 0 .full)] (.nil 3),p4 5 19] .ret) .skip)) Ss
noncomputable def X2:gB :=
 p5 [p3 11 [.Bs 2] (.zE (.str 3)),p6 12 1,p3 13 [.Bs 12] (.yB 1 1 [.av [] 0 .full] [0]),p3 14 [.cv (.func 40 [] []),.jm 11,.jm 13] (.call 8),p4 10 14,qQ 15 10 0,p3 16 [.Bs 10] (.ext 1),p4 6 15,p4 7 16] X1
noncomputable def X0:gB :=
 p5 [p3 2 [.jm 0] .yy,p3 4 [.cv (.av [] 0 .full)] (.nil 3),qg 5 0] X2
theorem aei:qt Go.Proofs.Tryz.prog OC 23=some (X0,37,[.tmp 4,.tmp 5]):=by kernel_rfl
end Go.Proofs.YtkoioidpbbbaiaaGreat.Ab
