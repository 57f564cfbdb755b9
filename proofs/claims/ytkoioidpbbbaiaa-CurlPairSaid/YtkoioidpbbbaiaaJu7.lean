
import Derived.Test.YtkoioidpbbbaiaaJu5
import Derived.Test.YtkoioidpbbbaiaaJu6
import Derived.KernelRfl
import Derived.Test.YtkoioidpbbbaiaaProg
set_option linter.unusedSimpArgs false
set_option linter.unusedVariables false
set_option linter.unusedSectionVars false

open Bool renaming and_eq_true→sn,and_self→tX,and_true→tw,eq_iff_iff→ve
open Int renaming le_refl→sK,toNat_natCast→tx
open List renaming all_cons→tB,all_nil→t_,append_assoc→sx,drop_eq_getElem_cons→s9,drop_of_length_le→vi,drop_zero→tt,flatMap_append→uo,getD_eq_getElem?_getD→sA,getElem?_append→ss,getElem?_append_left→sj,getElem?_eq_none→uT,getElem?_eq_some_iff→sd,getElem?_set→tI,getElem?_set_ne→sf,getElem?_set_self→sm,getElem_of_mem→uF,length_append→sE,length_eq_zero_iff→sP,length_erase_of_mem→tE,length_set→s8,map_append→sT,map_cons→sI,map_nil→uD,mem_append→s0,mem_cons→sB,mem_filter→sW,mem_map→sD,mem_map_of_mem→th,mem_of_getElem?→sy,mem_range→sJ,mem_singleton→sS,nodup_append→uc,nodup_cons→tG,not_mem_nil→tT,pairwise_iff_getElem→vN,pairwise_map→vh,take_length→u_,take_of_length_le→tf,take_succ_eq_append_getElem→uH
open Nat renaming ble_eq_true_of_le→tq,le_refl→se,lt_succ_self→sC,zero_add→sG,zero_le→sH
open Option renaming bind_some→sc
namespace Go.Proofs.Ytkoioidpbbbaiaa.Ab
open Go
set_option maxRecDepth 20000
set_option maxHeartbeats 1000000
def ry (p:qd):Int:=if p.1.length=3∨p.1.length=5∨p.1.length=7 then (if (∀ s∈p.1,qV s)∧0≤p.2.1∧p.2.1≤p.2.2∧p.2.2≤50 then 0 else 3) else 6
theorem ZD (s:qE):Mw s=some (decide (qV s)):=by
 unfold Mw qV;by_cases ab:0≤s.1
 ·rw [if_pos (decide_eq_true ab)];by_cases ae:s.1≤100
  ·rw [if_pos (decide_eq_true ae)];by_cases aF:-10≤s.2
   ·rw [if_pos (decide_eq_true aF)];simp [ab,ae,aF]
   ·rw [if_neg (by simpa using aF)];simp [aF]
  ·rw [if_neg (by simpa using ae)];simp [ae]
 ·rw [if_neg (by simpa using ab)];simp [ab]
theorem Wv {p:qd} (aB:p.1.length≤1000) {K:Option Int}:∀ (m i:Nat),i≤p.1.length→p.1.length-i<m→(∀ j,j<i→qV (ix p.1 (j:Int))) →
  Mu p (fun _=>K) m (i:Int)=if ∀ s∈p.1,qV s then K else some 3
 | 0,_,_,h,_=>absurd h (by omega)
 | m+1,i,hi,hm,aw=>by
   rw [Mu];by_cases aR:i<p.1.length
   ·rw [if_pos (decide_eq_true (by omega)),qD (by omega),ZD,sc,Iw i (by omega)];by_cases al:qV (ix p.1 (i:Int))
    ·rw [if_pos (decide_eq_true al)];refine Wv aB m (i+1) (by omega) (by omega) fun j gf=>?_;by_cases e:j=i
     ·rw [e];exact al
     ·exact aw j (by omega)
    ·rw [if_neg (by simpa using al),if_neg];exact fun cY=>al (cY _ (Kn (by omega)))
   ·rw [if_neg (by simpa using by omega),if_pos];intro s ah;obtain ⟨j,ec,rfl⟩:=uF ah;have:=aw j (by omega)
    rwa [rB ec] at this
theorem TA {p:qd} (aB:p.1.length≤1000):LM p=some (ry p):=by
 have aw:Mt p=some (if (∀ s∈p.1,qV s)∧0≤p.2.1∧p.2.1≤p.2.2∧p.2.2≤50 then 0 else 3):=by
  unfold Mt;rw [show (0:Int)=((0:Nat):Int) from rfl,Wv aB ql 0 (by omega) (Il (by omega)) (fun j h=>absurd h (by omega))];by_cases h:∀ s∈p.1,qV s
  ·rw [if_pos h];by_cases ab:p.2.1<0
   ·rw [if_pos (decide_eq_true (by exact ab)),if_neg (by omega)]
   ·rw [if_neg (by simpa using by omega)];by_cases ae:p.2.2<p.2.1
    ·rw [if_pos (decide_eq_true ae),if_neg (by omega)]
    ·rw [if_neg (by simpa using by omega)];by_cases aF:50<p.2.2
     ·rw [if_pos (decide_eq_true aF),if_neg (by omega)]
     ·rw [if_neg (by simpa using by omega),if_pos ⟨h,by omega,by omega,by omega⟩]
  ·rw [if_neg h,if_neg (fun k=>h k.1)]
 unfold LM ry;by_cases aF:p.1.length=3
 ·rw [if_neg (by simp [aF]),if_pos (.inl aF),aw]
 ·rw [if_pos (decide_eq_true (by omega))];by_cases bO:p.1.length=5
  ·rw [if_neg (by simp [bO]),if_pos (.inr (.inl bO)),aw]
  ·rw [if_pos (decide_eq_true (by omega))];by_cases cL:p.1.length=7
   ·rw [if_neg (by simp [cL]),if_pos (.inr (.inr cL)),aw]
   ·rw [if_pos (decide_eq_true (by omega)),if_neg (by omega)]
theorem ZB (s:qE):LO s=some (!decide (qV s)):=by
 unfold LO;rw [NC,sc];unfold qV;by_cases h:0≤s.1∧s.1≤100
 ·rw [if_pos (by simp [h.1,h.2]),NC,sc];by_cases ae:-10≤s.2 <;> by_cases aF:s.2≤10 <;> simp [h.1,h.2,ae,aF]
 ·rw [if_neg (by simpa using h)];rw [decide_eq_false (show ¬ (0≤s.1∧s.1≤100∧-10≤s.2∧s.2≤10) from fun k=>h ⟨k.1,k.2.1⟩)];rfl
theorem Wh {S:List qE} (aB:S.length≤1000):∀ (m i:Nat),i≤S.length→S.length-i<m→(∀ j,j<i→qV (ix S (j:Int))) →
  ∃ r,Mk S (fun rp=>LO rp) (fun _=>some (-1:Int)) m (i:Int)=some r∧decide (0≤r)=!decide (∀ s∈S,qV s)
 | 0,_,_,h,_=>absurd h (by omega)
 | m+1,i,hi,hm,aw=>by
   rw [Mk];by_cases aR:i<S.length
   ·rw [if_pos (decide_eq_true (by omega)),qD (by omega),ZB,sc,Iw i (by omega)];by_cases al:qV (ix S (i:Int))
    ·rw [if_neg (by simpa using al)];refine Wh aB m (i+1) (by omega) (by omega) fun j gf=>?_;by_cases e:j=i
     ·rw [e];exact al
     ·exact aw j (by omega)
    ·rw [if_pos (by simpa using al)];refine ⟨_,rfl,?_⟩;rw [decide_eq_true (by omega),decide_eq_false fun cY=>al (cY _ (Kn (by omega)))];rfl
   ·rw [if_neg (by simpa using by omega)];refine ⟨-1,rfl,?_⟩;rw [decide_eq_false (by omega),decide_eq_true];rfl;intro s ah;obtain ⟨j,ec,rfl⟩:=uF ah;have:=aw j (by omega)
    rwa [rB ec] at this
theorem aiD {S:List qE} (aB:S.length≤1000):O6 S (fun rp=>LO rp)=some (!decide (∀ s∈S,qV s)):=by
 unfold O6 Qj;obtain ⟨r,ab,ae⟩:=Wh aB ql 0 (by omega) (Il (by omega)) (fun j h=>absurd h (by omega));rw [show (0:Int)=((0:Nat):Int) from rfl,ab,sc];exact congrArg some ae
theorem ZN (n lo hi:Int):MA n lo hi=some (!(decide (lo≤n) && decide (n≤hi))):=by
 unfold MA;by_cases ab:n<lo
 ·rw [if_pos (decide_eq_true ab),decide_eq_false (show ¬ lo≤n by omega)];rfl
 ·rw [if_neg (by simpa using ab),decide_eq_true (show lo≤n by omega)];by_cases ae:hi<n
  ·rw [decide_eq_true ae,decide_eq_false (show ¬ n≤hi by omega)];rfl
  ·rw [decide_eq_false ae,decide_eq_true (show n≤hi by omega)];rfl
theorem aip (lo hi n k:Int):Jd lo hi [n,k]=some ((decide (lo≤n) && decide (n≤hi)) && (decide (lo≤k) && decide (k≤hi))):=by
 obtain ⟨m,hm⟩:∃ m,ql=m+3:=⟨ql-3,rfl⟩;unfold Jd O5 O7;rw [hm,Ku.eq_2,if_pos (show decide ((0:Int)<(([n,k]:List Int).length:Int))=true from rfl),qD ⟨sK _,show (0:Int)<(2:Int) by decide⟩,show ix [n,k] (0:Int)=n from rfl,ZN,sc];cases ak:(decide (lo≤n) && decide (n≤hi))
 ·rfl
 ·rw [show w (0+1:Int)=1 from rfl,if_neg (by decide),Ku.eq_2,if_pos (show decide ((1:Int)<(([n,k]:List Int).length:Int))=true from rfl),qD ⟨by decide,show (1:Int)<(2:Int) by decide⟩,show ix [n,k] (1:Int)=k from rfl,ZN,sc];cases ak:(decide (lo≤k) && decide (k≤hi))
  ·rfl
  ·rw [show w (1+1:Int)=2 from rfl,Ku.eq_2];rfl
theorem QC {p:qd} (aB:p.1.length≤1000):LR p=some (ry p):=by
 have aw:NF p (fun _=>some (0:Int)) false=some (if (∀ s∈p.1,qV s)∧0≤p.2.1∧p.2.1≤p.2.2∧p.2.2≤50 then 0 else 3):=by
  unfold NF;rw [if_neg (by decide),aiD aB,sc];by_cases h:∀ s∈p.1,qV s
  ·rw [if_neg (by simpa using h),aip,sc];by_cases ab:(0≤p.2.1∧p.2.1≤50)∧(0≤p.2.2∧p.2.2≤50)
   ·rw [if_pos (by simp [ab])];by_cases ae:p.2.2<p.2.1
    ·rw [if_pos (decide_eq_true ae),if_neg (by omega)]
    ·rw [if_neg (by simpa using by omega),if_pos ⟨h,by omega,by omega,by omega⟩]
   ·rw [if_neg (by simpa [and_assoc] using fun a b c=>by omega),if_neg (by omega)]
  ·rw [if_pos (by simpa using h),if_neg (fun k=>h k.1)]
 unfold LR ry;rw [NC,sc];have iK:(p.1.length:Int).tmod 2=((p.1.length % 2:Nat):Int):=Nj _;by_cases ai:3≤p.1.length∧p.1.length≤7
 ·rw [if_pos (by simp;omega),qD (by decide),iK];by_cases h:p.1.length=3∨p.1.length=5∨p.1.length=7
  ·rw [if_pos h,decide_eq_false (by omega),aw]
  ·rw [if_neg h,decide_eq_true (by omega)];rfl
 ·rw [if_neg (by simp;omega),if_neg (by omega)];rfl
def qs (n:Nat) (o:List Int):Prop:=o.length=n∧o.Nodup∧∀ x∈o,0≤x∧x<(n:Int)
instance (n:Nat) (o:List Int):Decidable (qs n o):=by unfold qs;exact inferInstance
def rN (p:qd) (o:List Int):Int:=if ry p≠0 then ry p else if qs p.1.length o then 0 else 16
theorem Wy {l:List Int} (ao:l.length≤1000) {v:Int}:∀ (m i:Nat),i≤l.length→l.length-i<m→(∀ j,j<i→ix l (j:Int)≠v)→Mz l v (fun _=>some false) m (i:Int)=some (decide (v∈l))
 | 0,_,_,h,_=>absurd h (by omega)
 | m+1,i,hi,hm,aw=>by
   rw [Mz];by_cases aR:i<l.length
   ·rw [if_pos (decide_eq_true (by omega)),qD (by omega),Iw i (by omega)];by_cases al:ix l (i:Int)=v
    ·rw [if_pos (decide_eq_true al),decide_eq_true (by rw [←al];exact Kn (by omega))]
    ·rw [if_neg (by simpa using al)];refine Wy ao m (i+1) (by omega) (by omega) fun j gf=>?_;by_cases e:j=i
     ·rw [e];exact al
     ·exact aw j (by omega)
   ·rw [if_neg (by simpa using by omega),decide_eq_false];intro ah;obtain ⟨j,ec,e⟩:=uF ah;exact aw j (by omega) (by rw [rB ec];exact e)
theorem ZM {l:List Int} (ao:l.length≤1000) (v:Int):Kt l v=some (decide (v∈l)):=by
 unfold Kt;exact Wy ao ql 0 (by omega) (Il (by omega)) (fun j h=>absurd h (by omega))
def Og (n:Nat) (o:List Int) (i:Nat):Prop:=(o.take i).Nodup∧∀ x∈o.take i,0≤x∧x<(n:Int)
theorem afp {n:Nat} {o:List Int} {i:Nat} (hi:i<o.length):Og n o (i+1)↔Og n o i∧(0≤ix o (i:Int)∧ix o (i:Int)<(n:Int))∧ix o (i:Int) ∉ o.take i:=by
 unfold Og;rw [uH hi,rB hi,uc];constructor
 ·rintro ⟨⟨ab,_,aF⟩,ba⟩;exact ⟨⟨ab,fun x aj=>ba x (List.mem_append_left _ aj)⟩,ba _ (List.mem_append_right _ (sS.2 rfl)),fun hm=>aF _ hm _ (sS.2 rfl) rfl⟩
 ·rintro ⟨⟨ab,ae⟩,aF,ba⟩;refine ⟨⟨ab,by simp,?_⟩,?_⟩
  ·intro a cq b af e;rw [sS] at af;subst af;subst e;exact ba cq
  ·intro x aj;rcases s0.1 aj with aj | aj
   ·exact ae x aj
   ·rw [sS] at aj;subst aj;exact aF
theorem Ww {p:qd} {o:List Int} (ao:o.length≤1000) (aI:o.length=p.1.length):∀ (m i:Nat),i≤o.length→o.length-i<m→Og p.1.length o i→Mv p o (fun _=>some 0) m (i:Int)=some (if qs p.1.length o then 0 else 16)
 | 0,_,_,h,_=>absurd h (by omega)
 | m+1,i,hi,hm,aw=>by
   rw [Mv];by_cases aR:i<o.length
   ·rw [if_pos (decide_eq_true (by omega)),qD (by omega),Iw i (by omega)];have fp:(¬ (0≤ix o (i:Int)∧ix o (i:Int)<(p.1.length:Int))∨ix o (i:Int)∈o.take i)→¬ qs p.1.length o:=fun af al=>by
     rcases af with af | af
     ·exact af (al.2.2 _ (Kn (by omega)))
     ·have:(o.take (i+1)).Nodup:=al.2.1.sublist (List.take_sublist _ _)
      rw [uH aR,uc] at this;exact this.2.2 _ af _ (by rw [rB aR];simp) rfl
    by_cases ab:ix o (i:Int)<0
    ·rw [if_pos (decide_eq_true ab),if_neg (fp (.inl (by omega)))]
    ·rw [if_neg (by simpa using by omega),qD (by omega)];by_cases ae:(p.1.length:Int)≤ix o (i:Int)
     ·rw [if_pos (decide_eq_true ae),if_neg (fp (.inl (by omega)))]
     ·rw [if_neg (by simpa using by omega),qD (by omega),qD (by omega),tx,ZM (by rw [List.length_take];omega),sc];by_cases aF:ix o (i:Int)∈o.take i
      ·rw [if_pos (decide_eq_true aF),if_neg (fp (.inr aF))]
      ·rw [if_neg (by simpa using aF)];exact Ww ao aI m (i+1) (by omega) (by omega) ((afp aR).2 ⟨aw,by omega,aF⟩)
   ·(obtain rfl:i=o.length:=by omega);rw [if_neg (by simp),if_pos];unfold Og at aw;rw [u_] at aw;exact ⟨aI,aw.1,aw.2⟩
theorem TC {p:qd} (aB:p.1.length≤1000) {o:List Int} (ao:o.length≤1000):Ks p o=some (rN p o):=by
 unfold Ks rN;rw [TA aB,sc,sc];by_cases h:ry p=0
 ·rw [if_neg (show ¬ decide (ry p≠0)=true by simpa using h),if_neg (show ¬ ry p≠0 by simpa using h)];by_cases aI:o.length=p.1.length
  ·rw [if_neg (show ¬ decide ((o.length:Int)≠(p.1.length:Int))=true by simp [aI])];exact Ww ao aI ql 0 (by omega) (Il (by omega)) ⟨by simp,by simp⟩
  ·rw [if_pos (show decide ((o.length:Int)≠(p.1.length:Int))=true from decide_eq_true (by omega)),if_neg (fun k=>aI k.1)]
 ·rw [if_pos (decide_eq_true h),if_pos h]
theorem ahd:Sort.SWO Sort.ltInt:=by
 constructor <;> intros <;> simp_all [Sort.ltInt] <;> omega
theorem YH (l:List Int):(Jt l).Perm l∧(Jt l).Pairwise (·≤·):=by
 obtain ⟨⟨ab,_,aF⟩,ba⟩:=Sort.insertionSort_holds (lt:=Sort.ltInt) ahd l.toArray 0 l.length (sH _) (by simp);unfold Jt;generalize Sort.insertionSort Sort.ltInt l.toArray 0 l.length=d at ab aF ba;have ab:d.size=l.length:=by simpa using ab
 have e1:(d.extract 0 l.length).toList=d.toList:=by rw [←ab];simp
 have b9:(l.toArray.extract 0 l.length).toList=l:=by simp
 rw [e1,b9] at aF;refine ⟨aF,vN.2 fun i j hi aw h7=>?_⟩;have hi':i<d.size:=by simpa using hi
 have ec:j<d.size:=by simpa using aw
 have:=ba i j (sH _) h7 (by omega);rw [getElem!_pos d i hi',getElem!_pos d j ec] at this;simp only [Sort.ltInt,decide_eq_false_iff_not] at this;simp only [Array.getElem_toList];omega
theorem MX {n:Nat} {x:Int}:x∈qo n↔0≤x∧x<(n:Int):=by
 simp only [qo,sD,sJ];exact ⟨by rintro ⟨i,hi,rfl⟩;omega,fun h=>⟨x.toNat,by omega,by omega⟩⟩
theorem Tn (n:Nat):(qo n).Pairwise (·<·):=by
 unfold qo;rw [vh];exact List.pairwise_lt_range.imp fun h=>by omega
theorem YU (n:Nat):(qo n).Nodup:=agG (Tn n)
theorem W6:∀ {a b:List Int},a.Nodup→(∀ x∈a,x∈b)→b.length≤a.length→a.Perm b
 | [],b,_,_,h=>by
   rw [sP.1 (show b.length=0 by simpa using h)]
 | x::a,b,aI,ah,h=>by
   have aj:x∈b:=ah x (by simp);obtain ⟨ab,ae⟩:=tG.1 aI;refine (List.Perm.cons x (W6 (b:=b.erase x) ae (fun y aY=>?_) ?_)).trans (List.perm_cons_erase aj).symm
   ·exact (List.mem_erase_of_ne (fun e=>ab (by rw [←e];exact aY))).2 (ah y (by simp [aY]))
   ·rw [tE aj];simp at h;omega
theorem KS {n:Nat} {o:List Int}:qs n o↔o.Perm (qo n):=by
 constructor
 ·rintro ⟨ab,ae,aF⟩;exact W6 ae (fun x aj=>MX.2 (aF x aj)) (by simp [qo,ab])
 ·intro h;exact ⟨by rw [h.length_eq];simp [qo],h.nodup_iff.2 (YU n),fun x aj=>MX.1 (h.mem_iff.1 aj)⟩
theorem afd {n:Nat} {o:List Int}:qs n o↔o∈q' n (qo n):=by
 rw [KS,PH n _ _ (by simp [qo])]
theorem YI {l:List Int}:(∀ j:Nat,j<(Jt l).length→ix (Jt l) (j:Int)=(j:Int))↔qs l.length l:=by
 obtain ⟨ab,ae⟩:=YH l;have ao:=ab.length_eq;constructor
 ·intro h;have e:Jt l=qo l.length:=by
   refine List.ext_getElem (by simp [qo,ao]) fun j a b=>?_;have:=h j a;rw [rB a] at this;rw [this];simp [qo]
  rw [KS,←e];exact ab.symm
 ·intro h;have e:Jt l=qo l.length:=by
   refine List.Perm.eq_of_pairwise (le:=fun (a b:Int)=>a≤b) (fun a b _ _ x y=>by omega) ae ((Tn _).imp fun h=>by omega) (ab.trans (KS.1 h))
  intro j aw;rw [rB aw];simp only [e];simp [qo]
theorem Wu {eH:List Int} (ai:eH.length≤1000) {K:Option (Option (qd×Unit)×Int)}:∀ (m i:Nat),i≤eH.length→eH.length-i<m→(∀ j,j<i→ix eH (j:Int)=(j:Int)) →
  I3 eH (fun _=>K) m (i:Int)=if ∀ j:Nat,j<eH.length→ix eH (j:Int)=(j:Int) then K else some (none,16)
 | 0,_,_,h,_=>absurd h (by omega)
 | m+1,i,hi,hm,aw=>by
   rw [I3];by_cases aR:i<eH.length
   ·rw [if_pos (decide_eq_true (by omega)),qD (by omega),Iw i (by omega)];by_cases al:ix eH (i:Int)=(i:Int)
    ·rw [if_neg (by simpa using al)];refine Wu ai m (i+1) (by omega) (by omega) fun j gf=>?_;by_cases e:j=i
     ·rw [e];exact al
     ·exact aw j (by omega)
    ·rw [if_pos (decide_eq_true al),if_neg (fun h=>al (h i aR))]
   ·rw [if_neg (by simpa using by omega),if_pos fun j ao=>aw j (by omega)]
theorem Qy {p:qd} (aB:p.1.length≤1000) {o:List Int} (ao:o.length≤12):rV p [o]=some (if rN p o=0 then (some (p,()),0) else (none,rN p o)):=by
 unfold rV rN;rw [QC aB,sc];by_cases h:ry p=0
 ·rw [if_neg (show ¬ decide (ry p≠0)=true by simpa using h)];rw [if_neg (show ¬ ry p≠0 by simpa using h)];obtain ⟨m,hm⟩:=RJ;rw [show HI p [o] (fun _=>some (some (p,()),0)) ql 0=HI p [o] (fun _=>some (some (p,()),0)) (m+2) 0 by rw [hm],HI.eq_2,if_pos (show decide ((0:Int)<(([o]:List (List Int)).length:Int))=true from rfl),qD ⟨sK _,show (0:Int)<(1:Int) by decide⟩,show ix [o] (0:Int)=o from rfl];rw [show QE o=some () from rfl,sc,show QD o=some (Jt o) from if_pos ao,sc];have ah:=YH o;have DJ:=ah.1.length_eq;rw [show (0:Int)=((0:Nat):Int) from rfl,Wu (by omega) ql 0 (by omega) (Il (by omega)) (fun j h=>absurd h (by omega))];by_cases ab:qs o.length o
  ·rw [if_pos (YI.2 ab)];by_cases aI:o.length=p.1.length
   ·rw [if_neg (show ¬ decide ((o.length:Int)≠(p.1.length:Int))=true by simp [aI]),if_pos (by rw [←aI,if_pos ab]),show w (((0:Nat):Int)+1)=1 from rfl,HI.eq_2];rfl
   ·have fp:¬ qs p.1.length o:=fun k=>aI k.1;rw [if_pos (show decide ((o.length:Int)≠(p.1.length:Int))=true from decide_eq_true (by omega)),if_neg fp];rfl
  ·have fp:¬ qs p.1.length o:=fun k=>ab (by rw [k.1];exact k);rw [if_neg (fun k=>ab (YI.1 k)),if_neg fp];rfl
 ·rw [if_pos (decide_eq_true h),if_pos h,if_neg h]
theorem Ty {p:qd} (aB:p.1.length≤1000):rV p []=some (if ry p=0 then (some (p,()),0) else (none,ry p)):=by
 unfold rV;rw [QC aB,sc];by_cases h:ry p=0
 ·rw [if_neg (show ¬ decide (ry p≠0)=true by simpa using h),if_pos h];obtain ⟨m,hm⟩:=RJ;rw [show HI p [] (fun _=>some (some (p,()),0)) ql 0=HI p [] (fun _=>some (some (p,()),0)) (m+2) 0 by rw [hm],HI.eq_2];rfl
 ·rw [if_pos (decide_eq_true h),if_neg h]
structure qW (p:qd):Prop where
 n:p.1.length=3∨p.1.length=5∨p.1.length=7
 s:∀ s∈p.1,qV s
 lo:0≤p.2.1
 le:p.2.1≤p.2.2
 hi:p.2.2≤50
theorem JL {p:qd}:ry p=0↔qW p:=by
 unfold ry;constructor
 ·intro h;split at h
  ·rename_i ab;split at h
   ·rename_i ae;exact ⟨ab,ae.1,ae.2.1,ae.2.2.1,ae.2.2.2⟩
   ·omega
  ·omega
 ·intro h;rw [if_pos h.n,if_pos ⟨h.s,h.lo,h.le,h.hi⟩]
theorem KU {p:qd} {o:List Int}:rN p o=0↔qW p∧qs p.1.length o:=by
 unfold rN;by_cases h:ry p=0
 ·rw [if_neg (by simpa using h)];by_cases ab:qs p.1.length o
  ·rw [if_pos ab];exact ⟨fun _=>⟨JL.1 h,ab⟩,fun _=>rfl⟩
  ·rw [if_neg ab];exact ⟨fun k=>by omega,fun k=>absurd k.2 ab⟩
 ·rw [if_pos h];exact ⟨fun k=>absurd k h,fun k=>JL.2 k.1⟩
theorem r0 {S:List qE} {o:List Int} (h:qs S.length o):Kw S o:=fun i hi=>h.2.2 _ (Kn (by omega))
end Go.Proofs.Ytkoioidpbbbaiaa.Ab


namespace Go.Proofs.Ytkoioidpbbbaiaa.Ab
open Go
set_option maxRecDepth 20000
set_option maxHeartbeats 4000000
noncomputable def Z8:gB :=
 p4 [p2 2 [.jm 0] .box,qg 4 0,qg 5 0] (p4 [p2 9 [.Bv 2] (.zH (.str 3)),p5 10 1,p2 11 [.Bv 10] (.yE 1 1 [.av [] 0 .full] [0]),p2 12 [.cv (.func 36 [] []),.m_ 9,.m_ 11] (.call 3),p3 8 12,qn 13 8 0,p2 14 [.Bv 8] (.ext 1),p3 6 13,p3 7 14] (.seq (p4 [p5 15 7,qw 16 15 0 .neq] (.cond (.m_ 16) (p4 [p3 17 7,qg 4 0,p3 5 17] .ret) .skip)) (p4 [p3 18 6,p3 19 1,p2 20 [.cv (.func 41 [] []),.m_ 18,.m_ 19] (.call 3),p3 4 20,qg 5 0] .ret)))
theorem aeA:qt Try.prog Ud 14=some (Z8,21,[.tmp 4,.tmp 5]):=by kernel_rfl
def H_ (p:(qk×(Int×Int))) (order:qa):Option (Int×Int) :=
 (rV p [order]).bind fun aS =>
 match aS with
 | (none,q1) =>
   if (decide (q1≠(0:Int)))=true then
    some ((0:Int),q1)
   else
    none
 | (some bT,q1) =>
   if (decide (q1≠(0:Int)))=true then
    some ((0:Int),q1)
   else
    (K5 (bT.1,()) order).bind fun bh =>
    some (bh,(0:Int))
theorem K4 {p:(qk×(Int×Int))} {order:qa} {v:(Int×Int)} (h:H_ p order=some v):qy 14 [(.agg [(.av (p.1.flatMap p') p.1.length .shared),(hX p.2.1),(hX p.2.2)]),(.av (order.map hX) order.length .shared)] (.tuple [(hX v.1),(hX v.2)]):=by
 refine qQ eD aeA rfl (Jq (p6 rfl (p6 rfl rfl))) fun Q bo=>?_;have jG:qL [.tmp 4,.tmp 5] Q (fun v=>(.tuple [(hX v.1),(hX v.2)])) v:=fun T H bD=>bo _ T H bD;unfold H_ at h;unfold Z8;conv=>whnf
 obtain ⟨aS,gJ,h⟩:=p9 h;rcases aS with ⟨_ | bT,q1⟩
 ·refine ⟨(p6 (Ih (p6 (HF (fun _=>(p6 rfl (p6 rfl rfl))) _ _ _) (p6 rfl (p6 rfl rfl)))) (p6 (PN (p6 (rT (fun _=>rfl) _ _ _) rfl)) rfl)),_,NB gJ,?_⟩;conv=>whnf
  refine bs h (fun gK h=>?_) fun gK h=>?_
  ·rw [gK];(conv=>whnf);exact p_ h jG rfl rfl
  ·rw [gK];(conv=>whnf);exact r3 h
 ·refine ⟨(p6 (Ih (p6 (HF (fun _=>(p6 rfl (p6 rfl rfl))) _ _ _) (p6 rfl (p6 rfl rfl)))) (p6 (PN (p6 (rT (fun _=>rfl) _ _ _) rfl)) rfl)),_,NB gJ,?_⟩;conv=>whnf
  refine bs h (fun qu h=>?_) fun qu h=>?_
  ·rw [qu];(conv=>whnf);exact p_ h jG rfl rfl
  ·rw [qu];(conv=>whnf);obtain ⟨bh,qH,h⟩:=p9 h;refine ⟨qb.pl,_,OZ qH,?_⟩;(conv=>whnf);exact p_ h jG rfl rfl

noncomputable def Z9:gB :=
 p4 [p2 3 [.jm 0] .box,qg 6 0,qg 7 0,qg 8 0] (p4 [p2 13 [.m_ 3] (.zH (.str 3)),p5 14 1,p2 15 [.Bv 14] (.yE 1 1 [.av [] 0 .full] [0]),p2 16 [.cv (.func 36 [] []),.m_ 13,.m_ 15] (.call 3),p3 12 16,qn 17 12 0,p2 18 [.Bv 12] (.ext 1),p3 9 17,p3 10 18] (.seq (.block 0 (p4 [p5 20 10,qw 21 20 0 .neq,p3 19 21] (.cond (.m_ 19) (p4 [p3 22 10,qg 6 0,qg 7 0,p3 8 22] .ret) (p4 [p2 24 [.m_ 3] (.yP 1),qG 25 24 0,qj 26 25,qG 27 3 1,qG 28 27 1,qj 29 28,p5 30 2,p2 31 [.Bv 30] (.yE 1 1 [.int .i64 0] [0]),p2 32 [.cv (.func 37 [] []),.m_ 26,.m_ 29,.m_ 31] (.call 3),p2 33 [.Bv 32] (.un .not),p3 23 33] (.cond (.m_ 23) (p4 [qg 6 0,qg 7 0,qg 8 3] .ret) .skip))))) (p4 [p3 34 9,p3 35 1,p3 36 2,p2 37 [.cv (.func 38 [] []),.m_ 34,.m_ 35,.m_ 36] (.call 3),p2 11 [] (.alloc [.int .i64 0,.int .i64 0]),⟨none,[.m_ 11,.jm 37],none,none,.st 2⟩] (.seq (q4 [p2 38 [.m_ 11,.cv (.int .i64 0)] (.zx 2 1),qj 39 38,p2 40 [.m_ 11,.cv (.int .i64 1)] (.zx 2 1),qj 41 40,p3 6 39,p3 7 41,qg 8 0]) .ret))))
theorem aeB:qt Try.prog Ub 12=some (Z9,42,[.tmp 6,.tmp 7,.tmp 8]):=by kernel_rfl
def Iy (p:(qk×(Int×Int))) (order:qa) (q3:Int):Option (Int×Int×Int) :=
 (rV p [order]).bind fun aS =>
 match aS with
 | (none,q1) =>
   if (decide (q1≠(0:Int)))=true then
    some ((0:Int),(0:Int),q1)
   else
    (Jd p.2.1 p.2.2 [q3]).bind fun bh =>
    if bh=true then
     none
    else
     some ((0:Int),(0:Int),(3:Int))
 | (some bT,q1) =>
   if (decide (q1≠(0:Int)))=true then
    some ((0:Int),(0:Int),q1)
   else
    (Jd p.2.1 p.2.2 [q3]).bind fun eH =>
    if eH=true then
     (Mx (bT.1,()) order q3).bind fun qB =>
     some (qB.1,qB.2,(0:Int))
    else
     some ((0:Int),(0:Int),(3:Int))
theorem Mq {p:(qk×(Int×Int))} {order:qa} {q3:Int} {v:(Int×Int×Int)} (h:Iy p order q3=some v):qy 12 [(.agg [(.av (p.1.flatMap p') p.1.length .shared),(hX p.2.1),(hX p.2.2)]),(.av (order.map hX) order.length .shared),(hX q3)] (.tuple [(hX v.1),(hX v.2.1),(hX v.2.2)]):=by
 refine qQ eD aeB rfl (Jq (p6 rfl (p6 rfl (p6 rfl rfl)))) fun Q bo=>?_;have jG:qL [.tmp 6,.tmp 7,.tmp 8] Q (fun v=>(.tuple [(hX v.1),(hX v.2.1),(hX v.2.2)])) v:=fun T H bD=>bo _ T H bD;unfold Iy at h;unfold Z9;conv=>whnf
 obtain ⟨aS,gJ,h⟩:=p9 h;rcases aS with ⟨_ | bT,q1⟩
 ·refine ⟨(p6 (Ih (p6 (HF (fun _=>(p6 rfl (p6 rfl rfl))) _ _ _) (p6 rfl (p6 rfl rfl)))) (p6 (PN (p6 (rT (fun _=>rfl) _ _ _) rfl)) rfl)),_,NB gJ,?_⟩;conv=>whnf
  refine bs h (fun gK h=>?_) fun gK h=>?_
  ·rw [gK];(conv=>whnf);exact p_ h jG rfl rfl
  ·rw [gK];(conv=>whnf);obtain ⟨bh,qu,h⟩:=p9 h;refine ⟨(p6 rfl (p6 rfl (p6 rfl rfl))),_,LN qu,?_⟩;(conv=>whnf);cases bh
   ·(conv=>whnf);replace h:=rK rfl h;exact p_ h jG rfl rfl
   ·(conv=>whnf);replace h:=rJ rfl h;exact r3 h
 ·refine ⟨(p6 (Ih (p6 (HF (fun _=>(p6 rfl (p6 rfl rfl))) _ _ _) (p6 rfl (p6 rfl rfl)))) (p6 (PN (p6 (rT (fun _=>rfl) _ _ _) rfl)) rfl)),_,NB gJ,?_⟩;conv=>whnf
  refine bs h (fun qH h=>?_) fun qH h=>?_
  ·rw [qH];(conv=>whnf);exact p_ h jG rfl rfl
  ·rw [qH];(conv=>whnf);obtain ⟨eH,qU,h⟩:=p9 h;refine ⟨(p6 rfl (p6 rfl (p6 rfl rfl))),_,LN qU,?_⟩;(conv=>whnf);cases eH
   ·(conv=>whnf);replace h:=rK rfl h;exact p_ h jG rfl rfl
   ·(conv=>whnf);replace h:=rJ rfl h;obtain ⟨qB,ru,h⟩:=p9 h;refine ⟨qb.pl,_,TF ru,?_⟩;(conv=>whnf);refine ⟨by decide,?_⟩;(conv=>whnf);refine ⟨by decide,?_⟩;(conv=>whnf);exact p_ h jG rfl rfl

noncomputable def QU:gB :=
 .loop (some (qc false [1,2,2,2,29])) (.seq (p4 [p5 12 6,p2 13 [.m_ 2] (.yP 1),qG 14 13 1,qj 15 14,qv 16 12 15 .leq] (.cond (.m_ 16) .skip (.exit 0))) (.seq (.block 1 (.seq (q4 [p2 19 [.m_ 2] (.zH (.str 3)),p5 20 1,p5 21 6,p2 22 [.cv (.func 40 [] []),.m_ 19,.m_ 20,.m_ 21,.cv (.int .i64 0)] (.call 3),p2 23 [.m_ 2] (.zH (.str 3)),p5 24 1,p5 25 6,p2 26 [.cv (.func 40 [] []),.m_ 23,.m_ 24,.m_ 25,.cv (.int .i64 1)] (.call 3),p3 7 22,p3 8 26]) (qR [p3 27 5,p5 28 7,p3 29 7,p2 30 [.Bv 29] (.un .neg),p5 31 8,p3 32 8,p2 33 [.Bv 32] (.un .neg),p2 34 [.jm 27,.jm 28,.jm 30,.jm 31,.jm 33] .max,p3 5 34]))) (qR [p3 17 6,qY 18 17 1,p3 6 18])))
noncomputable def aae:gB :=
 p4 [p2 2 [.jm 0] .box,qg 4 0] (p4 [qg 5 0] (.seq (p4 [p2 9 [.m_ 2] (.yP 1),qG 10 9 0,qj 11 10,p3 6 11] (.block 0 QU)) (p4 [p3 35 5,p3 4 35] .ret)))
theorem aeI:qt Try.prog Ri 42=some (aae,36,[.tmp 4]):=by kernel_rfl
def Ms (p:(qk×(Int×Int))) (order:qa) (qf:Int→Option Int):Nat→Int→Int→Option Int
 | 0,_,_=>none
 | m+1,s1,s2 =>
   if (decide (s2≤p.2.2))=true then
    (Kd p order s2 (0:Int)).bind fun aS =>
    (Kd p order s2 (1:Int)).bind fun bh =>
    Ms p order qf m (max (max (max (max s1 aS) (w (-aS))) bh) (w (-bh))) (w (s2+(1:Int)))
   else
    qf s1
def Mr (p:(qk×(Int×Int))) (order:qa):Option Int :=
 Ms p order (fun yq =>
   some yq) ql (0:Int) p.2.1
theorem aic {p:(qk×(Int×Int))} {order:qa} {qf:Int→Option Int} {s1:Int} {s2:Int} {v:Int} {Q:Hm}   (rm:∀ (yq:Int) (bw:ar) (qe:List I),qf yq=some v→rr 36 [(5,(hX yq))] qe→Q (.exit 0) qe [bw]) {T:List I} (bZ:eW (qc false [1,2,2,2,29]) T=qh 36 [(1,(qF order .shared)),(2,(.ptr 0 0)),(5,(hX s1)),(6,(hX s2))]) (h:Ms p order qf ql s1 s2=some v) :
  dN Try.prog Ri 42 0 none QU T [ar.cells [(q6 p.1 .shared),(hX p.2.1),(hX p.2.2)]] Q:=by
 unfold QU;refine wp_loop bZ ?_;refine .intro (fun m T H=>∃ (s1 s2:Int),T=qh 36 [(1,(qF order .shared)),(2,(.ptr 0 0)),(5,(hX s1)),(6,(hX s2))]∧H=[ar.cells [(q6 p.1 .shared),(hX p.2.1),(hX p.2.2)]]∧Ms p order qf m s1 s2=some v) ql ⟨s1,s2,rfl,rfl,h⟩ ?_;clear h bZ;rintro m T H ⟨s1,s2,rfl,rfl,h⟩;cases m
 ·exact r3 h
 rename_i m;rw [Ms.eq_2] at h;conv=>whnf
 refine bs h (fun gJ h=>?_) fun gJ h=>?_
 ·rw [gJ];conv=>whnf
  obtain ⟨aS,gK,h⟩:=p9 h;refine ⟨qb.pl,_,QA gK,rD,?_⟩;conv=>whnf
  obtain ⟨bh,qu,h⟩:=p9 h;refine ⟨qb.pl,_,QA qu,(Q' (fun _ e=>by simp at e) rD),?_⟩;conv=>whnf
  exact ⟨m,sC m,(max (max (max (max s1 aS) (w (-aS))) bh) (w (-bh))),(w (s2+(1:Int))),rfl,rfl,h⟩
 ·rw [gJ];conv=>whnf
  exact rm _ _ _ h ⟨rfl,rfl⟩
theorem Zw {p:(qk×(Int×Int))} {order:qa} {v:Int} (h:Mr p order=some v):qy 42 [(.agg [(.av (p.1.flatMap p') p.1.length .shared),(hX p.2.1),(hX p.2.2)]),(.av (order.map hX) order.length .shared)] (hX v):=by
 refine qQ eD aeI rfl rfl fun Q bo=>?_;have jG:qL [.tmp 4] Q (fun v=>(hX v)) v:=fun T H bD=>bo _ T H bD;unfold Mr at h;unfold aae;obtain ⟨HN,qI⟩:∃ c,QU=c:=⟨_,rfl⟩;rw [qI];conv=>whnf
 subst qI;refine aic ?_ (by exact rfl) h;intro yq bw qe h qA;obtain ⟨rn,rfl⟩:=qA.ex;conv=>whnf
 exact p_ h jG rfl rfl

end Go.Proofs.Ytkoioidpbbbaiaa.Ab


namespace Go.Proofs.Ytkoioidpbbbaiaa.Ab
open Go
set_option maxRecDepth 20000
set_option maxHeartbeats 1000000
abbrev q9 (p:qd) (o:List Int) (a:Nat) (d:Int):Int:=ri p.1 o a (q_ d)
def I7 (p:qd) (o:List Int) (d:Int):Int:=max (max (q9 p o 0 d) (-(q9 p o 0 d))) (max (q9 p o 1 d) (-(q9 p o 1 d)))
def qX (p:qd) (o:List Int):Int:=max (I7 p o p.2.1) (I7 p o p.2.2)
theorem ab_ (p:qd) (o:List Int) (d:Int):0≤I7 p o d:=by unfold I7;omega
theorem Ve (p:qd) (o:List Int):0≤qX p o:=by have:=ab_ p o p.2.1;unfold qX;omega
theorem qW.len {p:qd} (h:qW p):3≤p.1.length∧p.1.length≤7:=by have:=h.n;omega
theorem qs.len {p:qd} {o:List Int} (h:qW p) (k:qs p.1.length o):o.length≤10:=by have:=h.len;have:=k.1;omega
theorem Lk {p:qd} {o:List Int} {a:Nat} {d:Int} (h:qW p) (k:qs p.1.length o) (a1:0≤d∧d≤50):-60000≤q9 p o a d∧q9 p o a d≤60000 :=
 ae7 (B:=600) (qs.len h k) (by omega) fun i hi=>MH (I1 h.s (r0 k) hi) a1
theorem U1 (p:qd) (o:List Int) (a:Nat) {lo d hi:Int} (ab:lo≤d) (ae:d≤hi):(q9 p o a lo≤q9 p o a d∧q9 p o a d≤q9 p o a hi)∨(q9 p o a hi≤q9 p o a d∧q9 p o a d≤q9 p o a lo):=by
 simp only [q9,ae8];generalize ri p.1 o a Prod.snd=B;rcases Int.le_total 0 B with h | h
 ·have:=Int.mul_le_mul_of_nonneg_left ab h;have:=Int.mul_le_mul_of_nonneg_left ae h;omega
 ·have:=Int.mul_le_mul_of_nonpos_left h ab;have:=Int.mul_le_mul_of_nonpos_left h ae;omega
theorem ab9 {p:qd} {o:List Int} {lo d hi:Int} (ab:lo≤d) (ae:d≤hi):I7 p o d≤max (I7 p o lo) (I7 p o hi):=by
 have a:=U1 p o 0 ab ae;have b:=U1 p o 1 ab ae;unfold I7;omega
theorem ae3 (a b c d:Int):max (max (max (max (max (max (max (max 0 a) (-a)) b) (-b)) c) (-c)) d) (-d)=max (max (max a (-a)) (max b (-b))) (max (max c (-c)) (max d (-d))):=by
 rw [show max (max 0 a) (-a)=max a (-a) by omega];simp only [Int.max_assoc]
section
variable {p:qd} {o:List Int}
theorem OY (h:qW p) (k:qs p.1.length o):K5 (p,()) o=some (qX p o):=by
 have hle:=h.le;have bC:=h.lo;have GU:=h.hi;unfold K5;have fI:=qs.len h k;rw [TE (b:=(p,())) h.s (r0 k) fI k.1.symm (show 0≤p.2.1∧p.2.1≤50 by omega),sc,TE (b:=(p,())) h.s (r0 k) fI k.1.symm (show 0≤p.2.2∧p.2.2≤50 by omega),sc];have aA:=Lk (a:=0) h k (show 0≤p.2.1∧p.2.1≤50 by omega);have aG:=Lk (a:=1) h k (show 0≤p.2.1∧p.2.1≤50 by omega);have aT:=Lk (a:=0) h k (show 0≤p.2.2∧p.2.2≤50 by omega);have bq:=Lk (a:=1) h k (show 0≤p.2.2∧p.2.2≤50 by omega);simp only;rw [qK (n := -(q9 p o 0 p.2.1)) (by omega),qK (n := -(q9 p o 1 p.2.1)) (by omega),qK (n := -(q9 p o 0 p.2.2)) (by omega),qK (n := -(q9 p o 1 p.2.2)) (by omega)];exact congrArg some (ae3 _ _ _ _)
theorem QB (h:qW p) (k:qs p.1.length o) {d:Int} (a1:0≤d∧d≤50) {a:Nat}:Kd p o d (a:Int)=some (q9 p o a d):=aiu h.s (r0 k) (qs.len h k) a1
theorem acm {n:Nat} (h:n≤1000000):n<ql:=Il h
theorem Wq (h:qW p) (k:qs p.1.length o):∀ (m i:Nat) (s:Int),p.2.1+i≤p.2.2+1→(p.2.2+1-(p.2.1+i)).toNat<m→0≤s→s≤qX p o→(0<i→I7 p o p.2.1≤s)→(p.2.1+i=p.2.2+1→I7 p o p.2.2≤s) →
  Ms p o (fun z=>some z) m s (p.2.1+i)=some (qX p o)
 | 0,_,_,_,h,_,_,_,_=>absurd h (by omega)
 | m+1,i,s,hi,hm,aQ,ab,ae,aF=>by
   have hle:=h.le;have bC:=h.lo;have GU:=h.hi;rw [Ms];by_cases aR:p.2.1+i≤p.2.2
   ·rw [if_pos (decide_eq_true aR)];rw [show (0:Int)=((0:Nat):Int) from rfl,QB h k (d:=p.2.1+i) (by omega),sc];rw [show (1:Int)=((1:Nat):Int) from rfl,QB h k (d:=p.2.1+i) (by omega),sc];have aA:=Lk (a:=0) h k (show 0≤p.2.1+i∧p.2.1+i≤50 by omega);have aG:=Lk (a:=1) h k (show 0≤p.2.1+i∧p.2.1+i≤50 by omega);rw [qK (n := -(q9 p o 0 (p.2.1+i))) (by omega),qK (n := -(q9 p o 1 (p.2.1+i))) (by omega),qK (by omega)];(have e:max (max (max (max s (q9 p o 0 (p.2.1+i))) (-(q9 p o 0 (p.2.1+i)))) (q9 p o 1 (p.2.1+i))) (-(q9 p o 1 (p.2.1+i)))=max s (I7 p o (p.2.1+i)):=by unfold I7;simp only [Int.max_assoc]);have b:=ab9 (p:=p) (o:=o) (lo:=p.2.1) (d:=p.2.1+i) (hi:=p.2.2) (by omega) aR;rw [e,show p.2.1+(i:Int)+((1:Nat):Int)=p.2.1+((i+1:Nat):Int) by omega];refine Wq h k m (i+1) _ (by omega) (by omega) (by omega) (by unfold qX at *;omega) (fun _=>?_) (fun he=>?_)
    ·by_cases f_:i=0
     ·subst f_;simp only [Int.natCast_zero,Int.add_zero];omega
     ·have:=ae (by omega);omega
    ·rw [show p.2.1+(i:Int)=p.2.2 by omega];omega
   ·rw [if_neg (by simpa using by omega)];have:=ae (by omega);have:=aF (by omega);congr 1;unfold qX at *;omega
theorem Zv (h:qW p) (k:qs p.1.length o):Mr p o=some (qX p o):=by
 have hle:=h.le;have bC:=h.lo;have GU:=h.hi;unfold Mr;have:=Wq h k ql 0 0 (by omega) (acm (by omega)) (by omega) (Ve p o) (fun h=>absurd h (by omega)) (fun h=>by omega);simpa using this
theorem LH (aB:p.1.length≤1000) (ao:o.length≤12):H_ p o=some (if rN p o=0 then (qX p o,0) else (0,rN p o)):=by
 unfold H_;rw [Qy aB ao,sc];by_cases h:rN p o=0
 ·rw [if_pos h,if_pos h];obtain ⟨ab,ae⟩:=KU.1 h;simp only;rw [if_neg (by decide),OY ab ae];rfl
 ·rw [if_neg h,if_neg h];simp only;rw [if_pos (decide_eq_true h)]
theorem Mp (aB:p.1.length≤1000) (ao:o.length≤12) (d:Int):Iy p o d=some (if rN p o=0 then (if p.2.1≤d∧d≤p.2.2 then (q9 p o 0 d,q9 p o 1 d,0) else (0,0,3)) else (0,0,rN p o)):=by
 unfold Iy;rw [Qy aB ao,sc];by_cases h:rN p o=0
 ·rw [if_pos h,if_pos h];obtain ⟨ab,ae⟩:=KU.1 h;have hle:=ab.le;have bC:=ab.lo;have GU:=ab.hi;simp only;rw [if_neg (by decide),NC,sc];by_cases a1:p.2.1≤d∧d≤p.2.2
  ·rw [if_pos (by simp [a1.1,a1.2]),if_pos a1,TE (b:=(p,())) ab.s (r0 ae) (qs.len ab ae) ae.1.symm (by omega)];rfl
  ·rw [if_neg (by simpa using a1),if_neg a1]
 ·rw [if_neg h,if_neg h];simp only;rw [if_pos (decide_eq_true h)]
end
end Go.Proofs.Ytkoioidpbbbaiaa.Ab


namespace Go.Proofs.Ytkoioidpbbbaiaa.Ab
open Go
noncomputable def PV:gB :=
 .seq (q4 [p2 37 [.m_ 10] (.zH (.str 2)), p2 38 [] (.build [.int .i64 0, .int .i64 0] []), p2 39 [.Bv 37, .Bv 38] (.other (Oper.mk (some 39) (Op.binOp .eql 102 (Operand.tmp 37) (Operand.tmp 38) 102) 4 "press.go:129" (Array.mk [Edge.mk 0 Ground.data, Edge.mk 1 Ground.data]) none) 0), p3 40 39, ch 41 [.jm 11] 40 false .mR, ch 42 [.jm 41] 40 false .mR, ch 43 [.m_ 10] 42 true (.yP 0), ch 44 [.Bv 43] 42 true (.zH .one), ch 45 [.m_ 10] 42 true (.yP 1), ch 46 [.Bv 45] 42 true (.zH .one), ch 47 [.jm 0] 42 true .mR, ch 48 [.Bv 47] 42 true .z7, ch 49 [.Bv 48] 42 true (.yP 0), ch 50 [.Bv 49] 42 true (.yP 1), ch 51 [.Bv 50] 42 true (.yP 0), ch 52 [.Bv 51] 42 true (.zH .one), ch 53 [.Bv 46, .Bv 52] 42 true (.bin .mul), ch 54 [.Bv 44, .Bv 53] 42 true (.bin .add), ch 55 [.Bv 54, .cv (.int .i64 0)] 42 true (.bin .eql), ch 56 [.m_ 42, .Bv 55, .cv (.bool false)] 40 false .pick, p2 57 [.m_ 40, .cv (.bool true), .Bv 56] .pick, p2 8 [.cv (.av [] 0 .full)] (.nil 3), p3 9 57]) .ret
noncomputable def SU:gB :=
 .ou false [p5 80 0,p2 81 [.Bv 80] .z7,qG 82 81 3,qj 83 82,p5 84 0,p5 85 3,p2 86 [.Bv 85,.cv (.int .i64 0)] (.kV 1),qj 87 86,p2 88 [.cv (.func 68 [] []),.jm 84,.jm 87] (.call 9),p5 89 12,⟨none,[.Bv 83,.Bv 88,.Bv 89],none,none,.zU (.int .i64)⟩]
noncomputable def PW:gB :=
 p4 [p5 73 0,p5 74 0,p5 75 3,p2 76 [.Bv 75,.cv (.int .i64 0)] (.kV 1),qj 77 76,p2 78 [.cv (.func 68 [] []),.jm 74,.jm 77] (.call 9),p2 79 [.cv (.func 71 [] []),.m_ 73,.m_ 78] (.call 2),p3 12 79] SU
noncomputable def SV:gB :=
 .ou true [p2 98 [.m_ 10] (.yP 0),qj 99 98,p2 100 [.Bv 99] (.un .neg),p2 101 [.m_ 10] (.yP 1),qj 102 101,p3 103 0,p2 104 [.Bv 103] .z7,qG 105 104 0,qG 106 105 1,qG 107 106 0,qj 108 107,qv 109 102 108 .mul,qv 110 100 109 .sub,p2 111 [.Bv 110,.cv (.int .i64 0)] (.build [.int .i64 0,.int .i64 0] [(0,1),(1,1)]),⟨none,[.m_ 14,.jm 111],none,none,.st 2⟩]
noncomputable def X4:gB :=
 .seq (q4 [p3 120 1,p3 121 3,p2 122 [.Bv 121,.cv (.int .i64 0)] (.kV 1),qj 123 122,rk 124 120 123 1,qj 125 124,p2 126 [.Bv 15] (.zH (.str 2)),p2 127 [.Bv 125,.Bv 126] (.build [.int .i64 0,.int .i64 0,.int .i64 0] [(0,1),(1,2)]),p2 128 [.Bv 127] (.yE 1 3 [.int .i64 0,.int .i64 0,.int .i64 0] [0]),p3 8 128,p2 9 [.cv (.bool true)] .mR]) .ret
noncomputable def PX:gB :=
 .seq (p4 [p3 118 13,p2 119 [.Bv 118] (.un .not)] (.cond (.m_ 119) (p4 [p2 8 [.cv (.av [] 0 .full)] (.nil 3),p2 9 [.cv (.bool false)] .mR] .ret) .skip)) X4
noncomputable def PY:gB :=
 p4 [p3 113 12,p2 114 [.Bv 14] (.zH (.str 2)),p2 115 [.Bv 113,.Bv 114] (.zT (.str 2) true (some (.agg [.int .i64 0,.int .i64 0]))),p3 112 115,qn 116 112 0,p2 117 [.Bv 112] (.ext 1),p2 15 [] (.alloc [.int .i64 0,.int .i64 0]),⟨none,[.m_ 15,.jm 116],none,none,.st 2⟩,p3 13 117] PX
noncomputable def Ov:gB :=
 p4 [p2 90 [.m_ 10] (.yP 0),qj 91 90,p2 92 [.Bv 91] (.un .neg),p2 93 [.m_ 10] (.yP 1),qj 94 93,p2 95 [.Bv 94] (.un .neg),p2 96 [.Bv 92,.Bv 95] (.build [.int .i64 0,.int .i64 0] [(0,1),(1,1)]),p2 14 [] (.alloc [.int .i64 0,.int .i64 0]),⟨none,[.m_ 14,.jm 96],none,none,.st 2⟩] (.seq (p4 [p3 97 11] (.cond (.m_ 97) SV .skip)) PY)
noncomputable def Ni:gB :=
 p4 [p5 59 0,p2 60 [.Bv 59] .z7,qG 61 60 3,qj 62 61,p5 63 0,p5 64 3,p2 65 [.Bv 64,.cv (.int .i64 0)] (.kV 1),qj 66 65,p2 67 [.cv (.func 68 [] []),.jm 63,.jm 66] (.call 9),p2 68 [.Bv 62,.Bv 67] (.zT (.int .i64) true (some .a0)),p3 58 68,qn 69 58 0,qn 70 58 1,p3 12 69,p3 13 70] (.seq (p4 [p3 71 13,p2 72 [.Bv 71] (.un .not)] (.cond (.m_ 72) PW .skip)) Ov)
noncomputable def Ou:gB :=
 .seq (q4 [p5 21 0,p2 22 [.Bv 21] .z7,qG 23 22 0,qG 24 23 1,qG 25 24 0,qj 26 25,p5 27 0,p2 28 [.Bv 27] .z7,qG 29 28 0,qG 30 29 1,qG 31 30 1,qj 32 31,qv 33 26 32 .eql,p3 11 33]) (.seq (p4 [p5 34 3,qZ 35 34,qw 36 35 0 .eql] (.cond (.m_ 36) PV .skip)) Ni)
noncomputable def SS:gB :=
 p4 [p5 16 0,p5 17 1,p3 18 2,p5 19 3,p2 20 [.cv (.func 62 [] []),.jm 16,.jm 17,.jm 18,.jm 19] (.call 9),p2 10 [] (.alloc [.int .i64 0,.int .i64 0]),⟨none,[.m_ 10,.jm 20],none,none,.st 2⟩] Ou
noncomputable def PU:gB :=
 p4 [p2 8 [.cv (.av [] 0 .full)] (.nil 3),p2 9 [.cv (.bool false)] .mR] SS
theorem Sd:qt Go.Proofs.Try.prog MG 53=some (PU,129,[.tmp 8,.tmp 9]):=by kernel_rfl
end Go.Proofs.Ytkoioidpbbbaiaa.Ab


namespace Go.Proofs.Ytkoioidpbbbaiaa.Ab
open Go
set_option maxRecDepth 20000
set_option maxHeartbeats 4000000
abbrev Hi:=((List (Int×Int))×(Int×Int))×Unit
abbrev r1 (b:Hi) (m:Nat):I:=.bR [.av (b.1.1.flatMap p') b.1.1.length .shared,hX b.1.2.1,hX b.1.2.2,.map m]
def Ia (b:Hi) (m:Nat) (H:List ar):Prop:=∃ (es:List (Nat×I×I)) (Jf:Nat),H[m]?=some (.map es Jf) ∧
 ∀ e∈es,∃ (x:Int) (id c:Nat) (A:rf),e.2.1=hX x∧e.2.2=.map id∧id≠m∧H[id]?=some (.map (rj A) c)∧NG b x=some A
theorem Ia.more {b:Hi} {m:Nat} {H:List ar} (h:Ia b m H) (Z:List ar):Ia b m (H++Z):=by
 obtain ⟨es,Jf,ab,ae⟩:=h;refine ⟨es,Jf,by rw [sj (sd.1 ab).1];exact ab,fun e he=>?_⟩;obtain ⟨x,id,c,A,aA,aG,aT,bq,bf⟩:=ae e he;exact ⟨x,id,c,A,aA,aG,aT,by rw [sj (sd.1 bq).1];exact bq,bf⟩
theorem Vp {x:Int}:∀ {es:List (Nat×I×I)} {n:Nat},(∀ e∈es,∃ y:Int,e.2.1=hX y)→(∃ i e,fE (hX x) es n=some (some (n+i))∧es[i]?=some e∧e.2.1=hX x)∨fE (hX x) es n=some none
 | [],n,_=>.inr rfl
 | (i,k,v)::es,n,h=>by
   obtain ⟨y,aY⟩:=h (i,k,v) (by simp);simp only at aY;subst aY;have he:gH (hX x) (hX y)=some (decide (x=y)):=by
    simp only [gH,if_true,Option.some.injEq];rw [ve];simp
   by_cases e:x=y
   ·subst e;refine .inl ⟨0,_,?_,rfl,rfl⟩;simp only [fE,he,decide_true];rfl
   ·rcases Vp (x:=x) (es:=es) (n:=n+1) (fun e he=>h e (by simp [he])) with ⟨j,b9,ab,ae,aF⟩ | ab
    ·refine .inl ⟨j+1,b9,?_,by simpa using ae,aF⟩;simp only [fE,he];rw [decide_eq_false e];show fE (hX x) es (n+1)=_;rw [ab];congr 2;omega
    ·refine .inr ?_;simp only [fE,he];rw [decide_eq_false e];exact ab
def Iz (m:Nat) (H H':List ar):Prop:=H.length≤H'.length∧∀ j,j≠m→j<H.length→H'[j]?=H[j]?
def II (b:Hi) (order:List Int) (qC:Int) (L_:List Int):Option (List qq×Bool) :=
 (MB b order qC L_).bind fun left =>
 match L_ with
 | []=>some ([],decide (left=(0,0)) || (decide (b.1.2.1=b.1.2.2) && decide (w (left.1+w (left.2*b.1.2.1))=0)))
 | cu::_ =>
   (K6 b cu).bind fun x=>(NG b x).bind fun A =>
   match J3 A (if b.1.2.1=b.1.2.2 then (w (w (-left.1)-w (left.2*b.1.2.1)),0) else (w (-left.1),w (-left.2))) with
   | none=>some ([],false)
   | some s=>qx (0≤cu∧cu<(order.length:Int)) <| some ([(ix order cu,s)],true)
theorem ZJ {b:Hi} {order:List Int} {qC:Int} {v:List qq×Bool} (h:II b order qC []=some v) {m lo:Nat} {H:List ar} (bC:lo≤H.length) :
  v.1=[]∧∃ o,Sem Try.prog (.fn 53) [r1 b m,.av (order.map hX) order.length .shared,hX qC,.av [] 0 .full] H lo (.tuple [.av [] 0 .shared,B v.2]) (H++[o]):=by
 unfold II at h;obtain ⟨left,ao,h⟩:=p9 h;obtain rfl:=Option.some.inj h;refine ⟨rfl,.cells [hX left.1,hX left.2],?_⟩;refine rG eD Sd rfl (a'.append _ _ _) fun Q bo=>?_;unfold PU SS;obtain ⟨abv,Lg⟩:∃ c,Ou=c:=⟨_,rfl⟩;rw [Lg];conv=>whnf
 refine ⟨_,_,call9 (bs:=[lj b,.av (order.map hX) order.length .shared,hX qC,.av (([]:List Int).map hX) ([]:List Int).length .shared]) rfl (p6 (It b) (p6 (rT (fun _=>rfl) _ _ _) (p6 rfl (p6 rfl rfl)))) (QH ao),?_⟩;conv=>whnf
 rw [tq bC];refine Ez (x:=ar.cells [hX 0,hX 0]) (by first | exact q5.h | rfl | (simp [ss,I.settle];done)) ?_
 conv=>whnf
 rw [H9];subst Lg;unfold Ou;obtain ⟨Ca,L2⟩:∃ c,Ni=c:=⟨_,rfl⟩;obtain ⟨a7,cc⟩:∃ c,PV=c:=⟨_,rfl⟩;rw [L2,cc];conv=>whnf
 subst cc;unfold PV;conv=>whnf
 refine Ez (x:=ar.cells [hX left.1,hX left.2]) (by first | exact q5.h | rfl | (simp [ss,I.settle];done)) ?_
 conv=>whnf
 refine ⟨.bool (decide (left=(0,0))),_,fun C=>Sp rfl rfl (T4 (fs:=VE Try.prog 102) (by kernel_rfl) (by kernel_rfl) (by kernel_rfl) (by kernel_rfl) (by kernel_rfl) _ _ _ _ (.inl rfl)),?_⟩;conv=>whnf
 by_cases bj:left=(0,0)
 ·rw [decide_eq_true bj];conv=>whnf
  rw [decide_eq_true bj] at bo;exact bo _ _ _ ⟨.inr rfl,lF.refl _,rfl⟩
 ·rw [decide_eq_false bj];rw [decide_eq_false bj] at bo;conv=>whnf
  by_cases aq:b.1.2.1=b.1.2.2
  ·rw [decide_eq_true aq];rw [decide_eq_true aq] at bo;(conv=>whnf);refine Ez (x:=ar.cells [hX left.1,hX left.2]) (by first | exact q5.h | rfl | (simp [ss,I.settle];done)) ?_
   (conv=>whnf);refine Ez (x:=ar.cells [hX left.1,hX left.2]) (by first | exact q5.h | rfl | (simp [ss,I.settle];done)) ?_
   (conv=>whnf);exact bo _ _ _ ⟨.inr rfl,lF.refl _,rfl⟩
  ·rw [decide_eq_false aq];rw [decide_eq_false aq] at bo;(conv=>whnf);exact bo _ _ _ ⟨.inr rfl,lF.refl _,rfl⟩
theorem YR {b:Hi} {order:List Int} {cu:Int} {left:q8} {A:rf} {v:List qq×Bool} (h:(match J3 A (if b.1.2.1=b.1.2.2 then (w (w (-left.1)-w (left.2*b.1.2.1)),0) else (w (-left.1),w (-left.2))) with
  | none=>some ([],false)
  | some s=>qx (0≤cu∧cu<(order.length:Int)) <| some ([(ix order cu,s)],true))=some v) {m lo p10 id c:Nat} {H:List ar} {Y2 Y7 Y8 Y9 Qf Y_ Qh YW:I} (bC:lo≤H.length) (dk:H[p10]?=some (.cells [hX left.1,hX left.2])) (aE:H[id]?=some (.map (rj A) c)) {Q:cN→List I→List ar→Prop}
  (bo:∀ T bw bJ,(rX (H++[bw,bJ]) T [.tmp 8,.tmp 9]).map jd=some (.tuple [.av (v.1.flatMap qm) v.1.length .shared,B v.2])→Q .ret T (H++[bw,bJ])) :
  dN Try.prog MG 53 lo none Ov (qh 129 [(0,r1 b m),(1,.av (order.map hX) order.length .shared),(3,.av [hX cu] 1 (.own 1)),(8,Y_),(9,Qh),(10,.ptr p10 0),(11,.bool (decide (b.1.2.1=b.1.2.2))),(12,.map id),(13,YW),(36,Y2),(58,Y7),(72,Y8),(73,Y9),(78,Qf)]) H Q:=by
 have Lg:∀ Z,(H++Z)[p10]?=some (.cells [hX left.1,hX left.2]):=fun Z=>by rw [sj (sd.1 dk).1];exact dk
 have gid:∀ Z,(H++Z)[id]?=some (.map (rj A) c):=fun Z=>by rw [sj (sd.1 aE).1];exact aE
 obtain ⟨Kb,N5⟩:∃ Kb,Kb=(if b.1.2.1=b.1.2.2 then (w (w (-left.1)-w (left.2*b.1.2.1)),0) else (w (-left.1),w (-left.2))):=⟨_,rfl⟩;rw [←N5] at h;have fin:∀ v0 Y',dN Try.prog MG 53 lo none PY (qh 129 [(0,v0),(1,.av (order.map hX) order.length .shared),(3,.av [hX cu] 1 (.own 1)),(8,Y_),(9,Qh),(10,.ptr p10 0),(12,.map id),(13,YW),(14,.ptr H.length 0),(36,Y2),(58,Y7),(72,Y8),(73,Y9),(78,Qf),(97,Y')]) (H++[ar.cells [hX Kb.1,hX Kb.2]]) Q:=by
  intro v0 Y';unfold PY;obtain ⟨fY,HB⟩:∃ c,PX=c:=⟨_,rfl⟩;rw [HB];conv=>whnf
  refine Ez (x:=ar.cells [hX Kb.1,hX Kb.2]) (by first | exact q5.h | rfl | (simp [ss,I.settle];done)) ?_
  conv=>whnf
  rcases aeg Kb A with ⟨s,i,e,aJ,aN,b',hn⟩ | ⟨aJ,aN⟩
  ·rw [aJ] at h;obtain ⟨jQ,h⟩:=rZ h;obtain rfl:=Option.some.inj h;refine ⟨rfl,_,_,gid _,some i,aN,e,b',?_⟩;rw [hn];(conv=>whnf);rw [tq (show lo≤(H++[ar.cells [hX Kb.1,hX Kb.2]]).length by simp;omega)];refine Ez (x:=ar.cells [hX 0,hX 0]) (by first | exact q5.h | rfl | (simp [ss,I.settle];done)) ?_
   (conv=>whnf);rw [H9];subst HB;unfold PX X4;(conv=>whnf);refine ⟨⟨sK _,by decide⟩,?_⟩;(conv=>whnf);refine ⟨jQ,?_⟩;rw [rh hX order cu jQ];(conv=>whnf);refine Ez (x:=ar.cells [hX s.1,hX s.2]) (by first | exact q5.h | rfl | (simp [ss,I.settle];done)) ?_
   (conv=>whnf);rw [sx];exact bo _ _ _ rfl
  ·rw [aJ] at h;obtain rfl:=Option.some.inj h;refine ⟨rfl,_,_,gid _,none,aN,_,rfl,?_⟩;(conv=>whnf);rw [tq (show lo≤(H++[ar.cells [hX Kb.1,hX Kb.2]]).length by simp;omega)];refine Ez (x:=ar.cells [hX 0,hX 0]) (by first | exact q5.h | rfl | (simp [ss,I.settle];done)) ?_
   (conv=>whnf);rw [H9];subst HB;unfold PX;(conv=>whnf);rw [sx];exact bo _ _ _ rfl
 unfold Ov;obtain ⟨nr,MP⟩:∃ c,PY=c:=⟨_,rfl⟩;obtain ⟨b5,iM⟩:∃ c,SV=c:=⟨_,rfl⟩;rw [MP,iM];conv=>whnf
 refine Ez dk ?_;conv=>whnf
 refine Ez dk ?_;conv=>whnf
 rw [tq bC];refine Ez (x:=ar.cells [hX 0,hX 0]) (by first | exact q5.h | rfl | (simp [ss,I.settle];done)) ?_
 conv=>whnf
 rw [H9];by_cases aq:b.1.2.1=b.1.2.2
 ·rw [decide_eq_true aq];rw [if_pos aq] at N5;conv=>whnf
  subst iM;unfold SV;conv=>whnf
  refine Ez (Lg _) ?_;conv=>whnf
  refine Ez (Lg _) ?_;conv=>whnf
  rw [tq bC];refine Ez (x:=ar.cells [hX (w (-left.1)),hX (w (-left.2))]) (by first | exact q5.h | rfl | (simp [ss,I.settle];done)) ?_
  conv=>whnf
  rw [H9];subst MP;rw [N5] at fin;exact fin _ _
 ·rw [decide_eq_false aq];rw [if_neg aq] at N5;conv=>whnf
  subst MP;rw [N5] at fin;exact fin _ _
theorem Vo {H:List ar} {bw bJ:ar}:lF (H++[bw,bJ]) (H++[.dead,.dead]):=by
 refine ⟨by simp,fun id o aq=>?_⟩;by_cases h:id<H.length
 ·rw [sj h] at aq ⊢;exact .inr aq
 ·rw [List.getElem?_append_right (by omega)] at aq;refine .inl ?_
  match ae:id-H.length with
  | 0=>rw [ae] at aq;exact (Option.some.inj aq).symm
  | 1=>rw [ae] at aq;exact (Option.some.inj aq).symm
  | n+2=>rw [ae] at aq;cases aq
theorem ZK {b:Hi} {order:List Int} {qC cu:Int} {v:List qq×Bool} (h:II b order qC [cu]=some v) {m lo:Nat} {H:List ar} (bC:lo≤m) (bF:Ia b m H) :
  ∃ H',Ia b m H'∧Iz m H H'∧Sem Try.prog (.fn 53) [r1 b m,.av (order.map hX) order.length .shared,hX qC,.av [hX cu] 1 (.uniq 1)] H lo (.tuple [.av (v.1.flatMap qm) v.1.length .shared,B v.2]) H':=by
 unfold II at h;obtain ⟨left,ao,h⟩:=p9 h;obtain ⟨x,aj,h⟩:=p9 h;obtain ⟨A,aL,h⟩:=p9 h;have Pt:=bF;obtain ⟨es,Jf,hm,JY⟩:=Pt;have en:=(sd.1 hm).1;have R4:∀ Z,(H++Z)[m]?=some (.map es Jf):=fun Z=>by rw [sj en];exact hm
 have ajj:([r1 b m,.av (order.map hX) order.length .shared,hX qC,.av [hX cu] 1 .shared]:List I).map I.gr=[lj b,.av (order.map hX) order.length .shared,hX qC,.av [hX cu] 1 .shared]:=rfl;have start:∀ (Q:cN→List I→List ar→Prop),dN Try.prog MG 53 lo none Ni (qh 129 [(0,r1 b m),(1,.av (order.map hX) order.length .shared),(3,.av [hX cu] 1 (.own 1)),(8,.av [] 0 (.uniq 3)),(9,.bool false),(10,.ptr H.length 0),(11,.bool (decide (b.1.2.1=b.1.2.2))),(36,.bool false)]) (H++[ar.cells [hX left.1,hX left.2]]) Q →
   dN Try.prog MG 53 lo none PU (qh 129 [(0,r1 b m),(1,.av (order.map hX) order.length .shared),(2,hX qC),(3,.av [hX cu] 1 (.uniq 1))]) H Q:=by
  intro Q a_;unfold PU SS;obtain ⟨abv,Lg⟩:∃ c,Ou=c:=⟨_,rfl⟩;rw [Lg];conv=>whnf
  refine ⟨_,_,call9 (bs:=[lj b,.av (order.map hX) order.length .shared,hX qC,.av (([cu]:List Int).map hX) ([cu]:List Int).length .shared]) rfl (p6 (It b) (p6 (rT (fun _=>rfl) _ _ _) (p6 rfl (p6 rfl rfl)))) (QH ao),?_⟩;conv=>whnf
  rw [tq (show lo≤H.length by omega)];refine Ez (x:=ar.cells [hX 0,hX 0]) (by first | exact q5.h | rfl | (simp [ss,I.settle];done)) ?_
  conv=>whnf
  rw [H9];subst Lg;unfold Ou;obtain ⟨Ca,L2⟩:∃ c,Ni=c:=⟨_,rfl⟩;obtain ⟨a7,cc⟩:∃ c,PV=c:=⟨_,rfl⟩;rw [L2,cc];conv=>whnf
  subst L2;exact a_
 have acY:∀ e∈es,∃ y:Int,e.2.1=hX y:=fun e he=>by
  obtain ⟨y,_,_,_,ab,_⟩:=JY e he;exact ⟨y,ab⟩
 rcases Vp (x:=x) (n:=0) acY with ⟨i,e,aJ,aN,b'⟩ | aJ
 ·obtain ⟨y,id,c,TT,aA,aG,aT,bq,bf⟩:=JY e (sy aN);rw [b'] at aA;have N6:x=y:=by injection aA
  subst N6;rw [aL] at bf;obtain rfl:=Option.some.inj bf;rw [sG] at aJ;refine ⟨(H++[ar.cells [hX left.1,hX left.2]])++[.dead,.dead],(bF.more _).more _,⟨by simp,fun j _ aw=>by rw [sx,sj aw]⟩,?_⟩;refine rG eD Sd rfl (by rw [sx];exact a'.append _ _ _) fun Q bo=>?_;refine start Q ?_;unfold Ni;obtain ⟨br,eP⟩:∃ c,PW=c:=⟨_,rfl⟩;obtain ⟨ns,JP⟩:∃ c,Ov=c:=⟨_,rfl⟩;rw [eP,JP];conv=>whnf
  refine ⟨⟨sK _,by decide⟩,?_⟩;conv=>whnf
  refine ⟨_,_,call9 (bs:=[lj b,hX cu]) rfl (p6 (It b) (p6 rfl rfl)) (LS aj),?_⟩;conv=>whnf
  refine ⟨rfl,_,_,R4 _,some i,aJ,e,aN,?_⟩;rw [aG];conv=>whnf
  subst JP;refine YR (A:=A) (c:=c) h (by simp;omega) (Jj _ _) (by rw [sj (sd.1 bq).1];exact bq) fun T bw bJ ai=>?_;exact bo _ _ _ ⟨.inr rfl,Vo,ai⟩
 ·obtain ⟨c,D,cl⟩:=aiB aL;obtain ⟨H1,bV⟩:∃ H1,H1=H++[ar.cells [hX left.1,hX left.2]]:=⟨_,rfl⟩;have jR:H1.length=H.length+1:=by rw [bV];simp
  have nM:H1[m]?=some (.map es Jf):=by rw [bV];exact R4 _
  obtain ⟨H2,cf⟩:∃ H2,H2=(H1++[ar.map (rj A) c]).set m (.map (es++[(Jf,hX x,.map H1.length)]) (Jf+1)):=⟨_,rfl⟩;have eC:H2.length=H.length+2:=by rw [cf];simp [jR]
  have aO:∀ j,j≠m→H2[j]?=(H1++[ar.map (rj A) c])[j]?:=fun j aw=>by rw [cf,sf (by omega)]
  have V1:H2[H1.length]?=some (.map (rj A) c):=by rw [aO _ (by omega)];exact Jj _ _
  have acT:H2[m]?=some (.map (es++[(Jf,hX x,.map H1.length)]) (Jf+1)):=by rw [cf];exact sm (by simp;omega)
  have acr:Ia b m H2:=by
   refine ⟨_,_,acT,fun e he=>?_⟩;rcases s0.1 he with he | he
   ·obtain ⟨y,id,dR,TT,aA,aG,aT,bq,bf⟩:=JY e he;have aE:=(sd.1 bq).1;refine ⟨y,id,dR,TT,aA,aG,aT,?_,bf⟩;rw [aO _ aT,bV,sx,sj aE];exact bq
   ·obtain rfl:=sS.1 he;exact ⟨x,H1.length,c,A,rfl,rfl,by omega,V1,aL⟩
  refine ⟨H2++[.dead,.dead],acr.more _,⟨by simp [eC];omega,fun j aw ml=>?_⟩,?_⟩
  ·rw [sj (by omega),aO _ aw,bV,sx,sj ml]
  have KO:a' lo H (H2++[.dead,.dead]):=by
   refine ⟨by simp [eC];omega,fun j ab ae=>?_⟩;rw [sj (by omega),aO _ (by omega),bV,sx,sj (by omega)]
  refine rG eD Sd rfl KO fun Q bo=>?_;refine start Q ?_;rw [←bV];unfold Ni;obtain ⟨br,eP⟩:∃ c,PW=c:=⟨_,rfl⟩;obtain ⟨ns,JP⟩:∃ c,Ov=c:=⟨_,rfl⟩;rw [eP,JP];conv=>whnf
  refine ⟨⟨sK _,by decide⟩,?_⟩;conv=>whnf
  refine ⟨_,_,call9 (bs:=[lj b,hX cu]) rfl (p6 (It b) (p6 rfl rfl)) (LS aj),?_⟩;conv=>whnf
  refine ⟨rfl,_,_,nM,none,aJ,_,rfl,?_⟩;conv=>whnf
  subst eP;unfold PW;obtain ⟨a9,b_⟩:∃ c,SU=c:=⟨_,rfl⟩;rw [b_];conv=>whnf
  refine ⟨⟨sK _,by decide⟩,?_⟩;conv=>whnf
  refine ⟨_,_,call9 (bs:=[lj b,hX cu]) rfl (p6 (It b) (p6 rfl rfl)) (LS aj),?_⟩;conv=>whnf
  have zj:∀ (j i:Nat) (k v:I),(rj A)[j]?=some (i,k,v)→cn 8 k=true∧cn 8 v=true:=fun j i k v aw=>by
   obtain ⟨a,_,cq⟩:=sD.1 (sy aw);obtain ⟨_,ae⟩:=Prod.mk.inj cq;obtain ⟨rfl,rfl⟩:=Prod.mk.inj ae;exact ⟨Ih (p6 rfl (p6 rfl rfl)),Ih (p6 rfl (p6 rfl rfl))⟩
  refine ⟨_,_,aby (args:=[r1 b m,hX x]) (es:=rj A) (clock:=c) (D:=D) (p6 (It b) (p6 rfl rfl)) zj cl _ _,?_⟩;conv=>whnf
  subst b_;unfold SU;conv=>whnf
  refine ⟨⟨sK _,by decide⟩,?_⟩;conv=>whnf
  refine ⟨_,_,call9 (bs:=[lj b,hX cu]) rfl (p6 (It b) (p6 rfl rfl)) (LS aj),?_⟩;conv=>whnf
  rw [tq bC];refine ⟨rfl,es,Jf,by rw [sj (by omega)];exact nM,none,aJ,?_⟩;conv=>whnf
  rw [←cf];subst JP;refine YR (A:=A) (c:=c) (p10:=H.length) (id:=H1.length) h (by omega) (by rw [aO _ (by omega),sj (by omega),bV];exact Jj _ _) V1 fun T bw bJ ai=>?_;exact bo _ _ _ ⟨.inr rfl,Vo,ai⟩

end Go.Proofs.Ytkoioidpbbbaiaa.Ab


namespace Go.Proofs.Ytkoioidpbbbaiaa.Ab
open Go
set_option maxRecDepth 20000
set_option maxHeartbeats 4000000

end Go.Proofs.Ytkoioidpbbbaiaa.Ab


namespace Go.Proofs.Ytkoioidpbbbaiaa.Ab
open Go
set_option maxRecDepth 20000
set_option maxHeartbeats 4000000
end Go.Proofs.Ytkoioidpbbbaiaa.Ab


namespace Go.Proofs.Ytkoioidpbbbaiaa.Ab
open Go
set_option maxRecDepth 20000
set_option maxHeartbeats 1000000
def HA (p:qd) (o:List Int) (a:Nat):Prop:=q9 p o a p.2.1=0∧q9 p o a p.2.2=0
instance (p:qd) (o:List Int) (a:Nat):Decidable (HA p o a):=by unfold HA;exact inferInstance
def Jh (p:qd) (o:List Int) (a i:Nat) (s:qE):Prop :=
 qP p.1 o a [(i:Int)] (q_ p.2.1)+qz o.length i*q_ p.2.1 s=0∧qP p.1 o a [(i:Int)] (q_ p.2.2)+qz o.length i*q_ p.2.2 s=0
instance (p:qd) (o:List Int) (a i:Nat) (s:qE):Decidable (Jh p o a i s):=by unfold Jh;exact inferInstance
def JF (t:Nat):qE:=(((t % 101:Nat):Int),((t / 101:Nat):Int)-10)
theorem YB {t:Nat} (h:t<2121):qV (JF t):=by unfold qV JF;simp only;omega
theorem YA {s:qE} (h:qV s):∃ t,t<2121∧JF t=s:=by
 obtain ⟨ab,ae,aF,ba⟩:=h;refine ⟨(s.2+10).toNat*101+s.1.toNat,by omega,?_⟩;unfold JF;exact Prod.ext (by simp only;omega) (by simp only;omega)
def H0 (p:qd) (o:List Int) (a i:Nat):Prop:=∃ t,t<2121∧Jh p o a i (JF t)
instance (p:qd) (o:List Int) (a i:Nat):Decidable (H0 p o a i):=by unfold H0;exact inferInstance
theorem LZ {p:qd} {o:List Int} {a i:Nat}:H0 p o a i↔∃ s,qV s∧Jh p o a i s:=by
 constructor
 ·rintro ⟨t,ab,ae⟩;exact ⟨_,YB ab,ae⟩
 ·rintro ⟨s,ab,ae⟩;obtain ⟨t,aF,rfl⟩:=YA ab;exact ⟨t,aF,ae⟩
theorem YS {L H U V:Int} (h:L=H):(U+V*L=0∧U+V*H=0)↔U+V*L=0:=by subst h;simp
theorem Tm {L H U V:Int} (h:L≠H):(U+V*L=0∧U+V*H=0)↔U=0∧V=0:=by
 constructor
 ·rintro ⟨ab,ae⟩;have aF:V*(H-L)=0:=by grind
  rcases Int.mul_eq_zero.1 aF with ba | ba
  ·subst ba;simp at ab;exact ⟨ab,rfl⟩
  ·omega
 ·rintro ⟨rfl,rfl⟩;simp
theorem acd {p:qd} {o:List Int} {a:Nat}:HA p o a↔qP p.1 o a [] Prod.fst+qP p.1 o a [] Prod.snd*p.2.1=0∧qP p.1 o a [] Prod.fst+qP p.1 o a [] Prod.snd*p.2.2=0:=by
 unfold HA q9;rw [←Ob,←Ob,MY,MY]
theorem Vr {p:qd} {o:List Int} {a i:Nat} {s:qE}:Jh p o a i s ↔
  (qP p.1 o a [(i:Int)] Prod.fst+qz o.length i*s.1)+(qP p.1 o a [(i:Int)] Prod.snd+qz o.length i*s.2)*p.2.1=0 ∧
  (qP p.1 o a [(i:Int)] Prod.fst+qz o.length i*s.1)+(qP p.1 o a [(i:Int)] Prod.snd+qz o.length i*s.2)*p.2.2=0:=by
 unfold Jh;rw [MY,MY];have e:∀ (U V x c d D:Int),U+V*D+x*(c+d*D)=(U+x*c)+(V+x*d)*D:=fun U V x c d D=>by grind
 unfold q_;rw [e,e]
section
variable {p:qd} {o:List Int}
theorem ZI (h:qW p) (k:qs p.1.length o) {a:Nat}:II (p,()) o (a:Int) []=some ([],decide (HA p o a)):=by
 have hle:=h.le;have bC:=h.lo;have GU:=h.hi;unfold II;rw [QG (b:=(p,())) (W:=[]) h.s (r0 k) (qs.len h k) k.1.symm (by simp),sc];have a7:=RI (a:=a) (W:=[]) h.s (r0 k) (qs.len h k);have a9:=Th (a:=a) (W:=[]) h.s (r0 k) (qs.len h k);have br:=Is (b:=p.2.1) (B:=50) a9 (by omega);simp only;rw [qK (n:=qP p.1 o a [] Prod.snd*p.2.1) (by omega),qK (by omega)];congr 2;rw [ve];simp only [Bool.or_eq_true,sn,decide_eq_true_eq,Prod.mk.injEq];rw [acd];by_cases he:p.2.1=p.2.2
 ·rw [YS he];constructor
  ·rintro (⟨ab,ae⟩ | ⟨_,ab⟩)
   ·rw [ab,ae];simp
   ·exact ab
  ·exact fun ab=>.inr ⟨he,ab⟩
 ·rw [Tm he];constructor
  ·rintro (ab | ⟨ab,_⟩)
   ·exact ab
   ·exact absurd ab he
  ·exact .inl
theorem ae_ {s:rf×Nat} {k v:q8} {e:Nat×q8×q8} (h:e∈(H7 s k v).1):(e.2.1=k∧e.2.2=v)∨e∈s.1:=by
 unfold H7 at h;split at h
 ·obtain ⟨x,aj,rfl⟩:=sD.1 h;by_cases al:k=x.2.1
  ·rw [if_pos al];exact .inl ⟨rfl,rfl⟩
  ·rw [if_neg al];exact .inr aj
 ·rcases s0.1 h with h | h
  ·exact .inr h
  ·obtain rfl:=sS.1 h;exact .inl ⟨rfl,rfl⟩
theorem afa (s:rf×Nat) (k v:q8):∃ e∈(H7 s k v).1,e.2.1=k:=by
 unfold H7;split
 ·rename_i h;obtain ⟨x,aj,al⟩:=List.any_eq_true.1 h;exact ⟨_,th aj,by rw [if_pos (of_decide_eq_true al)]⟩
 ·exact ⟨(s.2,k,v),by simp,rfl⟩
theorem afb {s:rf×Nat} {k v:q8} {e:Nat×q8×q8} (h:e∈s.1):∃ cS∈(H7 s k v).1,cS.2.1=e.2.1:=by
 unfold H7;split
 ·refine ⟨_,th h,?_⟩;by_cases al:k=e.2.1
  ·rw [if_pos al];exact al
  ·rw [if_neg al]
 ·exact ⟨e,by simp [h],rfl⟩
theorem YJ (lo hi x:Int):∀ (t:Nat) (e:Nat×q8×q8),e∈(Hv lo hi x t).1→∃ iB,iB<t∧e.2.2=JF iB∧e.2.1=Ig lo hi x (JF iB).2 (JF iB).1
 | 0,e,h=>by simp [Hv] at h
 | t+1,e,h=>by
   unfold Hv at h;rcases ae_ h with ⟨ab,ae⟩ | ab
   ·exact ⟨t,by omega,ae,ab⟩
   ·obtain ⟨iB,ae,aF⟩:=YJ lo hi x t e ab;exact ⟨iB,by omega,aF⟩
theorem Ti (lo hi x:Int):∀ (t iB:Nat),iB<t→∃ e∈(Hv lo hi x t).1,e.2.1=Ig lo hi x (JF iB).2 (JF iB).1
 | 0,_,h=>absurd h (by omega)
 | t+1,iB,h=>by
   unfold Hv;by_cases e:iB=t
   ·subst e;exact afa _ _ _
   ·obtain ⟨e1,ab,ae⟩:=Ti lo hi x t iB (by omega);obtain ⟨b9,aF,ba⟩:=afb (k:=Ig lo hi x ((t / 101:Nat)-10) ((t % 101:Nat))) (v:=((t % 101:Nat),(t / 101:Nat)-10)) ab;exact ⟨b9,aF,ba.trans ae⟩
theorem aee {A:rf} {k:q8} (h:J3 A k=none):∀ e∈A,e.2.1≠k:=by
 unfold J3 at h;rw [Option.map_eq_none_iff,List.find?_eq_none] at h;intro e he al;exact h e he (decide_eq_true al.symm)
theorem aef {A:rf} {k v:q8} (h:J3 A k=some v):∃ e∈A,e.2.1=k∧e.2.2=v:=by
 unfold J3 at h;obtain ⟨e,ab,ae⟩:=Option.map_eq_some_iff.1 h;have aF:=List.find?_some ab;exact ⟨e,List.mem_of_find?_eq_some ab,(of_decide_eq_true aF).symm,ae⟩
theorem We {L H x:Int} {s:qE} (aj:-10≤x∧x≤10) (ah:qV s) (fm:0≤L∧L≤50):Ig L H x s.2 s.1=if L=H then (x*q_ L s,0) else (x*s.1,x*s.2):=by
 have af:=MH ah fm;obtain ⟨ab,ae,aF,ba⟩:=ah;have bl:=Is (a:=s.2) (b:=L) (A:=10) (B:=50) (by omega) (by omega);have cr:=Is (a:=x) (b:=q_ L s) (A:=10) (B:=600) aj (by omega);have eY:=Is (a:=x) (b:=s.1) (A:=10) (B:=100) aj (by omega);have lN:=Is (a:=x) (b:=s.2) (A:=10) (B:=10) aj (by omega);unfold Ig;rw [qK (n:=s.2*L) (by omega),show s.1+s.2*L=q_ L s from rfl,qK (n:=q_ L s) (by omega),qK (n:=x*q_ L s) (by omega),qK (n:=x*s.1) (by omega),qK (n:=x*s.2) (by omega)]
def Im (lo:Int) (s:qE):Int:=max (max s.1 (q_ lo s)) (-(q_ lo s))
def HR:List Int→Int
 | []=>0
 | x::r=>x+HR r
theorem YO:∀ (a b:List Int),HR (a++b)=HR a+HR b
 | [],b=>by simp [HR]
 | x::a,b=>by simp only [List.cons_append,HR,YO a b];omega
theorem ahb {a b:List Int} (h:a.Perm b):HR a=HR b:=by
 induction h with
 | nil=>rfl
 | cons x _ a8=>simp only [HR,a8]
 | swap x y l=>simp only [HR];omega
 | trans _ _ ab ae=>exact ab.trans ae
theorem YN {α:Type} [Inhabited α] (g:α→Int) (l:List α):∀ (k:Nat),k≤l.length→qO k (fun i=>g (ix l (i:Int)))=HR ((l.take k).map g)
 | 0,_=>rfl
 | k+1,h=>by
   rw [uH (by omega),sT,YO,←YN g l k (by omega)];simp only [qO,sI,uD,HR];rw [rB (by omega)];omega
theorem Tl {α:Type} [Inhabited α] (g:α→Int) (l:List α):qO l.length (fun i=>g (ix l (i:Int)))=HR (l.map g):=by
 rw [YN g l _ (se _),u_]
theorem R_ {n i:Nat} (h:i<n):ix (qo n) (i:Int)=(i:Int):=by
 rw [rB (by simpa [qo] using h)];simp [qo]
theorem JH (n:Nat):(qo n).length=n:=by simp [qo]
theorem YM {S:List qE} {o:List Int} (k:qs S.length o) (g:qE→Int):qO o.length (fun i=>g (qp S o i))=HR (S.map g):=by
 have e1:=Tl (fun j=>g (ix S j)) o;have b9:=Tl (fun j=>g (ix S j)) (qo S.length);have dx:=Tl g S;rw [ahb ((KS.1 k).map _),←b9,JH] at e1;rw [←dx];refine e1.trans (K0 fun i hi=>?_);simp only [R_ hi]
theorem aha {n:Nat} {g f:Nat→Int} (e:∀ i,i<n → -(f i)≤g i∧g i≤f i):-(qO n f)≤qO n g∧qO n g≤qO n f:=by
 induction n with
 | zero=>simp [qO]
 | succ n a8 =>
   have ab:=a8 fun i hi=>e i (by omega);have ae:=e n (by omega);simp only [qO];omega
theorem Pr {lo:Int} {s:qE} (ah:qV s) (ao:0≤lo∧lo≤50):0≤Im lo s∧Im lo s≤600:=by
 have ab:=MH ah ao;have ae:=ah.1;have aF:=ah.2.1;unfold Im;omega
theorem W1 {far lo:Int} (aP:0≤far∧far≤10) (ao:0≤lo∧lo≤50):∀ (l:List qE) (n:Int),(∀ s∈l,qV s)→0≤n→n+6000*l.length≤1000000→JB far lo l n=n+far*HR (l.map (Im lo))
 | [],n,_,_,_=>by simp [JB,HR]
 | s::r,n,ah,aI,af=>by
   have al:=ah s (by simp);have db:=MH al ao;have bl:=Is (a:=s.2) (b:=lo) (A:=10) (B:=50) ⟨al.2.2.1,al.2.2.2⟩ (by omega);have cr:=Pr al ao;have eY:=Is (a:=far) (b:=Im lo s) (A:=10) (B:=600) (by omega) (by omega);have lN:=Int.mul_nonneg aP.1 cr.1;have ab:=al.1;have ae:=al.2.1;rw [List.length_cons] at af;unfold JB;rw [qK (n:=s.2*lo) (by omega),show s.1+s.2*lo=q_ lo s from rfl,qK (n:=q_ lo s) (by omega),qK (n := -(q_ lo s)) (by omega),show max (max s.1 (q_ lo s)) (-(q_ lo s))=Im lo s from rfl,qK (n:=far*Im lo s) (by omega),qK (by omega)];rw [W1 aP ao r _ (fun s hh=>ah s (by simp [hh])) (by omega) (by omega),sI];simp only [HR];rw [Int.mul_add];omega
theorem Sl (h:qW p) (k:qs p.1.length o) {a:Nat} {W:List Int} {f:qE→Int} (aP:∀ s,qV s → -(Im p.2.1 s)≤f s∧f s≤Im p.2.1 s) :
  -(qz o.length (o.length-1)*HR (p.1.map (Im p.2.1)))≤qP p.1 o a W f∧qP p.1 o a W f≤qz o.length (o.length-1)*HR (p.1.map (Im p.2.1)):=by
 have hle:=h.le;have bC:=h.lo;have GU:=h.hi;have aI:=h.n;rw [←k.1] at aI;rw [←YM k (Im p.2.1),←OH];refine aha fun i hi=>?_;have ah:=I1 h.s (r0 k) hi;have aO:=Pr ah (lo:=p.2.1) (by omega);have a_:-(qz o.length (o.length-1))≤qz o.length i∧qz o.length i≤qz o.length (o.length-1):=by unfold qz;omega
 split
 ·have ab:=aP _ ah;have ae:=Is a_ ab;exact ae
 ·have:=Int.mul_nonneg (show 0≤qz o.length (o.length-1) by omega) aO.1;omega
theorem aiA (h:qW p) (k:qs p.1.length o) {a i:Nat} (hi:i<o.length):∃ A,NG (p,()) (qz o.length i)=some A∧(∀ e∈A,qV e.2.2∧e.2.1=Ig p.2.1 p.2.2 (qz o.length i) e.2.2.2 e.2.2.1)∧∀ s,qV s→Jh p o a i s→∃ e∈A,e.2.1=Ig p.2.1 p.2.2 (qz o.length i) s.2 s.1:=by
 have hle:=h.le;have bC:=h.lo;have GU:=h.hi;have aI:=h.n;have KN:=h.len;have ajg:=k.1;have fI:=qs.len h k;unfold NG;simp only;rw [qD (by omega),show ((p.1.length:Int)-1)=((o.length-1:Nat):Int) by omega,qK (n:=((o.length-1:Nat):Int)) (by omega),QF (b:=(p,())) fI k.1.symm (by omega),sc];have R0:0≤qz o.length (o.length-1)∧qz o.length (o.length-1)≤10:=by unfold qz;omega
 have V6:=W1 R0 (lo:=p.2.1) (by omega) p.1 0 h.s (by omega) (by omega);rw [Int.zero_add] at V6;rw [V6];obtain ⟨M,CD⟩:∃ M,M=qz o.length (o.length-1)*HR (p.1.map (Im p.2.1)):=⟨_,rfl⟩;have ai_:0≤M∧M≤1000000:=by
  have ab:=Sl h k (a:=0) (W:=[]) (f:=fun _=>0) fun s ah=>by have:=Pr ah (lo:=p.2.1) (by omega);omega
  have ae:=OG (n:=o.length) (g:=fun i=>Im p.2.1 (qp p.1 o i)) (B:=600) fun i hi=>by have:=Pr (I1 h.s (r0 k) hi) (lo:=p.2.1) (by omega);omega
  rw [YM k (Im p.2.1)] at ae;have aF:=Is (a:=qz o.length (o.length-1)) (A:=10) (by omega) ae;rw [←CD] at ab aF;omega
 rw [←CD,qK (n := -M) (by omega)];have hg:=M1 hi fI;obtain ⟨x,aj⟩:∃ x,x=qz o.length i:=⟨_,rfl⟩;rw [←aj] at hg ⊢;refine ⟨_,rfl,fun e he=>?_,fun s ah V0=>?_⟩
 ·obtain ⟨iB,ab,ae,aF⟩:=YJ _ _ _ _ _ (sW.1 he).1;have ba:iB<2121:=by
   by_cases aQ:x=0
   ·rw [if_pos aQ] at ab;omega
   ·rw [if_neg aQ] at ab;exact ab
  rw [ae];exact ⟨YB ba,aF⟩
 ·have hM:∃ e∈(Hv p.2.1 p.2.2 x (if x=0 then 1 else 2121)).1,e.2.1=Ig p.2.1 p.2.2 x s.2 s.1:=by
   by_cases aQ:x=0
   ·rw [if_pos aQ];obtain ⟨e,ab,ae⟩:=Ti p.2.1 p.2.2 x 1 0 (by omega);refine ⟨e,ab,ae.trans ?_⟩;subst aQ;unfold Ig;simp only [Int.zero_mul]
   ·rw [if_neg aQ];obtain ⟨t,ab,ae⟩:=YA ah;rw [←ae];exact Ti _ _ _ _ _ ab
  obtain ⟨e,ab,ae⟩:=hM;refine ⟨e,sW.2 ⟨ab,?_⟩,ae⟩;rw [ae,We hg ah (by omega)];have C1:=Vr.1 V0;rw [←aj] at C1;by_cases he:p.2.1=p.2.2
  ·rw [if_pos he];(have bO:=Sl h k (a:=a) (W:=[(i:Int)]) (f:=q_ p.2.1) fun s ah=>by unfold Im;omega);have bP:=V0.1;rw [←aj] at bP;rw [←CD] at bO;simp only [sn,decide_eq_true_eq];omega
  ·rw [if_neg he];rw [Tm he] at C1;(have bO:=Sl h k (a:=a) (W:=[(i:Int)]) (f:=Prod.fst) fun s ah=>by have:=ah.1;unfold Im;omega);rw [←CD] at bO;have bP:=C1.1;simp only [sn,decide_eq_true_eq];omega
theorem Wf (h:qW p) (k:qs p.1.length o) {a i:Nat} (hi:i<o.length) {s:qE} (ah:qV s) :
  Ig p.2.1 p.2.2 (qz o.length i) s.2 s.1=(if p.2.1=p.2.2 then (w (w (-(qP p.1 o a [(i:Int)] Prod.fst))-w (qP p.1 o a [(i:Int)] Prod.snd*p.2.1)),0) else (w (-(qP p.1 o a [(i:Int)] Prod.fst)),w (-(qP p.1 o a [(i:Int)] Prod.snd))))↔Jh p o a i s:=by
 have hle:=h.le;have bC:=h.lo;have GU:=h.hi;have a7:=RI (a:=a) (W:=[(i:Int)]) h.s (r0 k) (qs.len h k);have a9:=Th (a:=a) (W:=[(i:Int)]) h.s (r0 k) (qs.len h k);have br:=Is (b:=p.2.1) (B:=50) a9 (by omega);rw [We (M1 hi (qs.len h k)) ah (by omega),Vr];rw [qK (n := -(qP p.1 o a [(i:Int)] Prod.fst)) (by omega),qK (n:=qP p.1 o a [(i:Int)] Prod.snd*p.2.1) (by omega),qK (n := -(qP p.1 o a [(i:Int)] Prod.snd)) (by omega),qK (by omega)];generalize qP p.1 o a [(i:Int)] Prod.fst=U;generalize qP p.1 o a [(i:Int)] Prod.snd=V;generalize qz o.length i=x;by_cases he:p.2.1=p.2.2
 ·rw [if_pos he,if_pos he,YS he,Prod.mk.injEq];have e:U+x*s.1+(V+x*s.2)*p.2.1=U+V*p.2.1+x*q_ p.2.1 s:=by unfold q_;grind
  rw [e];constructor
  ·rintro ⟨ab,_⟩;omega
  ·intro ab;exact ⟨by omega,rfl⟩
 ·rw [if_neg he,if_neg he,Tm he,Prod.mk.injEq];constructor
  ·rintro ⟨ab,ae⟩;omega
  ·rintro ⟨ab,ae⟩;exact ⟨by omega,by omega⟩
theorem ZH (h:qW p) (k:qs p.1.length o) {a i:Nat} (hi:i<o.length) :
  (∃ s,II (p,()) o (a:Int) [(i:Int)]=some ([(ix o (i:Int),s)],true)∧qV s∧Jh p o a i s)∨(II (p,()) o (a:Int) [(i:Int)]=some ([],false)∧¬ H0 p o a i):=by
 unfold II;rw [QG (b:=(p,())) (W:=[(i:Int)]) h.s (r0 k) (qs.len h k) k.1.symm (by simp),sc];obtain ⟨A,aL,ab,ae⟩:=aiA h k (a:=a) hi;simp only;rw [QF (b:=(p,())) (qs.len h k) k.1.symm hi,sc,aL,sc];cases al:J3 A (if p.2.1=p.2.2 then (w (w (-(qP p.1 o a [(i:Int)] Prod.fst))-w (qP p.1 o a [(i:Int)] Prod.snd*p.2.1)),0) else (w (-(qP p.1 o a [(i:Int)] Prod.fst)),w (-(qP p.1 o a [(i:Int)] Prod.snd)))) with
 | none =>
   refine .inr ⟨rfl,fun ak=>?_⟩;obtain ⟨s,ah,aP⟩:=LZ.1 ak;obtain ⟨e,he,acX⟩:=ae s ah aP;exact aee al e he (acX.trans ((Wf h k hi ah).2 aP))
 | some s =>
   obtain ⟨e,he,Dd,rfl⟩:=aef al;obtain ⟨ah,pN⟩:=ab e he;refine .inl ⟨e.2.2,?_,ah,(Wf h k hi ah).1 (pN.symm.trans Dd)⟩;simp only;rw [qD (by omega)]
end
end Go.Proofs.Ytkoioidpbbbaiaa.Ab


namespace Go.Proofs.Ytkoioidpbbbaiaa.Ab
open Go
set_option maxRecDepth 20000
set_option maxHeartbeats 4000000

end Go.Proofs.Ytkoioidpbbbaiaa.Ab


namespace Go.Proofs.Ytkoioidpbbbaiaa.Ab
open Go
set_option maxRecDepth 20000
set_option maxHeartbeats 1000000
section
variable {p:qd} {o:List Int}
theorem qs.WC (h:qW p) (k:qs p.1.length o):o.length≤7:=by have:=h.len;have:=k.1;omega
def rb (p:qd) (o:List Int) (a:Nat):Nat:=if HA p o a then 0 else if ∃ i,i<o.length∧i % 2=a∧H0 p o a i then 1 else 2
theorem NV (p:qd) (o:List Int) (a:Nat):rb p o a≤2:=by unfold rb;split <;> (try split) <;> omega
end
end Go.Proofs.Ytkoioidpbbbaiaa.Ab


namespace Go.Proofs.Ytkoioidpbbbaiaa.Ab
open Go
set_option maxRecDepth 20000
set_option maxHeartbeats 4000000
noncomputable def QQ:gB :=
 .loop (some (qc false [1,3,4,1,58])) (.seq (p4 [p5 17 8,p5 18 2,qZ 19 18,qv 20 17 19 .lss] (.cond (.m_ 20) .skip (.exit 0))) (.seq (.block 1 (p4 [p5 23 2,p5 24 8,rk 25 23 24 3,p2 26 [.Bv 25] (.zH (.str 3)),p2 9 [] (.alloc [.int .i64 0,.int .i64 0,.int .i64 0]),⟨none,[.m_ 9,.jm 26],none,none,.st 3⟩] (.seq (q4 [p2 27 [.m_ 9] (.yP 0),qj 28 27,qw 29 28 0 .lss,p3 30 29,ch 31 [.m_ 9] 30 false (.yP 0),ch 32 [.Bv 31] 30 false (.zH .one),ch 33 [.m_ 3] 30 false (.yP 0),ch 34 [.Bv 33] 30 false (.zH .one),ch 35 [.jm 34] 30 false .zM,ch 36 [.Bv 32,.Bv 35] 30 false (.bin .geq),p2 37 [.m_ 30,.cv (.bool true),.Bv 36] .pick,p3 38 37,ch 39 [.m_ 8] 38 false .mR,ch 40 [.Bv 39,.cv (.int .i64 0)] 38 false (.bin .gtr),ch 41 [.jm 40] 38 false .mR,ch 42 [.m_ 9] 41 true (.yP 0),ch 43 [.Bv 42] 41 true (.zH .one),ch 44 [.m_ 2] 41 true .mR,ch 45 [.m_ 8] 41 true .mR,ch 46 [.Bv 45,.cv (.int .i64 1)] 41 true (.bin .sub),ch 47 [.Bv 44,.Bv 46] 41 true (.kV 3),ch 48 [.Bv 47] 41 true (.yP 0),ch 49 [.Bv 48] 41 true (.zH .one),ch 50 [.Bv 43,.Bv 49] 41 true (.bin .leq),ch 51 [.m_ 41,.Bv 50,.cv (.bool false)] 38 false .pick,p2 52 [.m_ 38,.cv (.bool true),.Bv 51] .pick,p3 53 52,ch 54 [.m_ 9] 53 false (.yP 1),ch 55 [.Bv 54] 53 false (.zH (.str 2)),⟨some 56,[.cv (.func 45 [] []),.m_ 55],some (53,false),none,.call 3⟩,ch 57 [.Bv 56] 53 false (.un .not),p2 58 [.m_ 53,.cv (.bool true),.Bv 57] .pick]) (.cond (.m_ 58) (p4 [qg 6 0,qg 7 3] .ret) .skip)))) (qR [p3 21 8,qY 22 21 1,p3 8 22])))
noncomputable def ZW:gB :=
 p4 [p2 3 [.jm 0] .box,qg 6 0,qg 7 0] (.seq (p4 [p2 10 [.m_ 3] (.zH (.str 3)),p5 11 1,p2 12 [.cv (.func 39 [] []),.m_ 10,.m_ 11] (.call 3),qw 13 12 0 .neq] (.cond (.m_ 13) (p4 [p2 14 [.Bv 3] (.zH (.str 3)),p3 15 1,p2 16 [.cv (.func 39 [] []),.m_ 14,.m_ 15] (.call 3),qg 6 0,p3 7 16] .ret) .skip)) (.seq (p4 [qg 8 0] (.block 0 QQ)) (.seq (p4 [p2 59 [.Bv 3] (.zH (.str 3)),p5 60 2,p2 61 [.cv (.func 52 [] []),.m_ 59,.m_ 60] (.call 3),p3 62 1,p2 63 [.cv (.func 42 [] []),.m_ 61,.m_ 62] (.call 3),qw 64 63 0 .gtr] (.cond (.m_ 64) (p4 [qg 6 0,qg 7 23] .ret) .skip)) (p4 [p3 65 2,qZ 66 65,p3 6 66,qg 7 0] .ret))))
theorem aeo:qt Try.prog Rc 24=some (ZW,67,[.tmp 6,.tmp 7]):=by kernel_rfl
def K3 (p:(qk×(Int×Int))) (changes:(List (Int×(Int×Int)))) (qf:Unit→Option (Int×Int)):Nat→Int→Option (Int×Int)
 | 0,_=>none
 | m+1,s1 =>
   if (decide (s1<(changes.length:Int)))=true then
    qx (0≤s1∧s1<(changes.length:Int)) <|
    if (decide ((ix changes s1).1<(0:Int)))=true then
     some ((0:Int),(3:Int))
    else
     if (decide ((p.1.length:Int)≤(ix changes s1).1))=true then
      some ((0:Int),(3:Int))
     else
      if (decide ((0:Int)<s1))=true then
       qx (0≤(w (s1-(1:Int)))∧(w (s1-(1:Int)))<(changes.length:Int)) <|
       if (decide ((ix changes s1).1≤(ix changes (w (s1-(1:Int)))).1))=true then
        some ((0:Int),(3:Int))
       else
        (Mw ((ix changes s1).2)).bind fun eH =>
        if eH=true then
         K3 p changes qf m (w (s1+(1:Int)))
        else
         some ((0:Int),(3:Int))
      else
       (Mw ((ix changes s1).2)).bind fun qB =>
       if qB=true then
        K3 p changes qf m (w (s1+(1:Int)))
       else
        some ((0:Int),(3:Int))
   else
    qf ()
def Lz (p:(qk×(Int×Int))) (order:qa) (changes:(List (Int×(Int×Int)))):Option (Int×Int) :=
 (Ks p order).bind fun aS =>
 if (decide (aS≠(0:Int)))=true then
  (Ks p order).bind fun bh =>
  some ((0:Int),bh)
 else
  K3 p changes (fun _ =>
    (O1 p changes).bind fun r5 =>
    (Mr r5 order).bind fun r6 =>
    if (decide ((0:Int)<r6))=true then
     some ((0:Int),(23:Int))
    else
     some ((changes.length:Int),(0:Int))) ql (0:Int)
theorem ah6 {p:(qk×(Int×Int))} {changes:(List (Int×(Int×Int)))} {qf:Unit→Option (Int×Int)} {s1:Int} {order:qa} {v:(Int×Int)} {Q:Hm}   (jG:qL [.tmp 6,.tmp 7] Q (fun v=>(.tuple [(hX v.1),(hX v.2)])) v) (rm:∀ (Lb:List ar) (qe:List I),qf ()=some v→rr 67 [(1,(qF order .shared)),(2,(.av (changes.flatMap qm) changes.length .shared)),(3,(.ptr 0 0))] qe→Q (.exit 0) qe (ar.cells [(q6 p.1 .shared),(hX p.2.1),(hX p.2.2)]::Lb)) {T:List I} (bZ:eW (qc false [1,3,4,1,58]) T=qh 67 [(1,(qF order .shared)),(2,(.av (changes.flatMap qm) changes.length .shared)),(3,(.ptr 0 0)),(8,(hX s1))]) (h:K3 p changes qf ql s1=some v) :
  dN Try.prog Rc 24 0 none QQ T [ar.cells [(q6 p.1 .shared),(hX p.2.1),(hX p.2.2)]] Q:=by
 unfold QQ;refine wp_loop bZ ?_;refine .intro (fun m T H=>∃ (s1:Int) (T1:List ar),T=qh 67 [(1,(qF order .shared)),(2,(.av (changes.flatMap qm) changes.length .shared)),(3,(.ptr 0 0)),(8,(hX s1))]∧H=(ar.cells [(q6 p.1 .shared),(hX p.2.1),(hX p.2.2)]::T1)∧K3 p changes qf m s1=some v) ql ⟨s1,[],rfl,rfl,h⟩ ?_;clear h bZ;rintro m T H ⟨s1,T1,rfl,rfl,h⟩;cases m
 ·exact r3 h
 rename_i m;rw [K3.eq_2] at h;conv=>whnf
 refine bs h (fun qH h=>?_) fun qH h=>?_
 ·rw [qH];conv=>whnf
  refine qN h id fun qU h=>?_;rw [H3 qm 3 Hw changes s1 qU];conv=>whnf
  refine Ez (x:=ar.cells [(hX (0:Int)),(hX (0:Int)),(hX (0:Int))]) (by first | exact q5.h | rfl | (simp [ss,I.settle];done)) ?_
  conv=>whnf
  rw [H9];refine Ez (x:=ar.cells [(hX (ix changes s1).1),(hX (ix changes s1).2.1),(hX (ix changes s1).2.2)]) (by first | exact q5.h | rfl | (simp [ss,I.settle];done)) ?_
  conv=>whnf
  refine bs h (fun ru h=>?_) fun ru h=>?_
  ·rw [ru];(conv=>whnf);exact p_ h jG rfl rfl
  ·rw [ru];(conv=>whnf);refine Ez (x:=ar.cells [(hX (ix changes s1).1),(hX (ix changes s1).2.1),(hX (ix changes s1).2.2)]) (by first | exact q5.h | rfl | (simp [ss,I.settle];done)) ?_
   (conv=>whnf);refine bs h (fun qS h=>?_) fun qS h=>?_
   ·rw [qS];(conv=>whnf);exact p_ h jG rfl rfl
   ·rw [qS];(conv=>whnf);refine bs h (fun rH h=>?_) fun rH h=>?_
    ·rw [rH];(conv=>whnf);refine Ez (x:=ar.cells [(hX (ix changes s1).1),(hX (ix changes s1).2.1),(hX (ix changes s1).2.2)]) (by first | exact q5.h | rfl | (simp [ss,I.settle];done)) ?_
     (conv=>whnf);refine qN h id fun ra h=>?_;rw [H3 qm 3 Hw changes (w (s1-(1:Int))) ra];(conv=>whnf);refine bs h (fun rq h=>?_) fun rq h=>?_
     ·rw [rq];(conv=>whnf);exact p_ h jG rfl rfl
     ·rw [rq];(conv=>whnf);refine Ez (x:=ar.cells [(hX (ix changes s1).1),(hX (ix changes s1).2.1),(hX (ix changes s1).2.2)]) (by first | exact q5.h | rfl | (simp [ss,I.settle];done)) ?_
      (conv=>whnf);obtain ⟨eH,r8,h⟩:=p9 h;refine ⟨qb.pl,_,TD r8,rD,?_⟩;(conv=>whnf);cases eH
      ·(conv=>whnf);replace h:=rK rfl h;exact p_ h jG rfl rfl
      ·(conv=>whnf);replace h:=rJ rfl h;exact ⟨m,sC m,(w (s1+(1:Int))),_,rfl,rfl,h⟩
    ·rw [rH];(conv=>whnf);refine Ez (x:=ar.cells [(hX (ix changes s1).1),(hX (ix changes s1).2.1),(hX (ix changes s1).2.2)]) (by first | exact q5.h | rfl | (simp [ss,I.settle];done)) ?_
     (conv=>whnf);obtain ⟨qB,sa,h⟩:=p9 h;refine ⟨qb.pl,_,TD sa,rD,?_⟩;(conv=>whnf);cases qB
     ·(conv=>whnf);replace h:=rK rfl h;exact p_ h jG rfl rfl
     ·(conv=>whnf);replace h:=rJ rfl h;exact ⟨m,sC m,(w (s1+(1:Int))),_,rfl,rfl,h⟩
 ·rw [qH];conv=>whnf
  exact rm _ _ h ⟨rfl,rfl⟩
theorem Tv {p:(qk×(Int×Int))} {order:qa} {changes:(List (Int×(Int×Int)))} {v:(Int×Int)} (h:Lz p order changes=some v):qy 24 [(.agg [(.av (p.1.flatMap p') p.1.length .shared),(hX p.2.1),(hX p.2.2)]),(.av (order.map hX) order.length .shared),(.av (changes.flatMap qm) changes.length .shared)] (.tuple [(hX v.1),(hX v.2)]):=by
 refine qQ eD aeo rfl (Jq (p6 rfl (p6 rfl rfl))) fun Q bo=>?_;have jG:qL [.tmp 6,.tmp 7] Q (fun v=>(.tuple [(hX v.1),(hX v.2)])) v:=fun T H bD=>bo _ T H bD;unfold Lz at h;unfold ZW;obtain ⟨HN,qI⟩:∃ c,QQ=c:=⟨_,rfl⟩;rw [qI];conv=>whnf
 obtain ⟨aS,gJ,h⟩:=p9 h;refine ⟨qb.pl,_,ND gJ,?_⟩;conv=>whnf
 refine bs h (fun gK h=>?_) fun gK h=>?_
 ·rw [gK];conv=>whnf
  obtain ⟨bh,qu,h⟩:=p9 h;refine ⟨qb.pl,_,ND qu,?_⟩;conv=>whnf
  exact p_ h jG rfl rfl
 ·rw [gK];conv=>whnf
  subst qI;refine ah6 ?_ ?_ (by exact rfl) h
  ·exact fun T H bD=>jG T H bD
  ·intro Lb qe h qA;obtain ⟨rn,rfl⟩:=qA.ex;(conv=>whnf);obtain ⟨r5,Hp,h⟩:=p9 h;refine ⟨qb.pl,_,air Hp,?_⟩;(conv=>whnf);obtain ⟨r6,Ie,h⟩:=p9 h;refine ⟨qb.pl,_,Zw Ie,?_⟩;(conv=>whnf);refine bs h (fun Hq h=>?_) fun Hq h=>?_
   ·rw [Hq];(conv=>whnf);exact p_ h jG rfl rfl
   ·rw [Hq];(conv=>whnf);exact p_ h jG rfl rfl
end Go.Proofs.Ytkoioidpbbbaiaa.Ab


namespace Go.Proofs.Ytkoioidpbbbaiaa.Ab
open Go
set_option maxRecDepth 20000
set_option maxHeartbeats 1000000
def q7:List qq→List qE→List qE
 | [],S=>S
 | c::r,S=>q7 r (S.set c.1.toNat c.2)
theorem OD:∀ (l:List qq) (S:List qE),(q7 l S).length=S.length
 | [],_=>rfl
 | c::r,S=>by rw [q7,OD r];simp
def r2 (n:Int):List qq→Int→Prop
 | [],_=>True
 | c::r,m=>m≤c.1∧c.1<n∧qV c.2∧r2 n r (c.1+1)
instance afc (n:Int):∀ (l:List qq) (m:Int),Decidable (r2 n l m)
 | [],_=>isTrue trivial
 | c::r,m=>by unfold r2;exact @instDecidableAnd _ _ _ (@instDecidableAnd _ _ _ (@instDecidableAnd _ _ _ (afc n r (c.1+1))))
theorem Tf {n:Int}:∀ {l:List qq} {S:List qE} {m:Int},r2 n l m→(∀ s∈S,qV s)→∀ s∈q7 l S,qV s
 | [],_,_,_,h=>h
 | c::r,S,m,ao,h=>by
   refine Tf (l:=r) ao.2.2.2 fun s ah=>?_;rcases List.mem_or_eq_of_mem_set ah with ab | ab
   ·exact h s ab
   ·rw [ab];exact ao.2.2.1
theorem Vb {n:Nat} (aI:n≤1000):∀ (l:List qq) (S:List qE) (m:Int),S.length=n→0≤m→m≤1000→MK n l S m=some (if r2 n l m then some (q7 l S) else none)
 | [],S,m,_,_,_=>rfl
 | c::r,S,m,cl,hm,nM=>by
   unfold MK;rw [qK (n:=(n:Int)-1) (by omega),NC,sc];by_cases ab:m≤c.1∧c.1<(n:Int)
   ·rw [if_pos (by simp;omega),ZB,sc];by_cases ae:qV c.2
    ·rw [if_neg (by simpa using ae),qD (by omega),qK (by omega),Vb aI r _ _ (by simp [cl]) (by omega) (by omega)];by_cases aF:r2 n r (c.1+1)
     ·rw [if_pos aF,if_pos ⟨ab.1,ab.2,ae,aF⟩];rfl
     ·rw [if_neg aF,if_neg fun k=>aF k.2.2.2]
    ·rw [if_pos (by simpa using ae),if_neg fun k=>ae k.2.2.1]
   ·rw [if_neg (by simp;omega),if_neg fun k=>ab ⟨k.1,k.2.1⟩]
theorem Va {n:Nat}:∀ (l:List qq) (S:List qE) (m:Int),S.length=n→0≤m→r2 n l m→L0 l S=some (q7 l S)
 | [],_,_,_,_,_=>rfl
 | c::r,S,m,cl,hm,ao=>by
   unfold L0;have ab:=ao.1;have ae:=ao.2.1;rw [qD (by omega)];exact Va r _ (c.1+1) (by simp [cl]) (by omega) ao.2.2.2
section
variable {p:qd} {o:List Int} {l:List qq}
theorem Lx (aB:p.1.length≤1000) (ao:o.length≤12) (ak:l.length≤1000):Ix p o l=some (if rN p o=0 then (if r2 p.1.length l 0 then (if 0<qX (q7 l p.1,p.2) o then (0,23) else ((l.length:Int),0)) else (0,3)) else (0,rN p o)):=by
 unfold Ix;rw [Qy aB ao,sc];by_cases h:rN p o=0
 ·rw [if_pos h,if_pos h];obtain ⟨ad,al⟩:=KU.1 h;have KN:=ad.len;simp only;rw [if_neg (by decide),qD ⟨fun e=>by rw [e] at KN;simp at KN,aB,ak⟩,Vb aB l p.1 0 rfl (by omega) (by omega),sc];by_cases ab:r2 p.1.length l 0
  ·rw [if_pos ab,if_pos ab];simp only;have dd:qW (q7 l p.1,p.2):=⟨by rw [OD];exact ad.n,Tf ab ad.s,ad.lo,ad.le,ad.hi⟩;rw [OY dd (by rw [OD];exact al),sc];by_cases ae:0<qX (q7 l p.1,p.2) o
   ·rw [if_pos (decide_eq_true ae),if_pos ae]
   ·rw [if_neg (by simpa using ae),if_neg ae]
  ·rw [if_neg ab,if_neg ab]
 ·rw [if_neg h,if_neg h];simp only;rw [if_pos (decide_eq_true h)]
theorem Wn (aB:p.1.length≤1000) (ak:l.length≤1000) {K:Option (Int×Int)}:∀ (m i:Nat),i≤l.length→l.length-i<m→∀ (t:Int),(i=0→t=0)→(0<i→t=(ix l ((i-1:Nat):Int)).1+1∧0<t∧t≤1000) →
  K3 p l (fun _=>K) m (i:Int)=if r2 p.1.length (l.drop i) t then K else some (0,3)
 | 0,_,_,h,_,_,_=>absurd h (by omega)
 | m+1,i,hi,hm,t,aQ,ab=>by
   rw [K3];by_cases aR:i<l.length
   ·rw [if_pos (decide_eq_true (by omega)),qD (by omega),s9 aR,←rB aR,Iw i (by omega)];have a8:=Wn aB ak (K:=K) m (i+1) (by omega) (by omega) ((ix l (i:Int)).1+1) (fun e=>by omega);by_cases cq:(ix l (i:Int)).1<0
    ·rw [if_pos (decide_eq_true cq),if_neg];intro k;have:=k.1;by_cases e:i=0
     ·have:=aQ e;omega
     ·have:=ab (by omega);omega
    ·rw [if_neg (by simpa using by omega)];by_cases af:(p.1.length:Int)≤(ix l (i:Int)).1
     ·rw [if_pos (decide_eq_true af),if_neg fun k=>by have:=k.2.1;omega]
     ·rw [if_neg (by simpa using by omega),ZD];have fin:t≤(ix l (i:Int)).1→((some (decide (qV (ix l (i:Int)).2))).bind fun r=>if r=true then K3 p l (fun _=>K) m ((i+1:Nat):Int) else some (0,3))=if r2 p.1.length (ix l (i:Int)::l.drop (i+1)) t then K else some (0,3):=fun ax=>by
       rw [sc];by_cases ah:qV (ix l (i:Int)).2
       ·rw [if_pos (decide_eq_true ah),a8 fun _=>⟨by simp,by omega,by omega⟩];by_cases ai:r2 p.1.length (l.drop (i+1)) ((ix l (i:Int)).1+1)
        ·rw [if_pos ai,if_pos ⟨ax,by omega,ah,ai⟩]
        ·rw [if_neg ai,if_neg fun k=>ai k.2.2.2]
       ·rw [if_neg (by simpa using ah),if_neg fun k=>ah k.2.2.1]
      by_cases e:0<i
      ·obtain ⟨t1,t2,t3⟩:=ab e;rw [if_pos (decide_eq_true (by omega)),qK (by omega),show (i:Int)-1=((i-1:Nat):Int) by omega,qD (by omega)];by_cases a1:(ix l (i:Int)).1≤(ix l ((i-1:Nat):Int)).1
       ·rw [if_pos (decide_eq_true a1),if_neg fun k=>by have:=k.1;omega]
       ·rw [if_neg (by rw [decide_eq_true_eq];exact a1)];exact fin (by omega)
      ·rw [if_neg (by simpa using by omega)];exact fin (by have:=aQ (by omega);omega)
   ·rw [if_neg (by simpa using by omega),vi (by omega),if_pos (show r2 _ [] t from trivial)]
theorem Tu (aB:p.1.length≤1000) (ao:o.length≤12) (ak:l.length≤1000):Lz p o l=some (if rN p o=0 then (if r2 p.1.length l 0 then (if 0<qX (q7 l p.1,p.2) o then (0,23) else ((l.length:Int),0)) else (0,3)) else (0,rN p o)):=by
 unfold Lz;rw [TC aB (by omega),sc,sc];by_cases h:rN p o=0
 ·rw [if_neg (show ¬ decide (rN p o≠0)=true by simpa using h),if_pos h];obtain ⟨ad,al⟩:=KU.1 h;have KN:=ad.len;have:=Wn aB ak (K:=(O1 p l).bind fun r5=>(Mr r5 o).bind fun r6=>if (decide ((0:Int)<r6))=true then some ((0:Int),(23:Int)) else some ((l.length:Int),(0:Int))) ql 0 (by omega) (Il (by omega)) 0 (fun _=>rfl) (fun h=>absurd h (by omega));rw [tt] at this;refine this.trans ?_;by_cases ab:r2 p.1.length l 0
  ·rw [if_pos ab,if_pos ab];unfold O1;rw [qD ⟨fun e=>by rw [e] at KN;simp at KN,aB,ak⟩,Va l p.1 0 rfl (by omega) ab,sc,sc];have dd:qW (q7 l p.1,p.2):=⟨by rw [OD];exact ad.n,Tf ab ad.s,ad.lo,ad.le,ad.hi⟩;rw [Zv dd (by rw [OD];exact al),sc];by_cases ae:0<qX (q7 l p.1,p.2) o
   ·rw [if_pos (decide_eq_true ae),if_pos ae]
   ·rw [if_neg (by simpa using ae),if_neg ae]
  ·rw [if_neg ab,if_neg ab]
 ·rw [if_pos (decide_eq_true h),if_neg h]
end
end Go.Proofs.Ytkoioidpbbbaiaa.Ab


namespace Go.Proofs.Ytkoioidpbbbaiaa.Ab
open Go
noncomputable def af8:gB :=
 .ou false [p3 48 9,p3 49 10,p2 50 [.Bv 49] (.yE 1 1 [.int .i64 0] [0]),p2 51 [.jm 48,.jm 50] (.app 1 8),p3 9 51]
noncomputable def SL:gB :=
 p4 [p5 44 0,p5 45 10,p2 46 [.cv (.func 68 [] []),.jm 44,.jm 45] (.call 9),qw 47 46 0 .gtr] (.cond (.m_ 47) af8 .skip)
noncomputable def SM:gB :=
 .seq (p4 [p5 34 0,p5 35 1,p5 36 2,p5 37 10,p2 38 [.Bv 37] (.yE 1 1 [.int .i64 0] [0]),p2 39 [.cv (.func 53 [] []),.jm 34,.jm 35,.jm 36,.jm 38] (.call 1),p3 33 39,qn 40 33 0,p2 41 [.Bv 33] (.ext 1),p3 11 40,p3 12 41] (p4 [p3 42 12] (.cond (.m_ 42) (p4 [p3 43 11,p3 6 43] .ret) .skip))) SL
noncomputable def X1:gB :=
 .seq (p4 [p5 29 10,qw 30 29 2 .rem,p5 31 2,qv 32 30 31 .neq] (.cond (.m_ 32) (.exit 1) .skip)) SM
noncomputable def X2:gB :=
 .block 1 (p4 [p5 28 26,p3 10 28] X1)
noncomputable def SN:gB :=
 .ou true [p3 59 13,p5 60 1,p5 61 15,rk 62 60 61 1,qj 63 62,p5 64 0,p2 65 [.Bv 64] .z7,qG 66 65 0,qG 67 66 0,qj 68 67,p5 69 1,p5 70 1,qZ 71 70,qw 72 71 1 .sub,p5 73 15,qv 74 72 73 .sub,rk 75 69 74 1,qj 76 75,rk 77 68 76 2,p2 78 [.Bv 77] (.zH (.str 2)),p2 79 [.Bv 63,.Bv 78] (.build [.int .i64 0,.int .i64 0,.int .i64 0] [(0,1),(1,2)]),p2 80 [.Bv 79] (.yE 1 3 [.int .i64 0,.int .i64 0,.int .i64 0] [0]),p2 81 [.jm 59,.jm 80] (.app 3 24),p3 13 81]
noncomputable def X3:gB :=
 .block 3 (p4 [p2 57 [.m_ 53,.m_ 55] (.kV 1),qj 58 57,p3 15 58] SN)
noncomputable def PS:gB :=
 .loop (some (qc false [0,2,11,1,39,3,28])) (p4 [p2 56 [.m_ 55,.m_ 54] (.bin .lss)] (.seq (.cond (.m_ 56) .skip (.exit 2)) (.seq X3 (qR [qY 82 55 1,p3 55 82]))))
noncomputable def SP:gB :=
 .seq (p4 [p3 53 9,p2 54 [.m_ 53] .zM,qg 55 0] (.block 2 PS)) (p4 [p3 83 13,p3 6 83] .ret)
noncomputable def PT:gB :=
 .loop (some (qc false [0,3,6,1,15,2,57])) (p4 [p2 27 [.m_ 26,.m_ 25] (.bin .lss)] (.seq (.cond (.m_ 27) .skip (.exit 0)) (.seq X2 (qR [qY 52 26 1,p3 26 52]))))
noncomputable def SQ:gB :=
 .seq (p4 [p5 24 1,qZ 25 24,qg 26 0] (.block 0 PT)) (p4 [p2 13 [.cv (.av [] 0 .full)] (.nil 3)] SP)
noncomputable def X0:gB :=
 .seq (p4 [p5 17 0,p5 18 1,p5 19 2,p2 20 [.cv (.func 53 [] []),.jm 17,.jm 18,.jm 19,.cv (.av [] 0 .full)] (.call 1),p3 16 20,qn 21 16 0,p2 22 [.Bv 16] (.ext 1),p3 7 21,p3 8 22] (p4 [p3 23 8] (.cond (.m_ 23) (p4 [p2 6 [.cv (.av [] 0 .full)] (.nil 3)] .ret) .skip))) (p4 [p2 9 [.cv (.av [] 0 .full)] (.nil 1)] SQ)
noncomputable def PR:gB :=
 p4 [p2 6 [.cv (.av [] 0 .full)] (.nil 3)] X0
theorem Sc:qt Go.Proofs.Try.prog LW 48=some (PR,84,[.tmp 6]):=by kernel_rfl
end Go.Proofs.Ytkoioidpbbbaiaa.Ab


namespace Go.Proofs.Ytkoioidpbbbaiaa.Ab
open Go
set_option maxRecDepth 20000
set_option maxHeartbeats 4000000
def JM (b:Hi) (order:List Int) (qC:Int):List Int→Nat→List Int→Option (Nat×(List qq ⊕ List Int))
 | [],k,ad=>some (k,.inr ad)
 | i::r,k,ad =>
   if i.tmod 2≠qC then JM b order qC r (k+1) ad
   else (II b order qC [i]).bind fun q=>if q.2=true then some (k+1,.inl q.1) else
    (K6 b i).bind fun p=>JM b order qC r (k+1) (if 0<p then ad++[i] else ad)
def JD (b:Hi) (order:List Int):List Int→List qq→Option (List qq)
 | [],out=>some out
 | i::r,out=>qx (0≤i∧i<(order.length:Int)) <| qx (0≤w (w (order.length-1)-i)∧w (w (order.length-1)-i)<(order.length:Int)) <|
   qx (0≤ix order (w (w (order.length-1)-i))∧ix order (w (w (order.length-1)-i))<(b.1.1.length:Int)) <|
   JD b order r (out++[(ix order i,ix b.1.1 (ix order (w (w (order.length-1)-i))))])
theorem afh {b:Hi} {m lo:Nat} {order ad:List Int} {v:List qq} (h:JD b order ad []=some v) (ao:ad.length≤1000) {T:List I} {H:List ar} {Q:cN→List I→List ar→Prop}
  (bZ:eW [true,true,false,false,false,false,false,false,false,false,false,false,false,true,false,false,false,false,false,false,false,false,false,false,false,false,false,false,false,false,false,false,false,false,false,false,false,false,false,false,false,false,false,false,false,false,false,false,false,false,false,false,false,true,true,true,false,false,false,false,false,false,false,false,false,false,false,false,false,false,false,false,false,false,false,false,false,false,false,false,false,false,false,false] T=qh 84 [(0,r1 b m),(1,.av (order.map hX) order.length .shared),(13,.av [] 0 (.uniq 3)),(53,.av (ad.map hX) ad.length (.own 1)),(54,hX ad.length),(55,hX 0)])
  (bo:∀ Y3 Y4 Y5 Y6,Q (.exit 2) (qh 84 [(0,r1 b m),(1,.av (order.map hX) order.length .shared),(13,.av (v.flatMap qm) v.length (.uniq 3)),(53,Y3),(54,Y4),(55,Y5),(56,Y6)]) H) :
  dN Try.prog LW 48 lo none PS T H Q:=by
 unfold PS;refine wp_loop bZ ?_;refine .intro (fun ho T H'=>∃ (i:Nat) (out:List qq),i≤ad.length∧ho=ad.length-i∧out.length=i∧JD b order (ad.drop i) out=some v∧T=qh 84 [(0,r1 b m),(1,.av (order.map hX) order.length .shared),(13,.av (out.flatMap qm) out.length (.uniq 3)),(53,.av (ad.map hX) ad.length (.own 1)),(54,hX ad.length),(55,hX i)]∧H'=H) ad.length ⟨0,[],sH _,rfl,rfl,h,rfl,rfl⟩ ?_;clear bZ h;rintro ho T H' ⟨i,out,hi,rfl,aq,al,rfl,rfl⟩;conv=>whnf
 refine HO (fun aR=>?_) (fun aR=>?_)
 ·have HP:i<ad.length:=by omega
  have IW:0≤(i:Int)∧(i:Int)<(ad.length:Int):=by omega
  rw [s9 HP] at al;unfold JD at al;obtain ⟨cc,al⟩:=rZ al;obtain ⟨b_,al⟩:=rZ al;obtain ⟨eP,al⟩:=rZ al;unfold X3;obtain ⟨fY,HB⟩:∃ c,SN=c:=⟨_,rfl⟩;rw [HB];conv=>whnf
  refine ⟨IW,?_⟩;rw [rh hX ad (i:Int) IW,rB HP];conv=>whnf
  subst HB;unfold SN;conv=>whnf
  refine ⟨cc,?_⟩;rw [rh hX order _ cc];conv=>whnf
  refine ⟨b_,?_⟩;rw [rh hX order _ b_];conv=>whnf
  refine ⟨eP,?_⟩;rw [H3 p' 2 KV b.1.1 _ eP];conv=>whnf
  refine ⟨rfl,by decide,?_⟩;conv=>whnf
  refine ⟨by decide,by omega,?_⟩;conv=>whnf
  have rC:IntKind.i64.wrap ((i:Int)+1)=((i+1:Nat):Int):=by rw [HX _ (by omega) (by omega)];omega
  refine ⟨ad.length-(i+1),by omega,i+1,_,by omega,rfl,by simp [aq],al,?_,rfl⟩;rw [rC,uo,sE];rfl
 ·have:i=ad.length:=by omega
  subst this;rw [List.drop_length] at al;obtain rfl:=Option.some.inj al;conv=>whnf
  exact bo _ _ _ _
theorem ahj {n i:Nat} (h:i<n):(qo n).drop i=(i:Int)::(qo n).drop (i+1):=by
 have ao:i<(qo n).length:=by rw [Mh];exact h
 rw [s9 ao];simp [qo]
theorem ady {b:Hi} {m lo k:Nat} {order:List Int} {qC:Int} {res:List qq ⊕ List Int} (h:JM b order qC (qo order.length) 0 []=some (k,res)) (ao:order.length≤1000) {Hs:Nat→List ar}
  (cl:∀ (i:Nat) q,(i:Int).tmod 2=qC→II b order qC [(i:Int)]=some q→Sem Try.prog (.fn 53) [r1 b m,.av (order.map hX) order.length .shared,hX qC,.av [hX (i:Int)] 1 (.uniq 1)] (Hs i) lo (.tuple [.av (q.1.flatMap qm) q.1.length .shared,B q.2]) (Hs (i+1)))
  (bI:∀ i:Nat,(i:Int).tmod 2≠qC→Hs (i+1)=Hs i) {T:List I} {Q:cN→List I→List ar→Prop}
  (bZ:eW [true,true,true,false,false,false,false,false,false,true,false,false,false,false,false,false,false,false,false,false,false,false,false,false,false,true,true,false,false,false,false,false,false,false,false,false,false,false,false,false,false,false,false,false,false,false,false,false,false,false,false,false,false,false,false,false,false,false,false,false,false,false,false,false,false,false,false,false,false,false,false,false,false,false,false,false,false,false,false,false,false,false,false,false] T=qh 84 [(0,r1 b m),(1,.av (order.map hX) order.length .shared),(2,hX qC),(9,.av [] 0 (.uniq 1)),(25,hX order.length),(26,hX 0)])
  (acz:∀ q T,res=.inl q→rX (Hs k) T [.tmp 6]=some [.av (q.flatMap qm) q.length .shared]→Q .ret T (Hs k))
  (acA:∀ ad YY YZ Y1,res=.inr ad→ad.length≤order.length→Q (.exit 0) (qh 84 [(0,r1 b m),(1,.av (order.map hX) order.length .shared),(2,hX qC),(9,.av (ad.map hX) ad.length (.uniq 1)),(25,YY),(26,YZ),(27,Y1)]) (Hs k)) :
  dN Try.prog LW 48 lo none PT T (Hs 0) Q:=by
 unfold PT;refine wp_loop bZ ?_;refine .intro (fun ho T H'=>∃ (i:Nat) (ad:List Int),i≤order.length∧ho=order.length-i∧ad.length≤i∧JM b order qC ((qo order.length).drop i) i ad=some (k,res)∧T=qh 84 [(0,r1 b m),(1,.av (order.map hX) order.length .shared),(2,hX qC),(9,.av (ad.map hX) ad.length (.uniq 1)),(25,hX order.length),(26,hX i)]∧H'=Hs i) order.length ⟨0,[],sH _,rfl,se _,h,rfl,rfl⟩ ?_;clear bZ h;rintro ho T H' ⟨i,ad,hi,rfl,acU,al,rfl,rfl⟩;conv=>whnf
 have rC:i<order.length→IntKind.i64.wrap ((i:Int)+1)=((i+1:Nat):Int):=fun _=>by rw [HX _ (by omega) (by omega)];omega
 refine HO (fun aR=>?_) (fun aR=>?_)
 ·have HP:i<order.length:=by omega
  rw [ahj HP] at al;unfold JM at al;unfold X2 X1;obtain ⟨br,eP⟩:∃ c,SM=c:=⟨_,rfl⟩;rw [eP];conv=>whnf
  refine ⟨by decide,?_⟩;conv=>whnf
  by_cases Kl:(i:Int).tmod 2=qC
  ·rw [decide_eq_false (show ¬ ((i:Int).tmod 2≠qC) from fun h=>h Kl)];rw [if_neg (fun h=>h Kl)] at al;obtain ⟨q,a_,al⟩:=p9 al;(conv=>whnf);subst eP;unfold SM;obtain ⟨a9,b_⟩:∃ c,SL=c:=⟨_,rfl⟩;rw [b_];(conv=>whnf);refine ⟨_,_,rE (cl i q Kl a_),?_⟩;(conv=>whnf);obtain ⟨q1,aW⟩:=q;cases aW with
   | true =>
     rw [if_pos rfl] at al;obtain ⟨ab,ae⟩:=Prod.mk.inj (Option.some.inj al);subst ab;(conv=>whnf);exact acz _ _ ae.symm rfl
   | false =>
     rw [if_neg (by simp)] at al;obtain ⟨pl,hg,al⟩:=p9 al;(conv=>whnf);subst b_;unfold SL;(conv=>whnf);refine ⟨_,_,call9 (bs:=[lj b,hX i]) rfl (p6 (It b) (p6 rfl rfl)) (LS hg),?_⟩;(conv=>whnf);refine HO (fun aB=>?_) (fun aB=>?_)
     ·rw [if_pos aB] at al;(conv=>whnf);refine ⟨rfl,by decide,?_⟩;(conv=>whnf);refine ⟨by decide,by omega,?_⟩;(conv=>whnf);refine ⟨order.length-(i+1),by omega,i+1,_,by omega,rfl,by simp;omega,al,?_,rfl⟩;rw [rC HP,sT,sE];rfl
     ·rw [if_neg aB] at al;(conv=>whnf);exact ⟨order.length-(i+1),by omega,i+1,ad,by omega,rfl,by omega,al,by rw [rC HP];rfl,rfl⟩
  ·rw [decide_eq_true (show (i:Int).tmod 2≠qC from Kl)];rw [if_pos Kl] at al;(conv=>whnf);refine ⟨order.length-(i+1),by omega,i+1,ad,by omega,rfl,by omega,al,by rw [rC HP];rfl,?_⟩;rw [bI i Kl]
 ·have:i=order.length:=by omega
  subst this;rw [vi (by rw [Mh];omega)] at al;obtain ⟨ab,ae⟩:=Prod.mk.inj (Option.some.inj al);subst ab;conv=>whnf
  exact acA _ _ _ _ ae.symm acU
def LP (b:Hi) (order:List Int) (qC:Int):Option (List qq) :=
 qx (order.length≤1000) <|
 (II b order qC []).bind fun r=>if r.2=true then some [] else
 (JM b order qC (qo order.length) 0 []).bind fun q=>match q.2 with
 | .inl l=>some l
 | .inr ad=>JD b order ad []
theorem Iz.refl (m:Nat) (H:List ar):Iz m H H:=⟨se _,fun _ _ _=>rfl⟩
theorem Iz.trans {m:Nat} {H H1 H2:List ar} (h:Iz m H H1) (k:Iz m H1 H2):Iz m H H2 :=
 ⟨Nat.le_trans h.1 k.1,fun j aw ao=>by rw [k.2 j aw (by have:=h.1;omega),h.2 j aw ao]⟩
theorem ZF {b:Hi} {order:List Int} {qC:Int} {v:List qq} (h:LP b order qC=some v) {m lo:Nat} {H:List ar} (bC:lo≤m) (bF:Ia b m H) :
  ∃ H' c,(c=.shared∨c=.uniq 3∨c=.own 3)∧Ia b m H'∧Iz m H H'∧Sem Try.prog (.fn 48) [r1 b m,.av (order.map hX) order.length .shared,hX qC] H lo (.av (v.flatMap qm) v.length c) H':=by
 unfold LP at h;obtain ⟨aI,h⟩:=rZ h;obtain ⟨r,ai,h⟩:=p9 h;have en:m<H.length:=by obtain ⟨_,_,ab,_⟩:=bF;exact (sd.1 ab).1
 obtain ⟨dz,o,acB⟩:=ZJ ai (m:=m) (lo:=lo) (H:=H) (by omega);obtain ⟨aS,bh⟩:=r;have dz:aS=[]:=dz;subst dz
 classical
 obtain ⟨Hs,gI,MQ⟩:=Ph (fun i rO Ij=>Ia b m rO→(Ia b m Ij∧Iz m rO Ij∧a' lo rO Ij)∧(∀ q,(i:Int).tmod 2=qC→II b order qC [(i:Int)]=some q→Sem Try.prog (.fn 53) [r1 b m,.av (order.map hX) order.length .shared,hX qC,.av [hX (i:Int)] 1 (.uniq 1)] rO lo (.tuple [.av (q.1.flatMap qm) q.1.length .shared,B q.2]) Ij)∧((i:Int).tmod 2≠qC→Ij=rO)) (H++[o]) (fun i rO=>by
  by_cases aP:Ia b m rO
  ·by_cases hm:(i:Int).tmod 2=qC
   ·cases a_:II b order qC [(i:Int)] with
    | none=>exact ⟨rO,fun _=>⟨⟨aP,Iz.refl _ _,a'.refl _ _⟩,(fun q _ h=>by cases h),fun h=>absurd hm h⟩⟩
    | some q =>
      obtain ⟨H',f1,f2,f3⟩:=ZK a_ bC aP;exact ⟨H',fun _=>⟨⟨f1,f2,f3.1⟩,(fun fT _ h=>by obtain rfl:=Option.some.inj h;exact f3),fun h=>absurd hm h⟩⟩
   ·exact ⟨rO,fun _=>⟨⟨aP,Iz.refl _ _,a'.refl _ _⟩,fun q h _=>absurd h hm,fun _=>rfl⟩⟩
  ·exact ⟨rO,fun h=>absurd h aP⟩)
 have cY:∀ i,Ia b m (Hs i)∧Iz m H (Hs i)∧a' lo H (Hs i):=fun i=>by
  induction i with
  | zero=>rw [gI];exact ⟨bF.more _,⟨by simp,fun j _ aw=>by rw [sj aw]⟩,a'.append _ _ _⟩
  | succ i a8 =>
    obtain ⟨⟨aA,aG,aT⟩,_,_⟩:=MQ i a8.1;exact ⟨aA,a8.2.1.trans aG,a8.2.2.trans aT⟩
 have start:∀ (Q:cN→List I→List ar→Prop) (Ca:gB),SQ=Ca→(bh=true→∀ T,rX (H++[o]) T [.tmp 6]=some [.av [] 0 (.uniq 3)]→Q .ret T (H++[o]))→(bh=false→∀ Ka,dN Try.prog LW 48 lo none Ca (qh 84 [(0,r1 b m),(1,.av (order.map hX) order.length .shared),(2,hX qC),(6,.av [] 0 (.uniq 3)),(7,Ka),(9,.av [] 0 (.uniq 1)),(23,.bool false)]) (H++[o]) Q) →
   dN Try.prog LW 48 lo none PR (qh 84 [(0,r1 b m),(1,.av (order.map hX) order.length .shared),(2,hX qC)]) H Q:=by
  intro Q Ca acO ab ae;unfold PR X0;rw [acO];conv=>whnf
  refine ⟨_,_,rE acB,?_⟩;conv=>whnf
  cases bh with
  | true =>
    (conv=>whnf);exact ab rfl _ rfl
  | false =>
    (conv=>whnf);exact ae rfl _
 cases bh with
 | true =>
   rw [if_pos rfl] at h;obtain rfl:=Option.some.inj h;refine ⟨H++[o],.uniq 3,.inr (.inl rfl),bF.more _,⟨by simp,fun j _ aw=>by rw [sj aw]⟩,?_⟩;refine rG eD Sc rfl (a'.append _ _ _) fun Q bo=>?_;refine start Q _ rfl (fun _ T bZ=>?_) (fun h=>by cases h);exact bo _ _ _ ⟨.inr rfl,lF.refl _,by rw [bZ];rfl⟩
 | false =>
   rw [if_neg (by simp)] at h;obtain ⟨⟨k,res⟩,ak,h⟩:=p9 h;have pA:∀ (Q:cN→List I→List ar→Prop),
     (∀ q T,res=.inl q→rX (Hs k) T [.tmp 6]=some [.av (q.flatMap qm) q.length .shared]→Q .ret T (Hs k)) →
     (∀ ad,res=.inr ad→∃ bn,JD b order ad []=some bn∧∀ T,rX (Hs k) T [.tmp 6]=some [.av (bn.flatMap qm) bn.length (.uniq 3)]→Q .ret T (Hs k)) →
     dN Try.prog LW 48 lo none PR (qh 84 [(0,r1 b m),(1,.av (order.map hX) order.length .shared),(2,hX qC)]) H Q:=by
    intro Q ab ae;refine start Q _ rfl (fun h=>by cases h) fun _ Ka=>?_;unfold SQ;obtain ⟨a9,b_⟩:∃ c,PT=c:=⟨_,rfl⟩;obtain ⟨ns,JP⟩:∃ c,SP=c:=⟨_,rfl⟩;rw [b_,JP];(conv=>whnf);subst b_;rw [←gI];refine ady (b:=b) (m:=m) (lo:=lo) ak aI (Hs:=Hs) (fun i q hm a_=>(MQ i (cY i).1).2.1 q hm a_) (fun i hm=>(MQ i (cY i).1).2.2 hm) (by exact rfl) (fun q T a_ bZ=>?_) (fun ad YY YZ Y1 a_ xh=>?_)
    ·(conv=>whnf);exact ab q T a_ bZ
    ·obtain ⟨bn,aq,ai⟩:=ae ad a_;(conv=>whnf);subst JP;unfold SP;obtain ⟨a7,cc⟩:∃ c,PS=c:=⟨_,rfl⟩;rw [cc];(conv=>whnf);subst cc;refine afh (b:=b) (m:=m) (lo:=lo) aq (by omega) (by exact rfl) fun Y3 Y4 Y5 Y6=>?_;(conv=>whnf);exact ai _ rfl
   have MS:=cY k;cases res with
   | inl l =>
     obtain rfl:=Option.some.inj h;refine ⟨Hs k,.shared,.inl rfl,MS.1,MS.2.1,?_⟩;refine rG eD Sc rfl MS.2.2 fun Q bo=>?_;refine pA Q (fun q T a_ bZ=>?_) (fun ad a_=>by cases a_);injection a_ with a_;subst a_;exact bo _ _ _ ⟨.inr rfl,lF.refl _,by rw [bZ];rfl⟩
   | inr ad =>
     refine ⟨Hs k,.uniq 3,.inr (.inl rfl),MS.1,MS.2.1,?_⟩;refine rG eD Sc rfl MS.2.2 fun Q bo=>?_;refine pA Q (fun q T a_ bZ=>by cases a_) (fun bg a_=>⟨v,?_,fun T bZ=>?_⟩)
     ·injection a_ with a_;subst a_;exact h
     ·exact bo _ _ _ ⟨.inr rfl,lF.refl _,by rw [bZ];rfl⟩
end Go.Proofs.Ytkoioidpbbbaiaa.Ab


namespace Go.Proofs.Ytkoioidpbbbaiaa.Ab
open Go
noncomputable def af1:gB :=
 p4 [p5 19 3, qw 20 19 0 .lss] (.cond (.m_ 20) (qR [p2 21 [.cv (.str (ByteArray.mk (Array.mk [108, 101, 110, 32, 111, 117, 116, 32, 111, 102, 32, 114, 97, 110, 103, 101])))] (.other (Oper.mk (some 21) (Op.makeInterface 9 (Operand.const (Value.string (ByteArray.mk (Array.mk [108, 101, 110, 32, 111, 117, 116, 32, 111, 102, 32, 114, 97, 110, 103, 101]))))) 20 "slices.go:496" (Array.mk []) none) 0), ⟨none, [.Bv 21], none, none, .other (Oper.mk none (Op.panic (Operand.tmp 21)) 0 "slices.go:496" (Array.mk [Edge.mk 0 Ground.data]) none) 0⟩]) .skip)
noncomputable def af2:gB :=
 p4 [p3 15 3,p3 16 5,qZ 17 16,qv 18 15 17 .add,p3 3 18] af1
noncomputable def af3:gB :=
 .block 1 (p4 [p2 13 [.m_ 9,.m_ 11] (.kV 1),qj 14 13,p3 5 14] af2)
noncomputable def af4:gB :=
 .ou false [p3 31 6,p3 32 8,p2 33 [.jm 31,.jm 32] (.app 3 24),p3 6 33]
noncomputable def af5:gB :=
 .block 3 (p4 [p2 29 [.m_ 25,.m_ 27] (.kV 1),qj 30 29,p3 8 30] af4)
noncomputable def af6:gB :=
 .seq (p4 [p3 25 0,p2 26 [.m_ 25] .zM,qg 27 0] (.block 2 (.loop (some (qc false [6,1,18,3,8])) (p4 [p2 28 [.m_ 27,.m_ 26] (.bin .lss)] (.seq (.cond (.m_ 28) .skip (.exit 2)) (.seq af5 (qR [qY 34 27 1,p3 27 34]))))))) (p4 [p3 35 6,p3 2 35] .ret)
noncomputable def af7:gB :=
 .seq (p4 [p5 9 0,p2 10 [.m_ 9] .zM,qg 11 0] (.block 0 (.loop (some (qc false [0,1,2,1,5,3,24])) (p4 [p2 12 [.m_ 11,.m_ 10] (.bin .lss)] (.seq (.cond (.m_ 12) .skip (.exit 0)) (.seq af3 (qR [qY 22 11 1,p3 11 22]))))))) (p4 [p3 23 3,p2 24 [.cv (.func 67 [] []),.cv (.av [] 0 .full),.m_ 23] (.call 0),p3 6 24] af6)
noncomputable def XZ:gB :=
 p4 [p2 2 [.cv (.av [] 0 .full)] (.nil 3)] (p4 [qg 3 0] af7)
theorem ad0:qt Go.Proofs.Try.prog Uy 47=some (XZ,36,[.tmp 2]):=by kernel_rfl
end Go.Proofs.Ytkoioidpbbbaiaa.Ab


namespace Go.Proofs.Ytkoioidpbbbaiaa.Ab
open Go
set_option maxRecDepth 20000
set_option maxHeartbeats 4000000
noncomputable def P8 (k:Nat) (args:List I):Option I:=match fZ Go.Proofs.Try.prog jA (Qc []) 300 (.fn k) args [] 0 with
 | some (r,H2)=>match bL H2 0 H2.length 0 8 r with
   | some v=>match cn 8 v with
     | true=>some v
     | false=>none
   | none=>none
 | none=>none
theorem Ys {k:Nat} {args:List I} {v:I} (h:P8 k args=some v):nj Go.Proofs.Try.prog k args v:=by
 unfold P8 at h;split at h
 ·rename_i r H2 ak;split at h
  ·rename_i u aP;split at h
   ·rename_i aB;cases h;have ah:=(Ce eD jA (YQ (l:=[]) (by simp)) (W8 UX) 300).Hd ak;refine ⟨⟨a'.refl _ _,ah.2.1,fun B aa J S w xs ag aI ad=>CallsIn.mono (ah.2.2 B aa J S w xs ag aI ad) fun e w' he=>?_⟩,aB⟩;cases e with
    | returned x=>exact xJ ag (fun id aE=>by simp at aE) aP he
    | panicked c=>exact he.elim
    | outgrown=>exact he.elim
   ·cases h
  ·cases h
 ·cases h
def PA:I→Bool
 | .av [] 0 (.uniq 3)=>true
 | _=>false
theorem Wb {v:I} (h:PA v=true):v=.av [] 0 (.uniq 3):=by
 unfold PA at h;split at h
 ·rfl
 ·cases h
theorem aco:((List.range 20).all fun n=>match P8 67 [.av [] 0 .full,.int .i64 ((n+1:Nat):Int)] with | some v=>PA v | none=>false)=true:=by kernel_rfl
theorem acp {n:Nat} (h:n<20):qy 67 [.av [] 0 .full,hX ((n+1:Nat):Int)] (.av [] 0 (.uniq 3)):=by
 have:=List.all_eq_true.1 aco n (sJ.2 h);split at this
 ·rename_i v ad;rw [Wb this] at ad;exact Ys ad
 ·cases this
theorem abX:(match P8 47 [.av [.av [] 0 .shared,.av [] 0 .shared] 2 (.uniq 1)] with | some v=>PA v | none=>false)=true:=by kernel_rfl
theorem abV:qy 47 [.av [.av [] 0 .shared,.av [] 0 .shared] 2 (.uniq 1)] (.av [] 0 (.uniq 3)):=by
 have:=abX;split at this
 ·rename_i v ad;rw [Wb this] at ad;exact Ys ad
 ·cases this
abbrev LE (l:List qq):I:=.av (l.flatMap qm) l.length .shared
theorem abW {l1 l2:List qq} (aI:l1.length+l2.length≤20) {H:List ar} {lo:Nat}:Sem Try.prog (.fn 47) [.av [LE l1,LE l2] 2 (.uniq 1)] H lo (.av ((l1++l2).flatMap qm) (l1++l2).length (.uniq 3)) H:=by
 by_cases aQ:l1.length+l2.length=0
 ·obtain rfl:=sP.1 (show l1.length=0 by omega);obtain rfl:=sP.1 (show l2.length=0 by omega);have:=Yw (H:=H) (by rfl) abV;exact ⟨a'.refl _ _,this.2⟩
 obtain ⟨k,al⟩:∃ k,l1.length+l2.length=k+1:=⟨l1.length+l2.length-1,by omega⟩;refine rG eD ad0 rfl (a'.refl _ _) fun Q bo=>?_;unfold XZ;conv=>whnf
 have bH:IntKind.i64.wrap (0+(l1.length:Int))=(l1.length:Int):=by rw [HX _ (by omega) (by omega)];omega
 have bW:IntKind.i64.wrap ((l1.length:Int)+(l2.length:Int))=((l1.length+l2.length:Nat):Int):=by rw [HX _ (by omega) (by omega)];omega
 refine .intro (fun m T H'=>(m=2∧T=qh 36 [(0,.av [LE l1,LE l2] 2 (.own 1)),(3,hX 0),(9,.av [LE l1,LE l2] 2 .shared),(10,hX 2),(11,hX 0)]∧H'=H)∨(m=1∧T=qh 36 [(0,.av [LE l1,LE l2] 2 (.own 1)),(3,hX l1.length),(9,.av [LE l1,LE l2] 2 .shared),(10,hX 2),(11,hX 1)]∧H'=H)∨(m=0∧T=qh 36 [(0,.av [LE l1,LE l2] 2 (.own 1)),(3,hX ((l1.length+l2.length:Nat):Int)),(9,.av [LE l1,LE l2] 2 .shared),(10,hX 2),(11,hX 2)]∧H'=H)) 2 (.inl ⟨rfl,rfl,rfl⟩) ?_;rintro m T H' (⟨rfl,rfl,rfl⟩ | ⟨rfl,rfl,rfl⟩ | ⟨rfl,rfl,rfl⟩)
 ·conv=>whnf
  refine ⟨by decide,?_⟩;conv=>whnf
  rw [bH,decide_eq_false (show ¬ ((l1.length:Int)<0) by omega)];conv=>whnf
  exact ⟨1,by decide,.inr (.inl ⟨rfl,rfl,rfl⟩)⟩
 ·conv=>whnf
  refine ⟨by decide,?_⟩;conv=>whnf
  rw [bW,decide_eq_false (show ¬ (((l1.length+l2.length:Nat):Int)<0) by omega)];conv=>whnf
  exact ⟨0,by decide,.inr (.inr ⟨rfl,rfl,rfl⟩)⟩
 ·conv=>whnf
  rw [al];refine ⟨_,_,NS (p6 rfl (p6 rfl rfl)) (acp (n:=k) (by omega)) _ _,?_⟩;conv=>whnf
  have bl:(l1.flatMap qm).length=l1.length*3:=IE qm 3 (fun _=>rfl) l1;have cr:(l2.flatMap qm).length=l2.length*3:=IE qm 3 (fun _=>rfl) l2;refine .intro (fun m T H2=>(m=2∧T=qh 36 [(6,.av [] 0 (.uniq 3)),(25,.av [LE l1,LE l2] 2 (.own 1)),(26,hX 2),(27,hX 0)]∧H2=H')∨(m=1∧T=qh 36 [(6,.av (l1.flatMap qm) l1.length (.uniq 3)),(25,.av [LE l1,LE l2] 2 (.own 1)),(26,hX 2),(27,hX 1)]∧H2=H')∨(m=0∧T=qh 36 [(6,.av ((l1++l2).flatMap qm) (l1++l2).length (.uniq 3)),(25,.av [LE l1,LE l2] 2 (.own 1)),(26,hX 2),(27,hX 2)]∧H2=H')) 2 (.inl ⟨rfl,rfl,rfl⟩) ?_;rintro m T H2 (⟨rfl,rfl,rfl⟩ | ⟨rfl,rfl,rfl⟩ | ⟨rfl,rfl,rfl⟩)
  ·(conv=>whnf);refine ⟨by decide,?_⟩;(conv=>whnf);refine ⟨bl,by omega,rfl,by omega,?_⟩;(conv=>whnf);refine ⟨1,by decide,.inr (.inl ⟨rfl,?_,rfl⟩)⟩;rw [sG];rfl
  ·(conv=>whnf);refine ⟨by decide,?_⟩;(conv=>whnf);refine ⟨cr,by omega,rfl,by omega,?_⟩;(conv=>whnf);refine ⟨0,by decide,.inr (.inr ⟨rfl,?_,rfl⟩)⟩;rw [uo,sE];rfl
  ·(conv=>whnf);exact bo _ _ _ ⟨.inr rfl,lF.refl _,rfl⟩

noncomputable def aam:gB :=
 p4 [p2 2 [.jm 0] .box,p2 3 [.jm 1] .box,qg 4 0] (p4 [qG 5 2 0,qj 6 5,qG 7 3 0,qj 8 7,qv 9 6 8 .sub,p3 4 9] .ret)
theorem aeQ:qt Try.prog UB 50=some (aam,10,[.tmp 4]):=by kernel_rfl
def ZG (x:(Int×(Int×Int))) (y:(Int×(Int×Int))):Option Int :=
 some (w (x.1-y.1))
theorem ais {x:(Int×(Int×Int))} {y:(Int×(Int×Int))} {v:Int} (h:ZG x y=some v):qy 50 [(.agg [(hX x.1),(hX x.2.1),(hX x.2.2)]),(.agg [(hX y.1),(hX y.2.1),(hX y.2.2)])] (hX v):=by
 refine qQ eD aeQ rfl rfl fun Q bo=>?_;have jG:qL [.tmp 4] Q (fun v=>(hX v)) v:=fun T H bD=>bo _ T H bD;unfold ZG at h;unfold aam;conv=>whnf
 exact p_ h jG rfl rfl
end Go.Proofs.Ytkoioidpbbbaiaa.Ab


namespace Go.Proofs.Ytkoioidpbbbaiaa.Ab
open Go
noncomputable def af9:gB :=
 .ou false [p3 7 0,p5 8 4,p3 9 4,p2 10 [.Bv 9] (.conv .u64),p2 11 [.cv (.func 70 [] []),.m_ 10] (.call 3),p3 12 1,p2 13 [.cv (.func 69 [] []),.jm 7,.cv (.int .i64 0),.jm 8,.jm 11,.jm 12] (.call 1)]
noncomputable def SR:gB :=
 p4 [p5 5 0,qZ 6 5,p3 4 6] af9
theorem WM:qt Go.Proofs.Try.prog Uz 49=some (SR,14,[]):=by kernel_rfl
noncomputable def Ox:gB :=
 p4 [p3 26 0,p3 27 1,p3 28 2,p3 29 4,p2 30 [.cv (.func 78 [] []),.jm 26,.jm 27,.jm 28,.jm 29] (.call 1)] .ret
noncomputable def agn:gB :=
 p4 [p3 33 0,p3 34 1,p3 35 2,p3 36 4,p2 37 [.cv (.func 79 [] []),.jm 33,.jm 34,.jm 35,.jm 36] (.call 1)] .ret
noncomputable def ago:gB :=
 p4 [p5 40 0,p5 41 1,p5 42 2,p5 43 4,p2 44 [.cv (.func 80 [] []),.jm 40,.jm 41,.jm 42,.jm 43] (.call 1)] (qR [p3 45 3,qw 46 45 1 .sub,p3 3 46])
noncomputable def agp:gB :=
 p4 [p5 62 2,qw 63 62 1 .sub,p3 64 13,p5 65 1,qv 66 64 65 .sub,qv 67 63 66 .sub,p3 13 67] (qR [qg 14 1])
noncomputable def agq:gB :=
 p4 [p5 57 0,p5 58 1,p5 59 2,p5 60 4,p2 61 [.cv (.func 82 [] []),.jm 57,.jm 58,.jm 59,.jm 60] (.call 1)] agp
noncomputable def agr:gB :=
 p4 [p5 76 0,p5 77 1,p5 78 2,p5 79 4,p2 80 [.cv (.func 83 [] []),.jm 76,.jm 77,.jm 78,.jm 79] (.call 1)] (.cond (.m_ 80) .ret .skip)
noncomputable def ags:gB :=
 p4 [p5 98 0,p3 99 1,p5 100 2,p3 101 13,p5 102 4,p2 103 [.cv (.func 84 [] []),.jm 98,.jm 99,.jm 100,.jm 101,.jm 102] (.call 1),p3 15 103] (p4 [p3 104 15,p3 1 104] (.exit 1))
noncomputable def agt:gB :=
 p4 [p5 129 0,p3 130 1,p5 131 16,p5 132 3,p5 133 4,p2 134 [.cv (.func 69 [] []),.jm 129,.jm 130,.jm 131,.jm 132,.jm 133] (.call 1)] (qR [p3 135 16,qY 136 135 1,p3 1 136])
noncomputable def agu:gB :=
 p4 [p3 126 18,p3 127 20,qv 128 126 127 .geq,p3 10 128] agt
noncomputable def age:gB :=
 p4 [p5 140 0,p5 141 16,qY 142 141 1,p3 143 2,p5 144 3,p5 145 4,p2 146 [.cv (.func 69 [] []),.jm 140,.jm 142,.jm 143,.jm 144,.jm 145] (.call 1)] (qR [p3 147 16,p3 2 147])
noncomputable def agf:gB :=
 p4 [p3 137 19,p3 138 20,qv 139 137 138 .geq,p3 10 139] age
noncomputable def agh:gB :=
 p4 [p3 121 12,qw 122 121 8 .quo,p3 20 122] (p4 [p5 123 18,p5 124 19,qv 125 123 124 .lss] (.cond (.m_ 125) agu agf))
noncomputable def agi:gB :=
 p4 [p5 115 16,p5 116 1,qv 117 115 116 .sub,p5 118 2,p5 119 16,qv 120 118 119 .sub,p3 18 117,p3 19 120] agh
noncomputable def agj:gB :=
 p4 [p5 106 0,p5 107 1,p5 108 2,p3 109 13,p5 110 4,p2 111 [.cv (.func 85 [] []),.jm 106,.jm 107,.jm 108,.jm 109,.jm 110] (.call 1),p3 105 111,qn 112 105 0,p2 113 [.Bv 105] (.ext 1),p3 16 112,p3 17 113] (p4 [p3 114 17,p3 11 114] agi)
noncomputable def agk:gB :=
 .seq (.seq (q4 [p5 81 1,qw 82 81 0 .gtr,p3 83 82,ch 84 [.m_ 4] 83 true .mR,ch 85 [.m_ 0] 83 true .mR,ch 86 [.m_ 1] 83 true .mR,ch 87 [.Bv 86,.cv (.int .i64 1)] 83 true (.bin .sub),ch 88 [.Bv 85,.Bv 87] 83 true (.kV 3),ch 89 [.Bv 88] 83 true (.zH (.str 3)),ch 90 [.m_ 0] 83 true .mR,ch 91 [.m_ 13] 83 true .mR,ch 92 [.Bv 90,.Bv 91] 83 true (.kV 3),ch 93 [.Bv 92] 83 true (.zH (.str 3)),ch 94 [.m_ 84,.m_ 89,.m_ 93] 83 true (.call 6),ch 95 [.Bv 94,.cv (.int .i64 0)] 83 true (.bin .lss),ch 96 [.Bv 95] 83 true (.un .not),p2 97 [.m_ 83,.Bv 96,.cv (.bool false)] .pick]) (.cond (.m_ 97) ags .skip)) agj
noncomputable def agl:gB :=
 .seq (p4 [p5 68 10,p3 69 68,ch 70 [.m_ 11] 69 true .mR,p2 71 [.Bv 69,.Bv 70,.cv (.bool false)] .pick,p3 72 71,ch 73 [.jm 14] 72 true .mR,ch 74 [.Bv 73,.cv (.int .i64 1)] 72 true (.bin .eql),p2 75 [.Bv 72,.Bv 74,.cv (.bool false)] .pick] (.cond (.m_ 75) agr .skip)) agk
noncomputable def agm:gB :=
 p4 [p5 48 0,p5 49 1,p5 50 2,p5 51 4,p2 52 [.cv (.func 81 [] []),.jm 48,.jm 49,.jm 50,.jm 51] (.call 1),p3 47 52,qn 53 47 0,p2 54 [.Bv 47] (.ext 1),p3 13 53,p3 14 54] (.seq (p4 [p5 55 14,qw 56 55 2 .eql] (.cond (.m_ 56) agq .skip)) agl)
noncomputable def S3:gB :=
 .seq (p4 [p5 31 3,qw 32 31 0 .eql] (.cond (.m_ 32) agn .skip)) (.seq (p4 [p5 38 10,p2 39 [.Bv 38] (.un .not)] (.cond (.m_ 39) ago .skip)) agm)
noncomputable def Oy:gB :=
 .block 1 (p4 [p5 21 2,p5 22 1,qv 23 21 22 .sub,p3 12 23] (.seq (p4 [p5 24 12,qw 25 24 12 .leq] (.cond (.m_ 25) Ox .skip)) S3))
noncomputable def S2:gB :=
 p4 [p2 10 [.cv (.bool true)] .mR] (p4 [p2 11 [.cv (.bool true)] .mR] (.block 0 (.loop (some (qc false [0,5,5,2,136])) Oy)))
theorem WQ:qt Go.Proofs.Try.prog UM 69=some (S2,148,[]):=by kernel_rfl
noncomputable def agy:gB :=
 .block 3 (q4 [p5 37 0,p5 38 9,p5 39 0,p5 40 9,qw 41 40 1 .sub,p5 42 0,p5 43 9,qw 44 43 1 .sub,rk 45 42 44 3,p2 46 [.Bv 45] (.zH (.str 3)),p5 47 0,p5 48 9,rk 49 47 48 3,p2 50 [.Bv 49] (.zH (.str 3)),rk 51 37 38 3,⟨none,[.jm 51,.jm 46],none,none,.st 3⟩,rk 52 39 41 3,⟨none,[.jm 52,.jm 50],none,none,.st 3⟩])
noncomputable def agz:gB :=
 .seq (.seq (q4 [p5 18 9,p5 19 1,qv 20 18 19 .gtr,p3 21 20,ch 22 [.m_ 3] 21 true .mR,ch 23 [.m_ 0] 21 true .mR,ch 24 [.m_ 9] 21 true .mR,ch 25 [.Bv 23,.Bv 24] 21 true (.kV 3),ch 26 [.Bv 25] 21 true (.zH (.str 3)),ch 27 [.m_ 0] 21 true .mR,ch 28 [.m_ 9] 21 true .mR,ch 29 [.Bv 28,.cv (.int .i64 1)] 21 true (.bin .sub),ch 30 [.Bv 27,.Bv 29] 21 true (.kV 3),ch 31 [.Bv 30] 21 true (.zH (.str 3)),ch 32 [.m_ 22,.m_ 26,.m_ 31] 21 true (.call 6),ch 33 [.Bv 32,.cv (.int .i64 0)] 21 true (.bin .lss),p2 34 [.m_ 21,.Bv 33,.cv (.bool false)] .pick]) (.cond (.m_ 34) .skip (.exit 2))) (.seq agy (qR [p3 35 9,qw 36 35 1 .sub,p3 9 36]))
noncomputable def agA:gB :=
 .block 1 (p4 [p5 17 8,p3 9 17] (.block 2 (.loop (some (qc false [0,4,4,2,43])) agz)))
noncomputable def agB:gB :=
 .seq (p4 [p5 12 8,p5 13 2,qv 14 12 13 .lss] (.cond (.m_ 14) .skip (.exit 0))) (.seq agA (qR [p3 15 8,qY 16 15 1,p3 8 16]))
noncomputable def Tb:gB :=
 p4 [p5 10 1,qY 11 10 1,p3 8 11] (.block 0 (.loop (some (qc false [0,4,4,1,44])) agB))
theorem WS:qt Go.Proofs.Try.prog US 78=some (Tb,53,[]):=by kernel_rfl
end Go.Proofs.Ytkoioidpbbbaiaa.Ab


namespace Go.Proofs.Ytkoioidpbbbaiaa.Ab
open Go
set_option maxRecDepth 20000
set_option maxHeartbeats 4000000
def q2 (S:List qq) (j:Nat):qq:=ix S (j:Int)
def K1 (S:List qq) (j:Nat):List qq:=(S.set (j+1) (q2 S j)).set j (q2 S (j+1))
def N7 (x y:qq):Bool:=decide (w (x.1-y.1)<0)
def Ir:Nat→List qq→List qq
 | 0,S=>S
 | j+1,S=>if N7 (q2 S (j+1)) (q2 S j)=true then Ir j (K1 S j) else S
def I_:Nat→Nat→List qq→List qq
 | 0,_,S=>S
 | m+1,i,S=>I_ m (i+1) (Ir i S)
def Hk (S:List qq):List qq:=I_ (S.length-1) 1 S
theorem YP (S:List qq) (j:Nat):(K1 S j).length=S.length:=by simp [K1]
theorem V8:∀ (j:Nat) (S:List qq),(Ir j S).length=S.length
 | 0,S=>rfl
 | j+1,S=>by
   unfold Ir;split
   ·rw [V8 j,YP]
   ·rfl
theorem Yy (S:List qq) (i:Nat) (c:qq) (h:i<S.length):(((S.flatMap qm).set (i*3) (hX c.1)).set (i*3+1) (hX c.2.1)).set (i*3+2) (hX c.2.2)=(S.set i c).flatMap qm:=by
 induction S generalizing i with
 | nil=>exact absurd h (by simp)
 | cons s S a8 =>
   cases i with
   | zero=>rfl
   | succ i =>
     have:=a8 i (by simpa using h);show (((hX s.1::hX s.2.1::hX s.2.2::S.flatMap qm).set ((i+1)*3) (hX c.1)).set ((i+1)*3+1) (hX c.2.1)).set ((i+1)*3+2) (hX c.2.2)=hX s.1::hX s.2.1::hX s.2.2::(S.set i c).flatMap qm;rw [←this,show (i+1)*3=i*3+1+1+1 by omega];rfl
abbrev I4 (S:List qq):ar:=.cells (S.flatMap qm)
theorem adf {H:List ar} {id lo n:Nat} (bC:lo≤id) {S:List qq} (aI:S.length=n) (zd:n≤100) (ag:H[id]?=some (I4 S)) :
  Sem Try.prog (.fn 78) [.ref id 0 n none 3,hX 0,hX n,.func 50 [] []] H lo (.tuple []) (H.set id (I4 (Hk S))):=by
 have aE:=(sd.1 ag).1;refine rG eD WS rfl ⟨by simp,fun j ab ae=>by rw [sf (by omega)]⟩ fun Q bo=>?_;have CL:Nat.ble lo id=true:=tq bC;have gs:∀ c:ar,(H.set id c)[id]?=some c:=fun c=>by rw [sm aE]
 have Kz:∀ c e:ar,(H.set id c).set id e=H.set id e:=fun c e=>List.set_set ..;unfold Tb;conv=>whnf
 refine .intro (fun m T H'=>∃ (i:Nat) (S':List qq),1≤i∧(i≤n∨i=1)∧m=n-i∧S'.length=n∧I_ (n-i) i S'=Hk S∧T=qh 53 [(0,.ref id 0 n none 3),(1,hX 0),(2,hX n),(3,.func 50 [] []),(8,hX i)]∧H'=H.set id (I4 S')) (n-1) ⟨1,S,se _,.inr rfl,rfl,aI,by rw [←aI];rfl,rfl,?_⟩ ?_
 ·obtain ⟨ab,ae⟩:=sd.1 ag;rw [←ae,List.set_getElem_self]
 rintro m T H' ⟨i,S',acV,acW,rfl,pj,he,rfl,rfl⟩;have Vh:i<n→IntKind.i64.wrap ((i:Int)+1)=((i+1:Nat):Int):=fun _=>by rw [HX _ (by omega) (by omega)];omega
 conv=>whnf
 refine HO (fun aR=>?_) (fun aR=>?_)
 ·have HP:i<n:=by omega
  conv=>whnf
  refine .intro (fun j T H'=>∃ bK:List qq,j≤i∧bK.length=n∧Ir j bK=Ir i S'∧T=qh 53 [(0,.ref id 0 n none 3),(1,hX 0),(2,hX n),(3,.func 50 [] []),(8,hX i),(9,hX j)]∧H'=H.set id (I4 bK)) i ⟨S',se _,pj,rfl,rfl,rfl⟩ ?_;rintro j T H' ⟨bK,aw,RN,L7,rfl,rfl⟩;have pD:(bK.flatMap qm).length=bK.length*3:=IE qm 3 (fun _=>rfl) bK;conv=>whnf
  cases j with
  | zero =>
    (conv=>whnf);refine ⟨n-(i+1),by omega,i+1,bK,by omega,by omega,rfl,RN,?_,by rw [Vh HP];rfl,rfl⟩;rw [←he,show n-i=(n-(i+1))+1 by omega];show _=I_ (n-(i+1)) (i+1) (Ir i S');rw [←L7];rfl
  | succ y =>
    (have hw:IntKind.i64.wrap (((y+1:Nat):Int)-1)=(y:Int):=by rw [HX _ (by omega) (by omega)];omega);rw [decide_eq_true (show (0:Int)<((y+1:Nat):Int) by omega)];(conv=>whnf);refine ⟨by omega,?_⟩;(conv=>whnf);refine Ez (gs _) ?_;(have gJ:0≤((y+1:Nat):Int)∧((y+1:Nat):Int)<(bK.length:Int):=by omega);(have iP:0≤(y:Int)∧(y:Int)<(bK.length:Int):=by omega);(conv=>whnf);refine P7 qm 3 Hw bK ((y+1:Nat):Int) gJ rfl ?_;(conv=>whnf);refine KY qm 3 Hw bK ((y+1:Nat):Int) gJ 1 rfl ?_;(conv=>whnf);refine KY qm 3 Hw bK ((y+1:Nat):Int) gJ 2 rfl ?_;(conv=>whnf);rw [hw];refine ⟨by omega,?_⟩;(conv=>whnf);refine Ez (gs _) ?_;(conv=>whnf);refine P7 qm 3 Hw bK (y:Int) iP rfl ?_;(conv=>whnf);refine KY qm 3 Hw bK (y:Int) iP 1 rfl ?_;(conv=>whnf);refine KY qm 3 Hw bK (y:Int) iP 2 rfl ?_;(conv=>whnf);refine ⟨p6 (Ih (p6 rfl (p6 rfl (p6 rfl rfl)))) (p6 (Ih (p6 rfl (p6 rfl (p6 rfl rfl)))) rfl),[.agg [hX (q2 bK (y+1)).1,hX (q2 bK (y+1)).2.1,hX (q2 bK (y+1)).2.2],.agg [hX (q2 bK y).1,hX (q2 bK y).2.1,hX (q2 bK y).2.2]],rfl,hX (w ((q2 bK (y+1)).1-(q2 bK y).1)),rfl,ais rfl,rD,?_⟩;(conv=>whnf);have mq:decide (w ((q2 bK (y+1)).1-(q2 bK y).1)<0)=N7 (q2 bK (y+1)) (q2 bK y):=rfl;rw [mq];have h8:Ir (y+1) bK=if N7 (q2 bK (y+1)) (q2 bK y)=true then Ir y (K1 bK y) else bK:=rfl;cases ak:N7 (q2 bK (y+1)) (q2 bK y) with
    | false =>
      rw [ak,if_neg (by decide)] at h8;(conv=>whnf);refine ⟨n-(i+1),by omega,i+1,bK,by omega,by omega,rfl,RN,?_,by rw [Vh HP];rfl,rfl⟩;rw [←he,show n-i=(n-(i+1))+1 by omega];show _=I_ (n-(i+1)) (i+1) (Ir i S');rw [←L7,h8]
    | true =>
      rw [ak,if_pos rfl] at h8;(conv=>whnf);rw [hw];refine ⟨by omega,?_⟩;(conv=>whnf);refine Ez (gs _) ?_;(conv=>whnf);refine P7 qm 3 Hw bK (y:Int) iP rfl ?_;(conv=>whnf);refine KY qm 3 Hw bK (y:Int) iP 1 rfl ?_;(conv=>whnf);refine KY qm 3 Hw bK (y:Int) iP 2 rfl ?_;(conv=>whnf);refine ⟨by omega,?_⟩;(conv=>whnf);refine Ez (gs _) ?_;(conv=>whnf);refine P7 qm 3 Hw bK ((y+1:Nat):Int) gJ rfl ?_;(conv=>whnf);refine KY qm 3 Hw bK ((y+1:Nat):Int) gJ 1 rfl ?_;(conv=>whnf);refine KY qm 3 Hw bK ((y+1:Nat):Int) gJ 2 rfl ?_;(conv=>whnf);refine ⟨by omega,?_⟩;(conv=>whnf);rw [CL];refine Ez (gs _) ?_;(conv=>whnf);rw [show 0+((y+1:Nat):Int).toNat*3=(y+1)*3 by omega];refine Gr (by omega) ?_;(conv=>whnf);refine Gr (by rw [s8];omega) ?_;(conv=>whnf);refine Gr (by rw [s8,s8];omega) ?_;(conv=>whnf);have e1:=Yy bK (y+1) (q2 bK y) (by omega);obtain ⟨jw,RO⟩:∃ jw,jw=bK.set (y+1) (q2 bK y):=⟨_,rfl⟩;(have KN:jw.length=n:=by rw [RO,s8];exact RN);rw [←RO] at e1;have aje:(jw.flatMap qm).length=jw.length*3:=IE qm 3 (fun _=>rfl) jw;erw [e1,Kz];refine ⟨by omega,?_⟩;(conv=>whnf);rw [CL];refine Ez (gs _) ?_;(conv=>whnf);rw [show 0+(y:Int).toNat*3=y*3 by omega];refine Gr (by omega) ?_;(conv=>whnf);refine Gr (by rw [s8];omega) ?_;(conv=>whnf);refine Gr (by rw [s8,s8];omega) ?_;(conv=>whnf);have b9:=Yy jw y (q2 bK (y+1)) (by omega);erw [b9,Kz];(conv=>whnf);rw [hw];refine ⟨y,by omega,jw.set y (q2 bK (y+1)),by omega,by rw [s8];exact KN,?_,rfl,rfl⟩;rw [←L7,h8,RO];rfl
 ·have bj:n-i=0:=by omega
  rw [bj] at he;have he:S'=Hk S:=he;subst he;conv=>whnf
  exact bo _ _ _ ⟨.inl rfl,lF.refl _,rfl⟩
theorem afm {H:List ar} {id lo n:Nat} (bC:lo≤id) {S:List qq} {J2:Int} (aI:S.length=n) (zd:n≤12) (ag:H[id]?=some (I4 S)) :
  Sem Try.prog (.fn 69) [.ref id 0 n none 3,hX 0,hX n,hX J2,.func 50 [] []] H lo (.tuple []) (H.set id (I4 (Hk S))):=by
 refine rG eD WQ rfl ⟨by simp,fun j ab ae=>by rw [sf (by omega)]⟩ fun Q bo=>?_;unfold S2;obtain ⟨Rw,JO⟩:∃ c,Oy=c:=⟨_,rfl⟩;rw [JO];conv=>whnf
 refine .intro (fun m T H'=>T=qh 148 [(0,.ref id 0 n none 3),(1,hX 0),(2,hX n),(3,hX J2),(4,.func 50 [] []),(10,B true),(11,B true)]∧H'=H) 0 ⟨rfl,rfl⟩ ?_;rintro m T H' ⟨rfl,rfl⟩;subst JO;unfold Oy;obtain ⟨a7,cc⟩:∃ c,Ox=c:=⟨_,rfl⟩;obtain ⟨Rv,L1⟩:∃ c,S3=c:=⟨_,rfl⟩;rw [cc,L1];conv=>whnf
 rw [show IntKind.i64.wrap ((n:Int)-0)=(n:Int) by rw [HX _ (by omega) (by omega)];omega,decide_eq_true (show (n:Int)≤12 by omega)];conv=>whnf
 subst cc;unfold Ox;conv=>whnf
 refine ⟨_,_,rE (adf bC aI (by omega) ag),?_⟩;conv=>whnf
 exact bo _ _ _ ⟨.inr rfl,lF.refl _,rfl⟩
theorem ag0 {H:List ar} {id lo n:Nat} (bC:lo≤id) {S:List qq} (aI:S.length=n) (zd:n≤12) (ag:H[id]?=some (I4 S)) :
  Sem Try.prog (.fn 49) [.ref id 0 n none 3,.func 50 [] []] H lo (.tuple []) (H.set id (I4 (Hk S))):=by
 refine rG eD WM rfl ⟨by simp,fun j ab ae=>by rw [sf (by omega)]⟩ fun Q bo=>?_;unfold SR;conv=>whnf
 rw [show IntKind.u64.wrap (n:Int)=(n:Int) by rw [Zg];omega];refine ⟨by first | rfl | simp only [tB,t_,M4,Na,M5,M7,M6,M8,Nc,Nb,KW,M9,M_,M',tw,tX],_,Pe n zd,?_⟩
 conv=>whnf
 refine ⟨_,_,rE (afm bC aI zd ag),?_⟩;conv=>whnf
 exact bo _ _ _ ⟨.inl rfl,lF.refl _,rfl⟩
section
variable {H:List ar} {lo:Nat}
theorem adg:Sem Try.prog (.fn 78) [.av [] 0 .shared,hX 0,hX 0,.func 50 [] []] H lo (.tuple []) H:=by
 refine rG eD WS rfl (a'.refl _ _) fun Q bo=>?_;unfold Tb;conv=>whnf
 refine .intro (fun m T H'=>T=qh 53 [(0,.av [] 0 .shared),(1,hX 0),(2,hX 0),(3,.func 50 [] []),(8,hX 1)]∧H=H') 0 ⟨rfl,rfl⟩ ?_;rintro m T H' ⟨rfl,rfl⟩;conv=>whnf
 exact bo _ _ _ ⟨.inl rfl,lF.refl _,rfl⟩
theorem afn {J2:Int}:Sem Try.prog (.fn 69) [.av [] 0 .shared,hX 0,hX 0,hX J2,.func 50 [] []] H lo (.tuple []) H:=by
 refine rG eD WQ rfl (a'.refl _ _) fun Q bo=>?_;unfold S2;obtain ⟨Rw,JO⟩:∃ c,Oy=c:=⟨_,rfl⟩;rw [JO];conv=>whnf
 refine .intro (fun m T H'=>T=qh 148 [(0,.av [] 0 .shared),(1,hX 0),(2,hX 0),(3,hX J2),(4,.func 50 [] []),(10,B true),(11,B true)]∧H'=H) 0 ⟨rfl,rfl⟩ ?_;rintro m T H' ⟨rfl,rfl⟩;subst JO;unfold Oy;obtain ⟨a7,cc⟩:∃ c,Ox=c:=⟨_,rfl⟩;obtain ⟨Rv,L1⟩:∃ c,S3=c:=⟨_,rfl⟩;rw [cc,L1];conv=>whnf
 subst cc;unfold Ox;conv=>whnf
 refine ⟨_,_,rE adg,?_⟩;conv=>whnf
 exact bo _ _ _ ⟨.inr rfl,lF.refl _,rfl⟩
theorem ag1:Sem Try.prog (.fn 49) [.av [] 0 .shared,.func 50 [] []] H lo (.tuple []) H:=by
 refine rG eD WM rfl (a'.refl _ _) fun Q bo=>?_;unfold SR;conv=>whnf
 refine ⟨by first | rfl | simp only [tB,t_,M4,Na,M5,M7,M6,M8,Nc,Nb,KW,M9,M_,M',tw,tX],_,Pe 0 (by decide),?_⟩
 conv=>whnf
 refine ⟨_,_,rE afn,?_⟩;conv=>whnf
 exact bo _ _ _ ⟨.inl rfl,lF.refl _,rfl⟩
end

abbrev MF (p:qd) (qi:List (List Int)):List I:=[(.agg [(.av (p.1.flatMap p') p.1.length .shared),(hX p.2.1),(hX p.2.2)]),(.av (qi.map oW) qi.length (.uniq 1))]
theorem aii {eH:(List Int)} {re:Unit→Option ((Option (((List (Int×Int))×(Int×Int))×Unit))×Int)} {s2:Int} {p:((List (Int×Int))×(Int×Int))} {qi:(List (List Int))} {s1:Int} {v:((Option (((List (Int×Int))×(Int×Int))×Unit))×Int)} {Q:cN→List I→List ar→Prop}   (jG:∀ (e:Int) (T:List I),v=(none,e)→rX [rR p] T [.tmp 4,.tmp 5]=some [.eF,hX e]→Q .ret T [rR p]) (J0:∀ (qe:List I),re ()=some v→rr 48 [(2,(.ptr 0 0)),(8,(.av ((ix qi s1).map hX) (ix qi s1).length .shared)),(17,(.av (qi.map oW) qi.length (.own 1))),(18,(hX (qi.length:Int))),(19,(hX s1))] qe→Q (.exit 2) qe [ar.cells [(.av (p.1.flatMap p') p.1.length .shared),(hX p.2.1),(hX p.2.2)]]) {T:List I} (bZ:eW [false,false,true,false,false,false,false,false,true,false,false,false,false,false,false,false,false,true,true,true,false,false,false,false,false,false,true,true,true,false,false,false,false,false,false,false,false,false,false,false,false,false,false,false,false,false,false,false] T=qh 48 [(2,(.ptr 0 0)),(8,(.av ((ix qi s1).map hX) (ix qi s1).length .shared)),(17,(.av (qi.map oW) qi.length (.own 1))),(18,(hX (qi.length:Int))),(19,(hX s1)),(26,(.av (eH.map hX) eH.length .shared)),(27,(hX (eH.length:Int))),(28,(hX s2))]) (h:I3 eH re ql s2=some v) :
  dN Try.prog Lc 36 0 none Kv T [ar.cells [(.av (p.1.flatMap p') p.1.length .shared),(hX p.2.1),(hX p.2.2)]] Q:=by
 unfold Kv;skip;refine wp_loop bZ ?_;refine .intro (fun m T H=>∃ (s2:Int),T=qh 48 [(2,(.ptr 0 0)),(8,(.av ((ix qi s1).map hX) (ix qi s1).length .shared)),(17,(.av (qi.map oW) qi.length (.own 1))),(18,(hX (qi.length:Int))),(19,(hX s1)),(26,(.av (eH.map hX) eH.length .shared)),(27,(hX (eH.length:Int))),(28,(hX s2))]∧H=[ar.cells [(.av (p.1.flatMap p') p.1.length .shared),(hX p.2.1),(hX p.2.2)]]∧I3 eH re m s2=some v) ql ⟨s2,rfl,rfl,h⟩ ?_;clear h bZ;rintro m T H ⟨s2,rfl,rfl,h⟩;cases m
 ·exact r3 h
 rename_i m;rw [I3.eq_2] at h;conv=>whnf
 refine bs h (fun qS h=>?_) fun qS h=>?_
 ·rw [qS];conv=>whnf
  refine qN h id fun rH h=>?_;rw [rh hX eH s2 rH];conv=>whnf
  refine bs h (fun ra h=>?_) fun ra h=>?_
  ·rw [ra];(conv=>whnf);obtain rfl:=Option.some.inj h;exact jG _ _ rfl rfl
  ·rw [ra];(conv=>whnf);exact ⟨m,sC m,(w (s2+(1:Int))),rfl,rfl,h⟩
 ·rw [qS];conv=>whnf
  exact J0  _ h ⟨rfl,rfl⟩
theorem Zz {p:((List (Int×Int))×(Int×Int))} {qi:(List (List Int))} {qf:Unit→Option ((Option (((List (Int×Int))×(Int×Int))×Unit))×Int)} {s1:Int} {v:((Option (((List (Int×Int))×(Int×Int))×Unit))×Int)} {Q:cN→List I→List ar→Prop}   (jG:∀ (e:Int) (T:List I),v=(none,e)→rX [rR p] T [.tmp 4,.tmp 5]=some [.eF,hX e]→Q .ret T [rR p]) (rm:∀ (qe:List I),qf ()=some v→rr 48 [(2,(.ptr 0 0))] qe→Q (.exit 0) qe [ar.cells [(.av (p.1.flatMap p') p.1.length .shared),(hX p.2.1),(hX p.2.2)]]) {T:List I} (bZ:eW [false,false,true,false,false,false,false,false,false,false,false,false,false,false,false,false,false,true,true,true,false,false,false,false,false,false,false,false,false,false,false,false,false,false,false,false,false,false,false,false,false,false,false,false,false,false,false,false] T=qh 48 [(2,(.ptr 0 0)),(17,(.av (qi.map oW) qi.length (.own 1))),(18,(hX (qi.length:Int))),(19,(hX s1))]) (h:HI p qi qf ql s1=some v) :
  dN Try.prog Lc 36 0 none JJ T [ar.cells [(.av (p.1.flatMap p') p.1.length .shared),(hX p.2.1),(hX p.2.2)]] Q:=by
 unfold JJ;obtain ⟨HN,qI⟩:∃ c,Kv=c:=⟨_,rfl⟩;rw [qI];refine wp_loop bZ ?_;refine .intro (fun m T H=>∃ (s1:Int),T=qh 48 [(2,(.ptr 0 0)),(17,(.av (qi.map oW) qi.length (.own 1))),(18,(hX (qi.length:Int))),(19,(hX s1))]∧H=[ar.cells [(.av (p.1.flatMap p') p.1.length .shared),(hX p.2.1),(hX p.2.2)]]∧HI p qi qf m s1=some v) ql ⟨s1,rfl,rfl,h⟩ ?_;clear h bZ;rintro m T H ⟨s1,rfl,rfl,h⟩;cases m
 ·exact r3 h
 rename_i m;rw [HI.eq_2] at h;conv=>whnf
 refine bs h (fun qu h=>?_) fun qu h=>?_
 ·rw [qu];conv=>whnf
  refine qN h id fun qH h=>?_;rw [rh oW qi s1 qH];conv=>whnf
  obtain ⟨bh,qU,h⟩:=p9 h;refine ⟨qb.pl,_,TI qU,?_⟩;conv=>whnf
  obtain ⟨eH,ru,h⟩:=p9 h;refine ⟨(p6 (Jp rfl (p6 (IF (p6 (rT (fun _=>rfl) _ _ _) rfl)) rfl)) rfl),_,TH  ru,?_⟩;conv=>whnf
  subst qI;refine aii ?_ ?_ (by exact rfl) h
  ·exact fun e T bD ai=>jG e T bD ai
  ·intro  qe h qA;obtain ⟨rn,rfl⟩:=qA.ex;(conv=>whnf);refine bs h (fun rq h=>?_) fun rq h=>?_
   ·rw [rq];(conv=>whnf);obtain rfl:=Option.some.inj h;exact jG _ _ rfl rfl
   ·rw [rq];(conv=>whnf);exact ⟨m,sC m,(w (s1+(1:Int))),rfl,rfl,h⟩
 ·rw [qu];conv=>whnf
  exact rm  _ h ⟨rfl,rfl⟩
theorem aid {p:qd} {qi:List (List Int)} {e:Int} (h:rV p qi=some (none,e)):Sem Try.prog (.fn 36) (MF p qi) [] 0 (.tuple [.eF,hX e]) [rR p]:=by
 refine rG eD N8 rfl (Ja (sH _)) fun Q bo=>?_;have jG:∀ (cS:Int) (T:List I),((none,e):Option (qd×Unit)×Int)=(none,cS)→rX [rR p] T [.tmp 4,.tmp 5]=some [.eF,hX cS]→Q .ret T [rR p]:=fun cS T he ai=>by
  obtain rfl:=(Prod.mk.inj he).2;exact bo _ _ _ ⟨.inr rfl,lF.refl _,by rw [ai];rfl⟩
 unfold rV at h;unfold NI;obtain ⟨Le,rU⟩:∃ c,JJ=c:=⟨_,rfl⟩;rw [rU];conv=>whnf
 obtain ⟨aS,gJ,h⟩:=p9 h;refine ⟨qb.pl,_,My gJ,?_⟩;conv=>whnf
 refine bs h (fun gK h=>?_) fun gK h=>?_
 ·rw [gK];conv=>whnf
  obtain rfl:aS=e:=(Prod.mk.inj (Option.some.inj h)).2;exact jG _ _ rfl rfl
 ·rw [gK];conv=>whnf
  subst rU;refine Zz ?_ ?_ (by exact rfl) h
  ·exact fun e T bD ai=>jG e T bD ai
  ·intro  qe h qA;exact absurd (Prod.mk.inj (Option.some.inj h)).1 (by simp)
theorem aij {p:qd} {qi:List (List Int)} {t:qd×Unit} {e:Int} (h:rV p qi=some (some t,e)):t=(p,())∧e=0∧Sem Try.prog (.fn 36) (MF p qi) [] 0 (.tuple [.ptr 2 0,hX 0]) [rR p,.map [] 0,.cells [(.av (p.1.flatMap p') p.1.length .shared),(hX p.2.1),(hX p.2.2),.map 1]]:=by
 have ad:t=(p,())∧e=0:=by
  have aX:=h;unfold rV at aX;obtain ⟨aS,gJ,aX⟩:=p9 aX;split at aX
  ·cases aX
  ·exact Wr aX
 obtain ⟨rfl,rfl⟩:=ad;refine ⟨rfl,rfl,?_⟩;refine rG eD N8 rfl (Ja (sH _)) fun Q bo=>?_;unfold rV at h;unfold NI;obtain ⟨Le,rU⟩:∃ c,JJ=c:=⟨_,rfl⟩;rw [rU];conv=>whnf
 obtain ⟨aS,gJ,h⟩:=p9 h;refine ⟨qb.pl,_,My gJ,?_⟩;conv=>whnf
 refine bs h (fun gK h=>?_) fun gK h=>?_
 ·exact absurd (Prod.mk.inj (Option.some.inj h)).1 (by simp)
 ·rw [gK];conv=>whnf
  subst rU;refine Zz ?_ ?_ (by exact rfl) h
  ·exact fun e T bD ai=>absurd (Prod.mk.inj bD).1 (by simp)
  ·intro  qe h qA;obtain ⟨rn,rfl⟩:=qA.ex;(conv=>whnf);exact bo _ _ _ ⟨.inr rfl,lF.refl _,rfl⟩
section
variable {p:qd} {qi:List (List Int)}
theorem abC {e:Int} {lo:Nat} (h:rV p qi=some (none,e)):oU Try.prog 8 lo (.fn 36) (MF p qi) [] (.tuple [.eF,hX e]) [] :=
 ⟨_,EE (aid h),by
  show (k6 _ _ _ _ _ _ (.fn 36) (MF p qi) [] 0).bind _=_
  rw [ED];rfl⟩
theorem abE {t:qd×Unit} {e:Int} {lo:Nat} (h:rV p qi=some (some t,e)):oU Try.prog 8 lo (.fn 36) (MF p qi) [] (.tuple [.bR [(.av (p.1.flatMap p') p.1.length .shared),(hX p.2.1),(hX p.2.2),.map 0],hX 0]) [.map [] 0] :=
 ⟨_,EE (aij h).2.2,by
  show (k6 _ _ _ _ _ _ (.fn 36) (MF p qi) [] 0).bind _=_;rw [ED];have e1:dZ (bL [rR p,.map [] 0,.cells [(.av (p.1.flatMap p') p.1.length .shared),(hX p.2.1),(hX p.2.2),.map 1]] 0 1 0 6) [(.av (p.1.flatMap p') p.1.length .shared),(hX p.2.1),(hX p.2.2),.map 1]=some [(.av (p.1.flatMap p') p.1.length .shared),(hX p.2.1),(hX p.2.2),.map 0] :=
   rL (yZ (HF (fun _=>p6 rfl (p6 rfl rfl)) _ _ _)) (rL (yZ rfl) (rL (yZ rfl) (rL rfl Jb)))
  have b9:bL [rR p,.map [] 0,.cells [(.av (p.1.flatMap p') p.1.length .shared),(hX p.2.1),(hX p.2.2),.map 1]] 0 1 0 8 (.tuple [.ptr 2 0,hX 0])=some (.tuple [.bR [(.av (p.1.flatMap p') p.1.length .shared),(hX p.2.1),(hX p.2.2),.map 0],hX 0]) :=
   NW (rL (show (dZ (bL [rR p,.map [] 0,.cells [(.av (p.1.flatMap p') p.1.length .shared),(hX p.2.1),(hX p.2.2),.map 1]] 0 1 0 6) [(.av (p.1.flatMap p') p.1.length .shared),(hX p.2.1),(hX p.2.2),.map 1]).map I.bR=_ by rw [e1];rfl) (rL rfl Jb))
  show (match mapM (bL [rR p,.map [] 0,.cells [(.av (p.1.flatMap p') p.1.length .shared),(hX p.2.1),(hX p.2.2),.map 1]] 0 1 0 8) [],bL [rR p,.map [] 0,.cells [(.av (p.1.flatMap p') p.1.length .shared),(hX p.2.1),(hX p.2.2),.map 1]] 0 1 0 8 (.tuple [.ptr 2 0,hX 0]) with | some es',some v=>some (v,[]++[ar.map es' 0]) | _,_=>none)=_
  rw [b9];rfl⟩
end
end Go.Proofs.Ytkoioidpbbbaiaa.Ab


namespace Go.Proofs.Ytkoioidpbbbaiaa.Ab
open Go
noncomputable def SF:gB :=
 p4 [p5 33 9, p3 34 8, p2 35 [.jm 33, .jm 34] (.other (Oper.mk (some 35) (Op.call (Call.mk (Callee.builtin Builtin.copy) (Array.mk [Operand.tmp 33, Operand.tmp 34]) (Array.mk [43, 43]))) 3 "curl.go:142" (Array.mk [Edge.mk 0 Ground.data, Edge.mk 1 Ground.data]) none) 0)] (p4 [p3 36 9, p3 4 36, qg 5 0] .ret)
noncomputable def Oq:gB :=
 p4 [p5 30 8,qZ 31 30,p2 32 [.m_ 31,.Bv 31] (.z4 [.int .i64 0,.int .i64 0,.int .i64 0] 3 24),p3 9 32] SF
noncomputable def Ma:gB :=
 p4 [p5 28 8,p2 29 [.cv (.func 49 [] []),.jm 28,.cv (.func 50 [] [])] (.call 1)] Oq
noncomputable def SG:gB :=
 p4 [p5 20 6,p5 21 1,p2 22 [.cv (.func 48 [] []),.jm 20,.jm 21,.cv (.int .i64 0)] (.call 1),p3 23 6,p3 24 1,p2 25 [.cv (.func 48 [] []),.jm 23,.jm 24,.cv (.int .i64 1)] (.call 1),p2 26 [.Bv 22,.Bv 25] (.yE 2 1 [.av [] 0 .full] [0,1]),p2 27 [.cv (.func 47 [] []),.jm 26] (.call 1),⟨some 8,[.jm 27],none,some 27,.Bt⟩] Ma
noncomputable def XN:gB :=
 .seq (p4 [p5 17 7,qw 18 17 0 .neq] (.cond (.m_ 18) (p4 [p3 19 7,p2 4 [.cv (.av [] 0 .full)] (.nil 3),p3 5 19] .ret) .skip)) SG
noncomputable def XO:gB :=
 p4 [p2 11 [.Bv 2] (.zH (.str 3)),p5 12 1,p2 13 [.Bv 12] (.yE 1 1 [.av [] 0 .full] [0]),p2 14 [.cv (.func 36 [] []),.jm 11,.jm 13] (.call 8),p3 10 14,qn 15 10 0,p2 16 [.Bv 10] (.ext 1),p3 6 15,p3 7 16] XN
noncomputable def XM:gB :=
 p4 [p2 2 [.jm 0] .yB,p2 4 [.cv (.av [] 0 .full)] (.nil 3),qg 5 0] XO
theorem adT:qt Go.Proofs.Try.prog Pa 22=some (XM,37,[.tmp 4,.tmp 5]):=by kernel_rfl
end Go.Proofs.Ytkoioidpbbbaiaa.Ab


namespace Go.Proofs.Ytkoioidpbbbaiaa.Ab
open Go
set_option maxRecDepth 20000
set_option maxHeartbeats 4000000
def Kq (p:qd) (order:List Int):Option (List qq×Int) :=
 (rV p [order]).bind fun r=>match r with
 | (none,q)=>if decide (q≠0)=true then some ([],q) else none
 | (some b,_)=>(LP b order 0).bind fun l1=>(LP b order 1).bind fun l2=>qx (l1.length+l2.length≤12) <| some (Hk (l1++l2),0)
theorem acj (b:Hi):Ia b 0 [.map [] 0]:=⟨[],0,rfl,fun e he=>absurd he (by simp)⟩
theorem V_:∀ (m i:Nat) (S:List qq),(I_ m i S).length=S.length
 | 0,_,_=>rfl
 | m+1,i,S=>by unfold I_;rw [V_ m,V8]
theorem YG (S:List qq):(Hk S).length=S.length:=V_ _ _ _
theorem agD (n:Nat) {a b c:I}:(e7 n [a,b,c]).length=n*3:=by
 induction n with
 | zero=>rfl
 | succ n a8=>show ([a,b,c]++e7 n [a,b,c]).length=_;rw [sE,a8];simp;omega
theorem Yp {S:List qq} {H:List ar} {id n:Nat} {cap:Option Nat} (ag:H[id]?=some (I4 S)) (aI:S.length=n):rowOf H (.ref id 0 n cap 3)=some (S.flatMap qm):=by
 have ao:(S.flatMap qm).length=S.length*3:=IE qm 3 (fun _=>rfl) S;simp only [rowOf,ag,sG,tt];rw [if_pos (by omega),tf (by omega),Se (Za (f:=qm) (fun _=>OK rfl (OK rfl (OK rfl Zb))) S)]
theorem agW {vs cs:List I} (h:vs.length=cs.length):setCells 0 vs cs=vs:=by
 apply List.ext_getElem?;intro j;rw [m8 _ _ _ _ (by omega)];by_cases aw:j<vs.length
 ·rw [if_pos ⟨by omega,by omega⟩];simp
 ·rw [if_neg (by omega),uT (by omega),uT (by omega)]
theorem abY {P:Program} {lo a b n:Nat} {H:List ar} {S:List qq} {cells:List I} {cap:Option Nat} {e:TypeId} {ts:Array TypeId} (e1:(ts[0]?).bind P.underlying=some (.slice e)) (b9:bE P e=some 3) (bC:lo≤a)
  (af:H[b]?=some (I4 S)) (aI:S.length=n) (cq:H[a]?=some (.cells cells)) (ak:cells.length=n*3):j7 P lo ts H [.ref a 0 n (some n) 3,.ref b 0 n cap 3]=some (.int .i64 (n:Int),H.set a (I4 S)):=by
 have ao:(S.flatMap qm).length=S.length*3:=IE qm 3 (fun _=>rfl) S;have cF:=Yp (cap:=cap) af aI;unfold j7;simp only [e1,b9,lenOf,cF,fP,cq,if_pos bC];rw [if_pos ⟨trivial,by omega⟩,if_pos (by omega),Nat.min_self,tf (by omega),agW (by omega)];rfl
theorem Vz {S:List qq} {H:List ar} {id n d:Nat} {cap:Option Nat} (aE:id<H.length) (ag:H[id]?=some (I4 S)) (aI:S.length=n):bL H 0 H.length 0 (d+2) (.ref id 0 n cap 3)=some (.av (S.flatMap qm) n (eZ cap n)):=by
 show (if id<0 then some (I.ref id 0 n cap 3) else if id=H.length then some (.ref 0 0 n cap 3) else match rowOf H (.ref id 0 n cap 3) with | some row=>(dZ (bL H 0 H.length 0 (d+1)) row).map fun cs=>.av cs n (eZ cap n) | none=>none)=_;rw [if_neg (by omega),if_neg (by omega),Yp ag aI];have lX:dZ (bL H 0 H.length 0 (d+1)) (S.flatMap qm)=some (S.flatMap qm):=zX fun u hu=>by
  obtain ⟨x,_,aj⟩:=List.mem_flatMap.1 hu;simp only [qm,sB,tT,or_false] at aj;rcases aj with rfl | rfl | rfl <;> rfl
 simp only [lX,Option.map_some]
theorem ahe {H2:List ar} {L:List qq} (fm:L.length≤12) {Tp:I} {Q:cN→List I→List ar→Prop}
  (bo:∀ T H,Ib [.tmp 4,.tmp 5] (.tuple [.av ((Hk L).flatMap qm) (Hk L).length .shared,hX 0]) .ret T H→Q .ret T H) :
  dN Try.prog Pa 22 0 none Ma (qh 37 [(4,.av [] 0 (.uniq 3)),(5,hX 0),(7,hX 0),(8,.ref H2.length 0 L.length none 3),(18,Tp),(27,.ref H2.length 0 L.length none 3)]) (H2++[I4 L]) Q:=by
 have DJ:(Hk L).length=L.length:=YG L;unfold Ma;obtain ⟨a9,b_⟩:∃ c,Oq=c:=⟨_,rfl⟩;rw [b_];conv=>whnf
 refine ⟨_,_,rE (ag0 (sH _) rfl fm (Jj _ _)),?_⟩;rw [H9];conv=>whnf
 subst b_;unfold Oq SF;conv=>whnf
 refine ⟨by omega,sK _,by omega,?_⟩;conv=>whnf
 rw [tx];refine ⟨_,_,fun C=>(Xb rfl).trans (abY (e:=54) (S:=Hk L) (by kernel_rfl) (by kernel_rfl) (sH _) (by exact VR (Jj _ _)) DJ (Jj _ _) (agD _)),?_⟩;conv=>whnf
 rw [H9];refine bo _ _ ⟨.inr rfl,[.ref (H2++[I4 (Hk L)]).length 0 L.length (some L.length) 3,hX 0],rfl,_,NW (rL (Vz (S:=Hk L) (by simp) (Jj _ _) DJ) (rL (yZ rfl) Jb)),?_⟩;have e1:eZ (some L.length) L.length=.full:=by simp [eZ]
 rw [e1,DJ];rfl
theorem abZ {P:Program} {lo a:Nat} {H:List ar} {cap:Option Nat} {c:hB} {e:TypeId} {ts:Array TypeId} (e1:(ts[0]?).bind P.underlying=some (.slice e)) (b9:bE P e=some 3) (bC:lo≤a) (cq:H[a]?=some (.cells [])):j7 P lo ts H [.ref a 0 0 cap 3,.av [] 0 c]=some (.int .i64 0,H.set a (.cells [])):=by
 unfold j7;simp only [e1,b9,lenOf,rowOf,fP,cq,if_pos bC];rfl
theorem ahf {H2:List ar} {Tp:I} {Q:cN→List I→List ar→Prop}
  (bo:∀ T H,Ib [.tmp 4,.tmp 5] (.tuple [.av (([]:List qq).flatMap qm) ([]:List qq).length .shared,hX 0]) .ret T H→Q .ret T H) :
  dN Try.prog Pa 22 0 none Ma (qh 37 [(4,.av [] 0 (.uniq 3)),(5,hX 0),(7,hX 0),(8,.av [] 0 (.uniq 3)),(18,Tp),(27,.av [] 0 .shared)]) H2 Q:=by
 unfold Ma;obtain ⟨a9,b_⟩:∃ c,Oq=c:=⟨_,rfl⟩;rw [b_];conv=>whnf
 refine ⟨_,_,rE ag1,?_⟩;conv=>whnf
 subst b_;unfold Oq SF;conv=>whnf
 refine ⟨by omega,sK _,by omega,?_⟩;conv=>whnf
 refine ⟨_,_,fun C=>(Xb rfl).trans (abZ (e:=54) (a:=H2.length) (by kernel_rfl) (by kernel_rfl) (sH _) (Jj _ _)),?_⟩;conv=>whnf
 rw [H9];refine bo _ _ ⟨.inr rfl,[.ref H2.length 0 0 (some 0) 3,hX 0],rfl,_,NW (rL (Vz (S:=[]) (by simp) (Jj _ _) rfl) (rL (yZ rfl) Jb)),rfl⟩
theorem Qr {p:qd} {order:List Int} {v:List qq×Int} (h:Kq p order=some v):qy 22 [.agg [.av (p.1.flatMap p') p.1.length .shared,hX p.2.1,hX p.2.2],.av (order.map hX) order.length .shared] (.tuple [.av (v.1.flatMap qm) v.1.length .shared,hX v.2]):=by
 unfold Kq at h;obtain ⟨⟨aS,bh⟩,ai,h⟩:=p9 h;refine qQ eD adT rfl (Jq (p6 (HF (fun _=>p6 rfl (p6 rfl (p6 rfl rfl))) _ _ _) (p6 rfl rfl))) fun Q bo=>?_;have jG:∀ T H,Ib [.tmp 4,.tmp 5] (.tuple [.av (v.1.flatMap qm) v.1.length .shared,hX v.2]) .ret T H→Q .ret T H:=fun T H bD=>bo _ T H bD;unfold XM XO XN;obtain ⟨br,eP⟩:∃ c,SG=c:=⟨_,rfl⟩;rw [eP];conv=>whnf
 refine ⟨rfl,?_⟩;conv=>whnf
 rcases aS with _ | b
 ·refine ⟨_,_,abC ai,?_⟩;conv=>whnf
  refine bs h (fun af h=>?_) fun af h=>?_
  ·rw [af];(conv=>whnf);obtain rfl:=Option.some.inj h;exact jG _ _ (IG rfl rfl)
  ·cases h
 ·obtain ⟨rfl,rfl,_⟩:=OX ai;refine ⟨_,_,abE ai,?_⟩;obtain ⟨l1,ab,h⟩:=p9 h;obtain ⟨l2,ae,h⟩:=p9 h;obtain ⟨aI,h⟩:=rZ h;obtain rfl:=Option.some.inj h;obtain ⟨H1,aJ,Dd,f1,e1,s1⟩:=ZF ab (m:=0) (lo:=0) (se 0) (acj (p,()));obtain ⟨H2,aN,pN,f2,b9,s2⟩:=ZF ae (m:=0) (lo:=0) (se 0) f1;have bm:=abW (l1:=l1) (l2:=l2) (H:=H2) (lo:=0) (by omega);subst eP;unfold SG;by_cases he:(l1++l2).length≠0
  ·rcases Dd with rfl | rfl | rfl <;> rcases pN with rfl | rfl | rfl
   all_goals
    obtain ⟨a9,b_⟩:∃ c,Ma=c:=⟨_,rfl⟩;rw [b_];(conv=>whnf);refine ⟨_,_,rE s1,?_⟩;(conv=>whnf);refine ⟨_,_,rE s2,?_⟩;(conv=>whnf);refine ⟨_,_,rE bm,?_⟩;(conv=>whnf);refine .inl ⟨he,?_⟩;(conv=>whnf);subst b_;exact ahe (H2:=H2) (L:=l1++l2) (by simp;omega) jG
  ·(have ajd:l1.length+l2.length=0:=by simp at he;simp [he]);obtain rfl:=sP.1 (show l1.length=0 by omega);obtain rfl:=sP.1 (show l2.length=0 by omega);rcases Dd with rfl | rfl | rfl <;> rcases pN with rfl | rfl | rfl
   all_goals
    obtain ⟨a9,b_⟩:∃ c,Ma=c:=⟨_,rfl⟩;rw [b_];(conv=>whnf);refine ⟨_,_,rE s1,?_⟩;(conv=>whnf);refine ⟨_,_,rE s2,?_⟩;(conv=>whnf);refine ⟨_,_,rE bm,?_⟩;(conv=>whnf);refine .inr ⟨rfl,?_⟩;(conv=>whnf);subst b_;exact ahf (H2:=H2) jG
end Go.Proofs.Ytkoioidpbbbaiaa.Ab


namespace Go.Proofs.Ytkoioidpbbbaiaa.Ab
open Go
set_option maxRecDepth 20000
set_option maxHeartbeats 1000000
theorem VJ (S:List qq) (j k:Nat) (c:qq) (aw:j<S.length):q2 (S.set j c) k=if k=j then c else q2 S k:=by
 unfold q2 ix;rw [tx,sA,tI,sA];by_cases e:j=k
 ·subst e;simp [aw]
 ·rw [if_neg e,if_neg (Ne.symm e)]
theorem acn {S:List qq} {j:Nat} (aw:j+1<S.length) (k:Nat):q2 (K1 S j) k=if k=j then q2 S (j+1) else if k=j+1 then q2 S j else q2 S k:=by
 unfold K1;rw [VJ _ _ _ _ (by simp;omega),VJ _ _ _ _ aw]
theorem ahc {S:List qq} {j:Nat} (aw:j+1<S.length):(K1 S j).Perm S:=by
 have:=Sort.perm_set_set S (j+1) j aw (by omega);unfold K1;have e1:q2 S j=S[j]:=rB (by omega);have b9:q2 S (j+1)=S[j+1]:=rB aw;rw [e1,b9];exact this
theorem V9:∀ (j:Nat) (S:List qq),j<S.length→(∀ c∈S,0≤c.1∧c.1≤1000)→(∀ a b,a<b→b<j→(q2 S a).1≤(q2 S b).1) →
  (Ir j S).Perm S∧(∀ k,j<k→q2 (Ir j S) k=q2 S k)∧(∀ a b,a<b→b≤j→(q2 (Ir j S) a).1≤(q2 (Ir j S) b).1)∧∀ a,a≤j→∃ b,b≤j∧q2 (Ir j S) a=q2 S b
 | 0,S,_,_,_=>⟨.refl _,fun _ _=>rfl,fun a b ab ae=>by omega,fun a cq=>⟨a,cq,rfl⟩⟩
 | j+1,S,aw,ak,ah=>by
   have hm:∀ k,k<S.length→0≤(q2 S k).1∧(q2 S k).1≤1000:=fun k al=>ak _ (Kn (by omega));have c9:=hm j (by omega);have c_:=hm (j+1) aw;unfold Ir N7;rw [qK (by omega)];by_cases aR:(q2 S (j+1)).1-(q2 S j).1<0
   ·rw [if_pos (decide_eq_true aR)];have aO:=acn aw;have aB:=ahc aw
    obtain ⟨i1,i2,i3,i4⟩:=V9 j (K1 S j) (by rw [YP];omega) (fun c h=>ak c (aB.mem_iff.1 h)) (fun a b ab ae=>by
     rw [aO,aO,if_neg (by omega),if_neg (by omega),if_neg (by omega),if_neg (by omega)]
     exact ah a b ab (by omega))
    refine ⟨i1.trans aB,fun k al=>?_,fun a b ab ae=>?_,fun a cq=>?_⟩
    ·rw [i2 k (by omega),aO,if_neg (by omega),if_neg (by omega)]
    ·by_cases e:b=j+1
     ·subst e;rw [i2 (j+1) (by omega),aO (j+1),if_neg (by omega),if_pos rfl];obtain ⟨c,aF,ba⟩:=i4 a (by omega);rw [ba,aO c];by_cases b9:c=j
      ·rw [if_pos b9];omega
      ·rw [if_neg b9,if_neg (by omega)];exact ah c j (by omega) (by omega)
     ·exact i3 a b ab (by omega)
    ·by_cases e:a=j+1
     ·subst e;rw [i2 (j+1) (by omega),aO (j+1),if_neg (by omega),if_pos rfl];exact ⟨j,by omega,rfl⟩
     ·obtain ⟨c,aF,ba⟩:=i4 a (by omega);rw [ba,aO c];by_cases b9:c=j
      ·rw [if_pos b9];exact ⟨j+1,by omega,rfl⟩
      ·rw [if_neg b9,if_neg (by omega)];exact ⟨c,by omega,rfl⟩
   ·rw [if_neg (by simpa using aR)];refine ⟨.refl _,fun _ _=>rfl,fun a b ab ae=>?_,fun a cq=>⟨a,cq,rfl⟩⟩;by_cases e:b=j+1
    ·subst e;by_cases b9:a=j
     ·subst b9;omega
     ·have:=ah a j (by omega) (by omega);omega
    ·exact ah a b ab (by omega)
theorem V':∀ (m i:Nat) (S:List qq),i+m=S.length→(∀ c∈S,0≤c.1∧c.1≤1000)→(∀ a b,a<b→b<i→(q2 S a).1≤(q2 S b).1) →
  (I_ m i S).Perm S∧∀ a b,a<b→b<S.length→(q2 (I_ m i S) a).1≤(q2 (I_ m i S) b).1
 | 0,i,S,h,_,ah=>⟨.refl _,fun a b ab ae=>ah a b ab (by omega)⟩
 | m+1,i,S,h,ak,ah=>by
   obtain ⟨i1,_,i3,_⟩:=V9 i S (by omega) ak ah;have ao:=i1.length_eq;obtain ⟨dA,dq⟩:=V' m (i+1) (Ir i S) (by omega) (fun c h=>ak c (i1.mem_iff.1 h)) (fun a b ab ae=>i3 a b ab (by omega));unfold I_;exact ⟨dA.trans i1,fun a b ab ae=>dq a b ab (by omega)⟩
theorem ag2 {S:List qq} (ak:∀ c∈S,0≤c.1∧c.1≤1000):(Hk S).Perm S∧(Hk S).Pairwise fun a b=>a.1≤b.1:=by
 unfold Hk;by_cases aQ:S.length=0
 ·obtain rfl:=sP.1 aQ;exact ⟨.refl _,.nil⟩
 ·obtain ⟨ab,ae⟩:=V' (S.length-1) 1 S (by omega) ak (fun a b ab ae=>by omega);refine ⟨ab,vN.2 fun i j hi aw h7=>?_⟩;have:=ae i j h7 (by rw [←ab.length_eq];exact aw);have e1:∀ k (al:k<(I_ (S.length-1) 1 S).length),q2 (I_ (S.length-1) 1 S) k=(I_ (S.length-1) 1 S)[k]:=fun k al=>rB al;rw [e1 i hi,e1 j aw] at this;exact this
theorem W' {n:Int}:∀ {l:List qq} {m:Int},l.Pairwise (fun a b=>a.1<b.1)→(∀ c∈l,m≤c.1∧c.1<n∧qV c.2)→r2 n l m
 | [],_,_,_=>trivial
 | c::r,m,aB,ak=>by
   obtain ⟨ab,ae⟩:=List.pairwise_cons.1 aB;have aF:=ak c (by simp)
   exact ⟨aF.1,aF.2.1,aF.2.2,W' ae fun dR aX=>by
    have:=ab dR aX;have ba:=ak dR (by simp [aX])
    exact ⟨by omega,ba.2⟩⟩
theorem W_ {n:Int}:∀ {l:List qq} {m:Int},r2 n l m→∀ c∈l,m≤c.1
 | [],_,_,c,ak=>absurd ak (by simp)
 | c::r,m,h,dR,ak=>by
   rcases sB.1 ak with rfl | aX
   ·exact h.1
   ·have:=W_ h.2.2.2 dR aX;have:=h.1;omega
theorem Wc {α:Type} [Inhabited α] {S:List α} {j k:Int} {c:α} (aw:0≤j∧j<(S.length:Int)) (al:0≤k):ix (S.set j.toNat c) k=if k=j then c else ix S k:=by
 unfold ix;rw [sA,tI,sA];by_cases e:k=j
 ·subst e;rw [if_pos rfl,if_pos rfl,if_pos (by omega)];rfl
 ·rw [if_neg (by omega),if_neg e]
theorem Mf {n:Int}:∀ {l:List qq} {S:List qE} {m:Int},r2 n l m→0≤m→(S.length:Int)=n→∀ {j:Int},0≤j→(∀ c∈l,c.1≠j)→ix (q7 l S) j=ix S j
 | [],_,_,_,_,_,_,_,_=>rfl
 | c::r,S,m,h,hm,cl,j,aw,ak=>by
   have ab:=h.1;have ae:=h.2.1;unfold q7;rw [Mf h.2.2.2 (by omega) (by simpa using cl) aw fun dR aX=>ak dR (by simp [aX]),Wc (by omega) aw,if_neg fun e=>ak c (by simp) e.symm]
theorem OC {n:Int}:∀ {l:List qq} {S:List qE} {m:Int},r2 n l m→0≤m→(S.length:Int)=n→∀ {c:qq},c∈l→ix (q7 l S) c.1=c.2
 | [],_,_,_,_,_,_,ak=>absurd ak (by simp)
 | c::r,S,m,h,hm,cl,dR,ak=>by
   have ab:=h.1;have ae:=h.2.1;unfold q7;rcases sB.1 ak with rfl | aX
   ·rw [Mf h.2.2.2 (by omega) (by simpa using cl) (by omega) fun a9 ae=>by have:=W_ h.2.2.2 a9 ae;omega,Wc (by omega) (by omega),if_pos rfl]
   ·exact OC h.2.2.2 (by omega) (by simpa using cl) aX
section
variable {p:qd} {o:List Int}
def Jm (n a:Nat):Nat→List Int
 | 0=>[]
 | i+1=>if i % 2=a∧0<qz n i then Jm n a i++[(i:Int)] else Jm n a i
theorem Rz (h:qW p) (k:qs p.1.length o) {a:Nat}:∀ (m i:Nat),i≤o.length→o.length-i=m→(∀ j,j<i→j % 2=a→¬ H0 p o a j) →
  (∃ (j:Nat) (s:qE),JM (p,()) o (a:Int) ((qo o.length).drop i) i (Jm o.length a i)=some (j+1,.inl [(ix o (j:Int),s)])∧j<o.length∧j % 2=a∧qV s∧Jh p o a j s) ∨
  (JM (p,()) o (a:Int) ((qo o.length).drop i) i (Jm o.length a i)=some (o.length,.inr (Jm o.length a o.length))∧∀ j,j<o.length→j % 2=a→¬ H0 p o a j)
 | 0,i,hi,hm,fp=>by
   (obtain rfl:i=o.length:=by omega);refine .inr ⟨?_,fp⟩;rw [vi (by rw [JH];omega)];rfl
 | m+1,i,hi,hm,fp=>by
   (have aR:i<o.length:=by omega);have e1:(qo o.length).drop i=(i:Int)::(qo o.length).drop (i+1):=by
    rw [s9 (by rw [JH];omega)];congr 1;rw [←rB,R_ aR]
   rw [e1,JM,Nj];by_cases a_:i % 2=a
   ·rw [if_neg (by omega)];rcases ZH h k (a:=a) aR with ⟨s,ab,ae,aF⟩ | ⟨ab,ae⟩
    ·refine .inl ⟨i,s,?_,aR,a_,ae,aF⟩;rw [ab,sc,if_pos rfl]
    ·rw [ab,sc,if_neg (by decide),QF (b:=(p,())) (qs.len h k) k.1.symm aR,sc];have b9:(if 0<qz o.length i then Jm o.length a i++[(i:Int)] else Jm o.length a i)=Jm o.length a (i+1):=by
      rw [Jm];by_cases aB:0<qz o.length i
      ·rw [if_pos aB,if_pos ⟨a_,aB⟩]
      ·rw [if_neg aB,if_neg fun k=>aB k.2]
     rw [b9];refine Rz h k m (i+1) (by omega) (by omega) fun j aw Pw=>?_;by_cases e:j=i
     ·subst e;exact ae
     ·exact fp j (by omega) Pw
   ·rw [if_pos (by omega)];(have b9:Jm o.length a (i+1)=Jm o.length a i:=by rw [Jm,if_neg fun k=>a_ k.1]);rw [←b9];refine Rz h k m (i+1) (by omega) (by omega) fun j aw Pw=>?_;by_cases e:j=i
    ·subst e;exact absurd Pw a_
    ·exact fp j (by omega) Pw
structure aaA (p:qd) (o:List Int) (a:Nat) (l:List qq):Prop where
 len:l.length=rb p o a
 own:∀ c∈l,qV c.2∧∃ i:Nat,i<o.length∧i % 2=a∧c.1=ix o (i:Int)
 W4:(l.map (·.1)).Nodup
 flat:∀ S':List qE,(∀ i:Nat,i<o.length→i % 2=a→(∀ c∈l,c.1=ix o (i:Int)→qp S' o i=c.2)∧((∀ c∈l,c.1≠ix o (i:Int))→qp S' o i=qp p.1 o i))→∀ d,d=p.2.1∨d=p.2.2→ri S' o a (q_ d)=0
theorem JC {o:List Int} (h:o.Nodup) {i j:Nat} (hi:i<o.length) (aw:j<o.length) (e:ix o (i:Int)=ix o (j:Int)):i=j:=by
 rw [rB hi,rB aw] at e;exact (List.getElem_inj h).1 e
theorem Oc (S:List qE) (o:List Int) {a i:Nat} (f:qE→Int) (hi:i<o.length) (cq:i % 2=a):ri S o a f=qP S o a [(i:Int)] f+qz o.length i*f (qp S o i):=by
 unfold ri qP;have key:∀ m,qO m (fun j=>if j % 2=a then qz o.length j*f (qp S o j) else 0)=qO m (fun j=>if j % 2=a∧(j:Int) ∉ [(i:Int)] then qz o.length j*f (qp S o j) else 0)+if i<m then qz o.length i*f (qp S o i) else 0:=by
  intro m
  induction m with
  | zero=>simp [qO]
  | succ m a8 =>
    simp only [qO];rw [a8];by_cases e:m=i
    ·subst e;rw [if_neg (show ¬ m<m by omega),if_pos cq,if_neg (by simp),if_pos (show m<m+1 by omega)]
    ·have dx:(m % 2=a∧(m:Int) ∉ [(i:Int)])↔m % 2=a:=⟨fun h=>h.1,fun h=>⟨h,by simp;omega⟩⟩;(have lX:i<m+1↔i<m:=by omega);simp only [dx,lX];omega
 rw [key,if_pos hi]
theorem Sk {S S':List qE} {o:List Int} {a i:Nat} {f:qE→Int} (h:∀ j,j<o.length→j % 2=a→j≠i→qp S' o j=qp S o j):qP S' o a [(i:Int)] f=qP S o a [(i:Int)] f:=by
 unfold qP;refine K0 fun j aw=>?_;by_cases a_:j % 2=a∧(j:Int) ∉ [(i:Int)]
 ·rw [if_pos a_,if_pos a_,h j aw a_.1 fun e=>a_.2 (by rw [e];simp)]
 ·rw [if_neg a_,if_neg a_]
theorem Sm {S S':List qE} {o:List Int} {a:Nat} {f:qE→Int} (h:∀ j,j<o.length→j % 2=a→qp S' o j=qp S o j):ri S' o a f=ri S o a f:=by
 unfold ri;refine K0 fun j aw=>?_;by_cases a_:j % 2=a
 ·rw [if_pos a_,if_pos a_,h j aw a_]
 ·rw [if_neg a_,if_neg a_]
theorem ae6 {S:List qE} {o:List Int} {f:qE→Int} (aI:o.length=7):ri S o 0 f=-3*f (qp S o 0)-f (qp S o 2)+f (qp S o 4)+3*f (qp S o 6):=by
 unfold ri;rw [aI];simp [qO,qz];omega
theorem PI {S:List qE} {o:List Int} {f:qE→Int} (aI:o.length=3):ri S o 1 f=0:=by
 unfold ri;rw [aI];simp [qO,qz]
theorem WX {S:List qE} {o:List Int} {a i:Nat} {f:qE→Int} (h:(o.length=3∧a=0∧i=2)∨(o.length=5∧a=0∧i=4)∨(o.length=5∧a=1∧i=3)∨(o.length=7∧a=1∧i=5)) :
  qP S o a [(i:Int)] f+qz o.length i*f (qp S o (o.length-1-i))=0:=by
 rcases h with ⟨aI,rfl,rfl⟩ | ⟨aI,rfl,rfl⟩ | ⟨aI,rfl,rfl⟩ | ⟨aI,rfl,rfl⟩
 ·unfold qP;rw [aI];simp [qO,qz];try omega
 ·unfold qP;rw [aI];simp [qO,qz];try omega
 ·unfold qP;rw [aI];simp [qO,qz];try omega
 ·unfold qP;rw [aI];simp [qO,qz];try omega
theorem Oa (h:qW p) (k:qs p.1.length o) {a i:Nat} (hi:(o.length=3∧a=0∧i=2)∨(o.length=5∧a=0∧i=4)∨(o.length=5∧a=1∧i=3)∨(o.length=7∧a=1∧i=5)):i<o.length∧i % 2=a∧H0 p o a i :=
 ⟨by omega,by omega,LZ.2 ⟨_,I1 h.s (r0 k) (i:=o.length-1-i) (by omega),WX hi,WX hi⟩⟩
theorem ZE (h:qW p) (k:qs p.1.length o) {a:Nat} (cq:a<2):∃ l,LP (p,()) o (a:Int)=some l∧aaA p o a l:=by
 have ac2:=qs.WC h k;have aI:=h.n;rw [←k.1] at aI;unfold LP;rw [qD (by omega),ZI h k,sc];by_cases aP:HA p o a
 ·rw [if_pos (decide_eq_true aP)];refine ⟨[],rfl,⟨by unfold rb;rw [if_pos aP];rfl,fun c ak=>absurd ak (by simp),by simp,fun S' pj d a1=>?_⟩⟩;rw [Sm fun j aw a_=>(pj j aw a_).2 (by simp)];rcases a1 with rfl | rfl
  ·exact aP.1
  ·exact aP.2
 ·rw [if_neg (by simpa using aP)];rcases Rz h k (a:=a) o.length 0 (by omega) rfl (fun j aw=>absurd aw (by omega)) with ⟨i,s,ab,ae,aF,ba,bO⟩ | ⟨ab,ae⟩
  ·have iO:JM (p,()) o (a:Int) (qo o.length) 0 []=_:=ab;rw [iO,sc];refine ⟨_,rfl,⟨?_,?_,by simp,?_⟩⟩
   ·unfold rb;rw [if_neg aP,if_pos ⟨i,ae,aF,LZ.2 ⟨s,ba,bO⟩⟩];rfl
   ·intro c ak;obtain rfl:=sS.1 ak;exact ⟨ba,i,ae,aF,rfl⟩
   ·intro S' pj d a1
    rw [Oc S' o _ ae aF,(pj i ae aF).1 (ix o (i:Int),s) (by simp) rfl,Sk fun j aw a_ bI=>(pj j aw a_).2 fun c ak=>by
     obtain rfl:=sS.1 ak
     exact fun e=>bI (JC k.2.1 ae aw e).symm]
    rcases a1 with rfl | rfl
    ·exact bO.1
    ·exact bO.2
  ·have iO:JM (p,()) o (a:Int) (qo o.length) 0 []=_:=ab;rw [iO,sc];simp only;have cL:o.length=7∧a=0:=by
    by_cases e:o.length=7∧a=0
    ·exact e
    ·exfalso;have fp:∀ i,¬ ((o.length=3∧a=0∧i=2)∨(o.length=5∧a=0∧i=4)∨(o.length=5∧a=1∧i=3)∨(o.length=7∧a=1∧i=5)):=fun i hi=>by
      obtain ⟨aJ,aN,b'⟩:=Oa h k hi;exact ae i aJ aN b'
     rcases (show a=0∨a=1 by omega) with rfl | rfl <;> rcases aI with aI | aI | aI
     ·exact fp 2 (.inl ⟨aI,rfl,rfl⟩)
     ·exact fp 4 (.inr (.inl ⟨aI,rfl,rfl⟩))
     ·exact e ⟨aI,rfl⟩
     ·exact aP ⟨PI aI,PI aI⟩
     ·exact fp 3 (.inr (.inr (.inl ⟨aI,rfl,rfl⟩)))
     ·exact fp 5 (.inr (.inr (.inr ⟨aI,rfl,rfl⟩)))
   obtain ⟨cL,rfl⟩:=cL;have jG:=r0 k;(have ad:Jm o.length 0 o.length=[4,6]:=by rw [cL];decide);(have aji:p.1.length=7:=by rw [←k.1];exact cL);have pY:JD (p,()) o [4,6] []=some [(ix o ((4:Nat):Int),qp p.1 o 2),(ix o ((6:Nat):Int),qp p.1 o 0)]:=by
    have hQ:=jG 0 (by omega);have bh:=jG 2 (by omega);(have ahr:w (w (((7:Nat):Int)-1)-4)=((2:Nat):Int):=by rw [qK (n:=((7:Nat):Int)-1) (by omega),qK (by omega)];omega);(have w0:w (w (((7:Nat):Int)-1)-6)=((0:Nat):Int):=by rw [qK (n:=((7:Nat):Int)-1) (by omega),qK (by omega)];omega);have s1:∀ out,JD (p,()) o [4,6] out=JD (p,()) o [6] (out++[(ix o ((4:Nat):Int),qp p.1 o 2)]):=fun out=>by
     rw [JD,cL,qD (by omega),ahr,qD (by omega),qD bh];rfl
    have s2:∀ out,JD (p,()) o [6] out=some (out++[(ix o ((6:Nat):Int),qp p.1 o 0)]):=fun out=>by
     rw [JD.eq_2,cL,qD (by omega),w0,qD (by omega),qD hQ];rfl
    rw [s1,s2];rfl
   rw [ad,pY];have ac7:ix o ((4:Nat):Int)≠ix o ((6:Nat):Int):=fun e=>absurd (JC k.2.1 (by omega) (by omega) e) (by decide);refine ⟨_,rfl,⟨?_,?_,?_,?_⟩⟩
   ·unfold rb;rw [if_neg aP,if_neg (by rintro ⟨i,aJ,aN,b'⟩;exact ae i aJ aN b')];rfl
   ·intro c ak;rcases sB.1 ak with rfl | ak
    ·exact ⟨I1 h.s jG (by omega),4,by omega,rfl,rfl⟩
    ·obtain rfl:=sS.1 ak;exact ⟨I1 h.s jG (by omega),6,by omega,rfl,rfl⟩
   ·simp only [sI,uD,tG,sS,tT,not_false_eq_true,List.nodup_nil,and_true];exact ac7
   ·intro S' pj d _;rw [ae6 cL];rw [(pj 4 (by omega) rfl).1 (ix o ((4:Nat):Int),qp p.1 o 2) (by simp) rfl,(pj 6 (by omega) rfl).1 (ix o ((6:Nat):Int),qp p.1 o 0) (by simp) rfl];have fp:∀ j:Nat,j<7→j≠4→j≠6→∀ c∈[(ix o ((4:Nat):Int),qp p.1 o 2),(ix o ((6:Nat):Int),qp p.1 o 0)],c.1≠ix o (j:Int):=by
     intro j aw ba bP c ak e;rcases sB.1 ak with rfl | ak
     ·exact ba (JC k.2.1 (by omega) (by omega) e).symm
     ·obtain rfl:=sS.1 ak;exact bP (JC k.2.1 (by omega) (by omega) e).symm
    rw [(pj 0 (by omega) rfl).2 (fp 0 (by omega) (by omega) (by omega)),(pj 2 (by omega) rfl).2 (fp 2 (by omega) (by omega) (by omega))];simp only;omega
theorem MN {q:qd} {o:List Int}:qX q o=0↔HA q o 0∧HA q o 1:=by
 unfold qX I7 HA;generalize q9 q o 0 q.2.1=a;generalize q9 q o 0 q.2.2=b;generalize q9 q o 1 q.2.1=c;generalize q9 q o 1 q.2.2=d;omega
theorem NA (aB:p.1.length≤1000) (ao:o.length≤12):∃ l,Kq p o=some (if rN p o=0 then (l,0) else ([],rN p o))∧(rN p o=0→l.length=rb p o 0+rb p o 1∧r2 p.1.length l 0∧qX (q7 l p.1,p.2) o=0):=by
 unfold Kq;rw [Qy aB ao,sc];by_cases rv:rN p o=0
 ·rw [if_pos rv];obtain ⟨h,k⟩:=KU.1 rv;obtain ⟨cu,f_,g6⟩:=ZE h k (a:=0) (by omega);obtain ⟨l1,e1,a7⟩:=ZE h k (a:=1) (by omega);have RA:LP (p,()) o 0=some cu:=f_;have RB:LP (p,()) o 1=some l1:=e1;have db:=NV p o 0;have bl:=NV p o 1;have ajm:=g6.len;have n1:=a7.len;have KN:=h.len;simp only;rw [RA,sc,RB,sc,qD (by omega)];refine ⟨Hk (cu++l1),by rw [if_pos rv],fun _=>?_⟩;have nO:∀ c∈cu++l1,qV c.2∧0≤c.1∧c.1<(p.1.length:Int):=by
   intro c ak;rcases s0.1 ak with ak | ak
   ·obtain ⟨aJ,i,aN,_,hn⟩:=g6.own c ak;rw [hn];exact ⟨aJ,r0 k i aN⟩
   ·obtain ⟨aJ,i,aN,_,hn⟩:=a7.own c ak;rw [hn];exact ⟨aJ,r0 k i aN⟩
  obtain ⟨s1,s2⟩:=ag2 (S:=cu++l1) fun c ak=>by have:=nO c ak;omega
  have acQ:∀ c∈cu,∀ dR∈l1,c.1≠dR.1:=by
   intro c ak dR JX e;obtain ⟨_,i,aN,b',hn⟩:=g6.own c ak;obtain ⟨_,j,c_,j1,k2⟩:=a7.own dR JX;have:=JC k.2.1 aN c_ (by rw [←hn,←k2];exact e);omega
  have jS:((Hk (cu++l1)).map (·.1)).Nodup:=by
   refine ((s1.map (·.1)).nodup_iff).2 ?_;rw [sT,uc];refine ⟨g6.W4,a7.W4,fun x aj y aY e=>?_⟩;obtain ⟨c,ak,rfl⟩:=sD.1 aj;obtain ⟨dR,JX,rfl⟩:=sD.1 aY;exact acQ c ak dR JX e
  have R5:r2 p.1.length (Hk (cu++l1)) 0:=by
   (refine W' ?_ fun c ak=>by have:=nO c (s1.mem_iff.1 ak);exact ⟨this.2.1,this.2.2,this.1⟩);have ac6:=vh.1 jS;exact (s2.and ac6).imp fun h=>by omega
  refine ⟨by rw [YG,sE];omega,R5,?_⟩;rw [MN];have pY:∀ i:Nat,i<o.length→(∀ c∈Hk (cu++l1),c.1≠ix o (i:Int))→qp (q7 (Hk (cu++l1)) p.1) o i=qp p.1 o i:=fun i hi ak =>
   Mf R5 (sK _) rfl (r0 k i hi).1 ak
  have hc:∀ i:Nat,∀ c∈Hk (cu++l1),c.1=ix o (i:Int)→qp (q7 (Hk (cu++l1)) p.1) o i=c.2:=fun i c ak e=>by
   have:=OC R5 (sK _) (S:=p.1) rfl ak;rw [e] at this;exact this
  have f0:=g6.flat (q7 (Hk (cu++l1)) p.1) fun i hi a_=>⟨fun c ak=>hc i c (s1.mem_iff.2 (s0.2 (.inl ak))),fun fp=>pY i hi fun c ak=>by
   rcases s0.1 (s1.mem_iff.1 ak) with ak | ak
   ·exact fp c ak
   ·obtain ⟨_,j,c_,j1,k2⟩:=a7.own c ak;intro e;have:=JC k.2.1 c_ hi (by rw [←k2];exact e)
    omega⟩
  have f1:=a7.flat (q7 (Hk (cu++l1)) p.1) fun i hi a_=>⟨fun c ak=>hc i c (s1.mem_iff.2 (s0.2 (.inr ak))),fun fp=>pY i hi fun c ak=>by
   rcases s0.1 (s1.mem_iff.1 ak) with ak | ak
   ·obtain ⟨_,j,c_,j1,k2⟩:=g6.own c ak;intro e;have:=JC k.2.1 c_ hi (by rw [←k2];exact e);omega
   ·exact fp c ak⟩
  exact ⟨⟨f0 _ (.inl rfl),f0 _ (.inr rfl)⟩,f1 _ (.inl rfl),f1 _ (.inr rfl)⟩
 ·rw [if_neg rv];simp only;rw [if_pos (by simpa using rv)];exact ⟨[],by rw [if_neg rv],fun h=>absurd h rv⟩
end
end Go.Proofs.Ytkoioidpbbbaiaa.Ab


namespace Go.Proofs.Ytkoioidpbbbaiaa.Ab
open Go
set_option maxRecDepth 20000
set_option maxHeartbeats 4000000

end Go.Proofs.Ytkoioidpbbbaiaa.Ab


namespace Go.Proofs.Ytkoioidpbbbaiaa.Ab
open Go
set_option maxRecDepth 20000
set_option maxHeartbeats 1000000
theorem ahk (n:Nat):(qo n).length=n:=by simp [qo]
theorem W5:∀ {a b:List Int},a.Nodup→(∀ x∈a,x∈b)→a.length≤b.length
 | [],b,_,_=>by simp
 | x::a,b,aI,ah=>by
   have aj:x∈b:=ah x (by simp);obtain ⟨ab,ae⟩:=tG.1 aI;have:=W5 (b:=b.erase x) ae fun y aY=>(List.mem_erase_of_ne (fun e=>ab (by rw [←e];exact aY))).2 (ah y (by simp [aY]));rw [tE aj] at this
   have:0<b.length:=List.length_pos_of_mem aj
   simp;omega
section
variable {o:List Int}
end
end Go.Proofs.Ytkoioidpbbbaiaa.Ab


namespace Go.Proofs.Ytkoioidpbbbaiaa.Ab
open Go
set_option maxRecDepth 20000
set_option maxHeartbeats 4000000
noncomputable def Yg:gB :=
 .ou false [p2 7 [.jm 18] .mR]
theorem ad7:eu Try.prog Kf (rz Try.prog 20 0) 0=some Yg:=by kernel_rfl
noncomputable def Yk:gB :=
 .block 1 (.seq (.ou false [p2 19 [.Bv 4] (.zH .one),p2 20 [.jm 7] .mR,p2 21 [.cv (.func 41 [] []),.m_ 19,.m_ 20] (.call 3),p2 22 [.Bv 21,.cv (.int .i64 0)] (.bin .eql)]) (.cond (.m_ 22) (.ou false [p2 23 [.m_ 6] (.zH .one),p2 24 [.Bv 23,.cv (.int .i64 1)] (.bin .add),⟨none,[.jm 6,.jm 24],none,none,.st 1⟩]) .skip))
theorem aea:eu Try.prog Kf (rA Try.prog 20 0) 0=some Yk:=by kernel_rfl
def Ky (b:qd×Unit) (s:Int) (o:List Int):Option Int:=(K5 b o).bind fun c=>some (if decide (c=0)=true then w (s+1) else s)
def JI (p:qd):Option (Int×Int) :=
 (rV p []).bind fun r=>match r with
 | (none,q)=>if decide (q≠0)=true then some (0,q) else none
 | (some b,q)=>if decide (q≠0)=true then some (0,q) else
   qx (0<b.1.1.length∧b.1.1.length≤7) <|
   (IJ (Ky b) (q' b.1.1.length (qo b.1.1.length)) 0).bind fun n=>some (n,0)
theorem agH {b:qd×Unit} {o:List Int} {g6:ar} {s t:Int} (ah:Ky b s o=some t) {yk fx gq Gl r4 HV u8 HW HS HT HU Nl Nm Nn u16 Np Nq Nr Ns Nt Nu Ju Nv Nw:I} (he:o≠[]) (Y:List ar) :
  ∃ Z,Sem Try.prog (.yield [g6,ar.cells [lj b],ar.cells [hX s]].length) [Ht o] (([g6,ar.cells [lj b],ar.cells [hX s]]++[ar.loop .ready none 20 [yk,fx,gq,Gl,.ptr 1 0,r4,.ptr 2 0,HV,u8,HW,HS,HT,HU,Nl,Nm,Nn,u16,Np,Nq,Nr,Ns,Nt,Nu,Ju,Nv,Nw] [18] (rz Try.prog 20 0) (rA Try.prog 20 0) Kf])++Y) 0 (.bool true) (([g6,ar.cells [lj b],ar.cells [hX t]]++[ar.loop .ready none 20 [yk,fx,gq,Gl,.ptr 1 0,r4,.ptr 2 0,HV,u8,HW,HS,HT,HU,Nl,Nm,Nn,u16,Np,Nq,Nr,Ns,Nt,Nu,Ju,Nv,Nw] [18] (rz Try.prog 20 0) (rA Try.prog 20 0) Kf])++(Y++Z)):=by
 refine ⟨[],?_⟩;rw [List.append_nil];obtain ⟨f_,e,rfl⟩:=List.exists_cons_of_ne_nil he;unfold Ky at ah;obtain ⟨c,ak,ah⟩:=p9 ah;obtain rfl:=Option.some.inj ah;refine P9 eD ad7 aea (I8 _ _ _) rfl (Ja (by simp)) ?_;unfold Yg;conv=>whnf
 refine ⟨rfl,I8 _ _ _,?_⟩;rw [J_];unfold Yk;conv=>whnf
 refine ⟨p6 (It b) (p6 (rT (fun _=>rfl) _ _ _) rfl),_,afx (OZ ak),?_⟩;conv=>whnf
 cases a1:decide (c=0)
 ·conv=>whnf
  show _∧(([g6,ar.cells [lj b],ar.cells [hX s]]++[ar.loop .busy none 20 [yk,fx,gq,Gl,.ptr 1 0,r4,.ptr 2 0,HV,u8,HW,HS,HT,HU,Nl,Nm,Nn,u16,Np,Nq,Nr,Ns,Nt,Nu,Ju,Nv,Nw] [18] (rz Try.prog 20 0) (rA Try.prog 20 0) Kf])++Y)[[g6,ar.cells [lj b],ar.cells [hX s]].length]?=_∧lF ((([g6,ar.cells [lj b],ar.cells [hX s]]++[ar.loop .busy none 20 [yk,fx,gq,Gl,.ptr 1 0,r4,.ptr 2 0,HV,u8,HW,HS,HT,HU,Nl,Nm,Nn,u16,Np,Nq,Nr,Ns,Nt,Nu,Ju,Nv,Nw] [18] (rz Try.prog 20 0) (rA Try.prog 20 0) Kf])++Y).set [g6,ar.cells [lj b],ar.cells [hX s]].length _) _;exact ⟨rfl,I8 _ _ _,by rw [J_];exact lF.refl _⟩
 ·conv=>whnf
  show _∧(([g6,ar.cells [lj b],ar.cells [hX (w (s+1))]]++[ar.loop .busy none 20 [yk,fx,gq,Gl,.ptr 1 0,r4,.ptr 2 0,HV,u8,HW,HS,HT,HU,Nl,Nm,Nn,u16,Np,Nq,Nr,Ns,Nt,Nu,Ju,Nv,Nw] [18] (rz Try.prog 20 0) (rA Try.prog 20 0) Kf])++Y)[[g6,ar.cells [lj b],ar.cells [hX (w (s+1))]].length]?=_∧lF ((([g6,ar.cells [lj b],ar.cells [hX (w (s+1))]]++[ar.loop .busy none 20 [yk,fx,gq,Gl,.ptr 1 0,r4,.ptr 2 0,HV,u8,HW,HS,HT,HU,Nl,Nm,Nn,u16,Np,Nq,Nr,Ns,Nt,Nu,Ju,Nv,Nw] [18] (rz Try.prog 20 0) (rA Try.prog 20 0) Kf])++Y).set [g6,ar.cells [lj b],ar.cells [hX (w (s+1))]].length _) _;exact ⟨rfl,I8 _ _ _,by rw [J_];exact lF.refl _⟩
theorem OO {p:qd} {v:Int×Int} (h:JI p=some v):qy 20 [.agg [.av (p.1.flatMap p') p.1.length .shared,hX p.2.1,hX p.2.2]] (.tuple [hX v.1,hX v.2]):=by
 unfold JI at h;obtain ⟨⟨aS,bh⟩,ai,h⟩:=p9 h;refine qQ eD adR rfl (Jq (p6 rfl (p6 rfl rfl))) fun Q bo=>?_;have jG:∀ T H,Ib [.tmp 2,.tmp 3] (.tuple [hX v.1,hX v.2]) .ret T H→Q .ret T H:=fun T H bD=>bo _ T H bD;unfold XD XF XE;obtain ⟨a7,cc⟩:∃ c,SA=c:=⟨_,rfl⟩;rw [cc];conv=>whnf
 refine ⟨qb.pl,_,NB ai,?_⟩;rcases aS with _ | b
 ·conv=>whnf
  refine bs h (fun af h=>?_) fun af h=>?_
  ·rw [af];(conv=>whnf);obtain rfl:=Option.some.inj h;exact jG _ _ (IG rfl rfl)
  ·cases h
 ·conv=>whnf
  refine bs h (fun af h=>?_) fun af h=>?_
  ·rw [af];(conv=>whnf);obtain rfl:=Option.some.inj h;exact jG _ _ (IG rfl rfl)
  ·rw [af];(conv=>whnf);subst cc;unfold SA;obtain ⟨⟨Dl,MT⟩,h⟩:=rZ h;obtain ⟨n,ao,h⟩:=p9 h;obtain rfl:=Option.some.inj h;obtain ⟨F,N1,L3,bF⟩:=Pq ao;obtain ⟨a9,b_⟩:∃ c,gB.AP (.m_ 17) [18] (rz Try.prog 20 0) (rA Try.prog 20 0)=c:=⟨_,rfl⟩;rw [b_];(conv=>whnf);refine ⟨p6 (It b) rfl,_,Tz (b:=b) (v:=()) rfl,?_⟩;(conv=>whnf);subst b_;have pv:[I.bR [lj b]].all (cn 7)=true:=p6 (IF (p6 (It b) rfl)) rfl;refine Yo (f:=Ht) (Yt (b:=b) MT Dl) (fun i=>[ar.cells [.av (p.1.flatMap p') p.1.length .shared,hX p.2.1,hX p.2.2],ar.cells [lj b],ar.cells [hX (F i)]]) (by exact rfl) (by rw [N1];exact rfl) (fun _=>rfl) ?_ (rl:=none) (by exact rfl) (Hn:=[ar.cells [.av (p.1.flatMap p') p.1.length .shared,hX p.2.1,hX p.2.2],ar.cells [lj b],ar.cells [hX n]]) (by rw [L3]) ?_
   ·intro i hi Y;exact agH (bF i hi) (Sb Dl _ (List.getElem_mem hi)) Y
   ·intro qM;(conv=>whnf);exact jG _ _ (IG rfl rfl)

noncomputable def ZU:gB :=
 p4 [p2 1 [.jm 0] .box,qg 2 0,qg 3 0] (p4 [p2 7 [.m_ 1] (.zH (.str 3)),p2 8 [.cv (.func 33 [] []),.m_ 7] (.call 3),p3 6 8,qn 9 6 0,p2 10 [.Bv 6] (.ext 1),p3 4 9,p3 5 10] (.seq (p4 [p5 11 5,qw 12 11 0 .neq] (.cond (.m_ 12) (p4 [p3 13 5,qg 2 0,p3 3 13] .ret) .skip)) (p4 [p2 14 [.Bv 1] (.zH (.str 3)),p3 15 4,p2 16 [.cv (.func 14 [] []),.m_ 14,.m_ 15] (.call 3),qn 17 16 0,p2 18 [.Bv 16] (.ext 1),p3 2 17,p3 3 18] .ret)))
theorem aem:qt Try.prog Un 32=some (ZU,19,[.tmp 2,.tmp 3]):=by kernel_rfl
def Lw (p:(qk×(Int×Int))):Option (Int×Int) :=
 (K2 p).bind fun aS =>
 if (decide (aS.2≠(0:Int)))=true then
  some ((0:Int),aS.2)
 else
  (H_ p aS.1).bind fun bh =>
  some (bh.1,bh.2)
theorem Zj {p:(qk×(Int×Int))} {v:(Int×Int)} (h:Lw p=some v):qy 32 [(.agg [(.av (p.1.flatMap p') p.1.length .shared),(hX p.2.1),(hX p.2.2)])] (.tuple [(hX v.1),(hX v.2)]):=by
 refine qQ eD aem rfl (Jq (p6 rfl (p6 rfl rfl))) fun Q bo=>?_;have jG:qL [.tmp 2,.tmp 3] Q (fun v=>(.tuple [(hX v.1),(hX v.2)])) v:=fun T H bD=>bo _ T H bD;unfold Lw at h;unfold ZU;conv=>whnf
 obtain ⟨aS,gJ,h⟩:=p9 h;refine ⟨qb.pl,_,Ts gJ,?_⟩;conv=>whnf
 refine bs h (fun gK h=>?_) fun gK h=>?_
 ·rw [gK];conv=>whnf
  exact p_ h jG rfl rfl
 ·rw [gK];conv=>whnf
  obtain ⟨bh,qu,h⟩:=p9 h;refine ⟨qb.pl,_,K4 qu,?_⟩;conv=>whnf
  exact p_ h jG rfl rfl

end Go.Proofs.Ytkoioidpbbbaiaa.Ab


namespace Go.Proofs.Ytkoioidpbbbaiaa.Ab
open Go
set_option maxRecDepth 20000
set_option maxHeartbeats 4000000
end Go.Proofs.Ytkoioidpbbbaiaa.Ab
