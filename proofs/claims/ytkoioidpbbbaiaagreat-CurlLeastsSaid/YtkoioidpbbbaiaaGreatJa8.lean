
import Derived.Test.YtkoioidpbbbaiaaGreatJa7
import Derived.KernelRfl
import Derived.Test.YtkoioidpbbbaiaaGreatJa5
import Derived.Test.YtkoioidpbbbaiaaGreatJa6
import Derived.Test.YtkoioidpbbbaiaaGreatProg
set_option linter.unusedSimpArgs false
set_option linter.unusedVariables false
set_option linter.unusedSectionVars false

open Bool renaming and_eq_true→su,and_true→tx,or_false→vS
open Int renaming le_refl→sY,toNat_natCast→tD
open List renaming append_assoc→sC,append_nil→sM,drop_eq_getElem_cons→sV,drop_of_length_le→uR,exists_cons_of_ne_nil→tY,filter_append→tE,filter_congr→uq,getD_eq_getElem?_getD→sB,getElem?_append_left→sk,getElem?_eq_getElem→sm,getElem?_eq_none→tO,getElem?_eq_some_iff→sd,getElem?_map→sq,getElem?_set→tK,getElem?_set_ne→sf,getElem?_set_self→sn,getElem_map→tX,getElem_mem→tt,length_append→sD,length_erase_of_mem→tR,length_filter_le→uS,length_map→sZ,length_take→s9,map_append→sR,map_set→tQ,mem_append→sU,mem_cons→sy,mem_filter→tc,mem_map→sH,mem_of_mem_drop→uC,mem_singleton→sK,nodup_append→tZ,nodup_cons→tU,not_mem_nil→uc,pairwise_cons→th,pairwise_iff_getElem→vN,range_succ→vm,take_of_length_le→tb,take_succ_eq_append_getElem→uP
open Nat renaming le_refl→se,lt_succ_self→sg,mul_one→tz,zero_add→sG,zero_le→sE
open Option renaming bind_some→sc,getD_none→vR,getD_some→tL
namespace Go.Proofs.YtkoioidpbbbaiaaGreat.Ab
open Go
set_option maxRecDepth 20000
set_option maxHeartbeats 1000000
theorem VA (S:List qC) (j k:Nat) (c:qC) (aw:j<S.length):q8 (S.set j c) k=if k=j then c else q8 S k:=by
 unfold q8 ix;rw [tD,sB,tK,sB];by_cases e:j=k
 ·subst e;simp [aw]
 ·rw [if_neg e,if_neg (Ne.symm e)]
theorem acT {S:List qC} {j:Nat} (aw:j+1<S.length) (k:Nat):q8 (Kf S j) k=if k=j then q8 S (j+1) else if k=j+1 then q8 S j else q8 S k:=by
 unfold Kf;rw [VA _ _ _ _ (by simp;omega),VA _ _ _ _ aw]
theorem ahJ {S:List qC} {j:Nat} (aw:j+1<S.length):(Kf S j).Perm S:=by
 have:=Sort.perm_set_set S (j+1) j aw (by omega);unfold Kf;have e1:q8 S j=S[j]:=rI (by omega);have b9:q8 S (j+1)=S[j+1]:=rI aw;rw [e1,b9];exact this
theorem V4:∀ (j:Nat) (S:List qC),j<S.length→(∀ c∈S,0≤c.1∧c.1≤1000)→(∀ a b,a<b→b<j→(q8 S a).1≤(q8 S b).1) →
  (Ic j S).Perm S∧(∀ k,j<k→q8 (Ic j S) k=q8 S k)∧(∀ a b,a<b→b≤j→(q8 (Ic j S) a).1≤(q8 (Ic j S) b).1)∧∀ a,a≤j→∃ b,b≤j∧q8 (Ic j S) a=q8 S b
 | 0,S,_,_,_=>⟨.refl _,fun _ _=>rfl,fun a b ab ae=>by omega,fun a cq=>⟨a,cq,rfl⟩⟩
 | j+1,S,aw,ak,ah=>by
   have hm:∀ k,k<S.length→0≤(q8 S k).1∧(q8 S k).1≤1000:=fun k al=>ak _ (J9 (by omega));have c9:=hm j (by omega);have c_:=hm (j+1) aw;unfold Ic NG;rw [qG (by omega)];by_cases aR:(q8 S (j+1)).1-(q8 S j).1<0
   ·rw [if_pos (decide_eq_true aR)];have aO:=acT aw;have aB:=ahJ aw
    obtain ⟨i1,i2,i3,i4⟩:=V4 j (Kf S j) (by rw [Y7];omega) (fun c h=>ak c (aB.mem_iff.1 h)) (fun a b ab ae=>by
     rw [aO,aO,if_neg (by omega),if_neg (by omega),if_neg (by omega),if_neg (by omega)]
     exact ah a b ab (by omega))
    refine ⟨i1.trans aB,fun k al=>?_,fun a b ab ae=>?_,fun a cq=>?_⟩
    ·rw [i2 k (by omega),aO,if_neg (by omega),if_neg (by omega)]
    ·by_cases e:b=j+1
     ·subst e;rw [i2 (j+1) (by omega),aO (j+1),if_neg (by omega),if_pos rfl];obtain ⟨c,aF,ba⟩:=i4 a (by omega);rw [ba,aO c];by_cases b9:c=j
      ·rw [if_pos b9];omega
      ·rw [if_neg b9,if_neg (by omega)];exact ah c j (by omega) (by omega)
     ·exact i3 a b ab (by omega)
    ·by_cases e:a=j+1
     ·subst e;rw [i2 (j+1) (by omega),aO (j+1),if_neg (by omega),if_pos rfl];exact ⟨j,by omega,rfl⟩
     ·obtain ⟨c,aF,ba⟩:=i4 a (by omega);rw [ba,aO c];by_cases b9:c=j
      ·rw [if_pos b9];exact ⟨j+1,by omega,rfl⟩
      ·rw [if_neg b9,if_neg (by omega)];exact ⟨c,by omega,rfl⟩
   ·rw [if_neg (by simpa using aR)];refine ⟨.refl _,fun _ _=>rfl,fun a b ab ae=>?_,fun a cq=>⟨a,cq,rfl⟩⟩;by_cases e:b=j+1
    ·subst e;by_cases b9:a=j
     ·subst b9;omega
     ·have:=ah a j (by omega) (by omega);omega
    ·exact ah a b ab (by omega)
theorem V6:∀ (m i:Nat) (S:List qC),i+m=S.length→(∀ c∈S,0≤c.1∧c.1≤1000)→(∀ a b,a<b→b<i→(q8 S a).1≤(q8 S b).1) →
  (IL m i S).Perm S∧∀ a b,a<b→b<S.length→(q8 (IL m i S) a).1≤(q8 (IL m i S) b).1
 | 0,i,S,h,_,ah=>⟨.refl _,fun a b ab ae=>ah a b ab (by omega)⟩
 | m+1,i,S,h,ak,ah=>by
   obtain ⟨i1,_,i3,_⟩:=V4 i S (by omega) ak ah;have ao:=i1.length_eq;obtain ⟨dA,dq⟩:=V6 m (i+1) (Ic i S) (by omega) (fun c h=>ak c (i1.mem_iff.1 h)) (fun a b ab ae=>i3 a b ab (by omega));unfold IL;exact ⟨dA.trans i1,fun a b ab ae=>dq a b ab (by omega)⟩
theorem ahz {S:List qC} (ak:∀ c∈S,0≤c.1∧c.1≤1000):(Hg S).Perm S∧(Hg S).Pairwise fun a b=>a.1≤b.1:=by
 unfold Hg;by_cases aQ:S.length=0
 ·obtain rfl:=List.length_eq_zero_iff.1 aQ;exact ⟨.refl _,.nil⟩
 ·obtain ⟨ab,ae⟩:=V6 (S.length-1) 1 S (by omega) ak (fun a b ab ae=>by omega);refine ⟨ab,vN.2 fun i j hi aw h7=>?_⟩;have:=ae i j h7 (by rw [←ab.length_eq];exact aw);have e1:∀ k (al:k<(IL (S.length-1) 1 S).length),q8 (IL (S.length-1) 1 S) k=(IL (S.length-1) 1 S)[k]:=fun k al=>rI al;rw [e1 i hi,e1 j aw] at this;exact this
theorem W_ {n:Int}:∀ {l:List qC} {m:Int},l.Pairwise (fun a b=>a.1<b.1)→(∀ c∈l,m≤c.1∧c.1<n∧q3 c.2)→HA n l m
 | [],_,_,_=>trivial
 | c::r,m,aB,ak=>by
   obtain ⟨ab,ae⟩:=th.1 aB;have aF:=ak c (by simp)
   exact ⟨aF.1,aF.2.1,aF.2.2,W_ ae fun dR aX=>by
    have:=ab dR aX;have ba:=ak dR (by simp [aX])
    exact ⟨by omega,ba.2⟩⟩
theorem W9 {n:Int}:∀ {l:List qC} {m:Int},HA n l m→∀ c∈l,m≤c.1
 | [],_,_,c,ak=>absurd ak (by simp)
 | c::r,m,h,dR,ak=>by
   rcases sy.1 ak with rfl | aX
   ·exact h.1
   ·have:=W9 h.2.2.2 dR aX;have:=h.1;omega
theorem V9 {α:Type} [Inhabited α] {S:List α} {j k:Int} {c:α} (aw:0≤j∧j<(S.length:Int)) (al:0≤k):ix (S.set j.toNat c) k=if k=j then c else ix S k:=by
 unfold ix;rw [sB,tK,sB];by_cases e:k=j
 ·subst e;rw [if_pos rfl,if_pos rfl,if_pos (by omega)];rfl
 ·rw [if_neg (by omega),if_neg e]
theorem S4 {n:Int}:∀ {l:List qC} {S:List qN} {m:Int},HA n l m→0≤m→(S.length:Int)=n→∀ {j:Int},0≤j→(∀ c∈l,c.1≠j)→ix (r4 l S) j=ix S j
 | [],_,_,_,_,_,_,_,_=>rfl
 | c::r,S,m,h,hm,cl,j,aw,ak=>by
   have ab:=h.1;have ae:=h.2.1;unfold r4;rw [S4 h.2.2.2 (by omega) (by simpa using cl) aw fun dR aX=>ak dR (by simp [aX]),V9 (by omega) aw,if_neg fun e=>ak c (by simp) e.symm]
theorem YL {n:Int}:∀ {l:List qC} {S:List qN} {m:Int},HA n l m→0≤m→(S.length:Int)=n→∀ {c:qC},c∈l→ix (r4 l S) c.1=c.2
 | [],_,_,_,_,_,_,ak=>absurd ak (by simp)
 | c::r,S,m,h,hm,cl,dR,ak=>by
   have ab:=h.1;have ae:=h.2.1;unfold r4;rcases sy.1 ak with rfl | aX
   ·rw [S4 h.2.2.2 (by omega) (by simpa using cl) (by omega) fun a9 ae=>by have:=W9 h.2.2.2 a9 ae;omega,V9 (by omega) (by omega),if_pos rfl]
   ·exact YL h.2.2.2 (by omega) (by simpa using cl) aX
section
variable {p:qn} {o:List Int}
def I5 (n a:Nat):Nat→List Int
 | 0=>[]
 | i+1=>if i % 2=a∧0<qI n i then I5 n a i++[(i:Int)] else I5 n a i
theorem Q8 (h:rk p) (k:qB p.1.length o) {a:Nat}:∀ (m i:Nat),i≤o.length→o.length-i=m→(∀ j,j<i→j % 2=a→¬ H_ p o a j) →
  (∃ (j:Nat) (s:qN),Ju (p,()) o (a:Int) ((qp o.length).drop i) i (I5 o.length a i)=some (j+1,.inl [(ix o (j:Int),s)])∧j<o.length∧j % 2=a∧q3 s∧I1 p o a j s) ∨
  (Ju (p,()) o (a:Int) ((qp o.length).drop i) i (I5 o.length a i)=some (o.length,.inr (I5 o.length a o.length))∧∀ j,j<o.length→j % 2=a→¬ H_ p o a j)
 | 0,i,hi,hm,fp=>by
   (obtain rfl:i=o.length:=by omega);refine .inr ⟨?_,fp⟩;rw [uR (by rw [LB];omega)];rfl
 | m+1,i,hi,hm,fp=>by
   (have aR:i<o.length:=by omega);have e1:(qp o.length).drop i=(i:Int)::(qp o.length).drop (i+1):=by
    rw [sV (by rw [LB];omega)];congr 1;rw [←rI,RQ aR]
   rw [e1,Ju,Lx];by_cases a_:i % 2=a
   ·rw [if_neg (by omega)];rcases ZT h k (a:=a) aR with ⟨s,ab,ae,aF⟩ | ⟨ab,ae⟩
    ·refine .inl ⟨i,s,?_,aR,a_,ae,aF⟩;rw [ab,sc,if_pos rfl]
    ·rw [ab,sc,if_neg (by decide),P4 (b:=(p,())) (qB.len h k) k.1.symm aR,sc];have b9:(if 0<qI o.length i then I5 o.length a i++[(i:Int)] else I5 o.length a i)=I5 o.length a (i+1):=by
      rw [I5];by_cases aB:0<qI o.length i
      ·rw [if_pos aB,if_pos ⟨a_,aB⟩]
      ·rw [if_neg aB,if_neg fun k=>aB k.2]
     rw [b9];refine Q8 h k m (i+1) (by omega) (by omega) fun j aw O2=>?_;by_cases e:j=i
     ·subst e;exact ae
     ·exact fp j (by omega) O2
   ·rw [if_pos (by omega)];(have b9:I5 o.length a (i+1)=I5 o.length a i:=by rw [I5,if_neg fun k=>a_ k.1]);rw [←b9];refine Q8 h k m (i+1) (by omega) (by omega) fun j aw O2=>?_;by_cases e:j=i
    ·subst e;exact absurd O2 a_
    ·exact fp j (by omega) O2
structure aaY (p:qn) (o:List Int) (a:Nat) (l:List qC):Prop where
 len:l.length=HZ p o a
 own:∀ c∈l,q3 c.2∧∃ i:Nat,i<o.length∧i % 2=a∧c.1=ix o (i:Int)
 W3:(l.map (·.1)).Nodup
 flat:∀ S':List qN,(∀ i:Nat,i<o.length→i % 2=a→(∀ c∈l,c.1=ix o (i:Int)→qP S' o i=c.2)∧((∀ c∈l,c.1≠ix o (i:Int))→qP S' o i=qP p.1 o i))→∀ d,d=p.2.1∨d=p.2.2→r2 S' o a (rf d)=0
theorem Ln {o:List Int} (h:o.Nodup) {i j:Nat} (hi:i<o.length) (aw:j<o.length) (e:ix o (i:Int)=ix o (j:Int)):i=j:=by
 rw [rI hi,rI aw] at e;exact (List.getElem_inj h).1 e
theorem afG (S:List qN) (o:List Int) {a i:Nat} (f:qN→Int) (hi:i<o.length) (cq:i % 2=a):r2 S o a f=qJ S o a [(i:Int)] f+qI o.length i*f (qP S o i):=by
 unfold r2 qJ;have key:∀ m,q6 m (fun j=>if j % 2=a then qI o.length j*f (qP S o j) else 0)=q6 m (fun j=>if j % 2=a∧(j:Int) ∉ [(i:Int)] then qI o.length j*f (qP S o j) else 0)+if i<m then qI o.length i*f (qP S o i) else 0:=by
  intro m
  induction m with
  | zero=>simp [q6]
  | succ m a8 =>
    simp only [q6];rw [a8];by_cases e:m=i
    ·subst e;rw [if_neg (show ¬ m<m by omega),if_pos cq,if_neg (by simp),if_pos (show m<m+1 by omega)]
    ·have dx:(m % 2=a∧(m:Int) ∉ [(i:Int)])↔m % 2=a:=⟨fun h=>h.1,fun h=>⟨h,by simp;omega⟩⟩;(have lX:i<m+1↔i<m:=by omega);simp only [dx,lX];omega
 rw [key,if_pos hi]
theorem afC {S S':List qN} {o:List Int} {a i:Nat} {f:qN→Int} (h:∀ j,j<o.length→j % 2=a→j≠i→qP S' o j=qP S o j):qJ S' o a [(i:Int)] f=qJ S o a [(i:Int)] f:=by
 unfold qJ;refine N7 fun j aw=>?_;by_cases a_:j % 2=a∧(j:Int) ∉ [(i:Int)]
 ·rw [if_pos a_,if_pos a_,h j aw a_.1 fun e=>a_.2 (by rw [e];simp)]
 ·rw [if_neg a_,if_neg a_]
theorem afE {S S':List qN} {o:List Int} {a:Nat} {f:qN→Int} (h:∀ j,j<o.length→j % 2=a→qP S' o j=qP S o j):r2 S' o a f=r2 S o a f:=by
 unfold r2;refine N7 fun j aw=>?_;by_cases a_:j % 2=a
 ·rw [if_pos a_,if_pos a_,h j aw a_]
 ·rw [if_neg a_,if_neg a_]
theorem afB {S:List qN} {o:List Int} {f:qN→Int} (aI:o.length=7):r2 S o 0 f=-3*f (qP S o 0)-f (qP S o 2)+f (qP S o 4)+3*f (qP S o 6):=by
 unfold r2;rw [aI];simp [q6,qI];omega
theorem WY {S:List qN} {o:List Int} {f:qN→Int} (aI:o.length=3):r2 S o 1 f=0:=by
 unfold r2;rw [aI];simp [q6,qI]
theorem WW {S:List qN} {o:List Int} {a i:Nat} {f:qN→Int} (h:(o.length=3∧a=0∧i=2)∨(o.length=5∧a=0∧i=4)∨(o.length=5∧a=1∧i=3)∨(o.length=7∧a=1∧i=5)) :
  qJ S o a [(i:Int)] f+qI o.length i*f (qP S o (o.length-1-i))=0:=by
 rcases h with ⟨aI,rfl,rfl⟩ | ⟨aI,rfl,rfl⟩ | ⟨aI,rfl,rfl⟩ | ⟨aI,rfl,rfl⟩
 ·unfold qJ;rw [aI];simp [q6,qI];try omega
 ·unfold qJ;rw [aI];simp [q6,qI];try omega
 ·unfold qJ;rw [aI];simp [q6,qI];try omega
 ·unfold qJ;rw [aI];simp [q6,qI];try omega
theorem afy (h:rk p) (k:qB p.1.length o) {a i:Nat} (hi:(o.length=3∧a=0∧i=2)∨(o.length=5∧a=0∧i=4)∨(o.length=5∧a=1∧i=3)∨(o.length=7∧a=1∧i=5)):i<o.length∧i % 2=a∧H_ p o a i :=
 ⟨by omega,by omega,L_.2 ⟨_,Iv h.s (rY k) (i:=o.length-1-i) (by omega),WW hi,WW hi⟩⟩
theorem ZQ (h:rk p) (k:qB p.1.length o) {a:Nat} (cq:a<2):∃ l,K0 (p,()) o (a:Int)=some l∧aaY p o a l:=by
 have Li:=qB.Mm h k;have aI:=h.n;rw [←k.1] at aI;unfold K0;rw [qx (by omega),ZU h k,sc];by_cases aP:r8 p o a
 ·rw [if_pos (decide_eq_true aP)];refine ⟨[],rfl,⟨by unfold HZ;rw [if_pos aP];rfl,fun c ak=>absurd ak (by simp),by simp,fun S' pj d a1=>?_⟩⟩;rw [afE fun j aw a_=>(pj j aw a_).2 (by simp)];rcases a1 with rfl | rfl
  ·exact aP.1
  ·exact aP.2
 ·rw [if_neg (by simpa using aP)];rcases Q8 h k (a:=a) o.length 0 (by omega) rfl (fun j aw=>absurd aw (by omega)) with ⟨i,s,ab,ae,aF,ba,bO⟩ | ⟨ab,ae⟩
  ·have iO:Ju (p,()) o (a:Int) (qp o.length) 0 []=_:=ab;rw [iO,sc];refine ⟨_,rfl,⟨?_,?_,by simp,?_⟩⟩
   ·unfold HZ;rw [if_neg aP,if_pos ⟨i,ae,aF,L_.2 ⟨s,ba,bO⟩⟩];rfl
   ·intro c ak;obtain rfl:=sK.1 ak;exact ⟨ba,i,ae,aF,rfl⟩
   ·intro S' pj d a1
    rw [afG S' o _ ae aF,(pj i ae aF).1 (ix o (i:Int),s) (by simp) rfl,afC fun j aw a_ bI=>(pj j aw a_).2 fun c ak=>by
     obtain rfl:=sK.1 ak
     exact fun e=>bI (Ln k.2.1 ae aw e).symm]
    rcases a1 with rfl | rfl
    ·exact bO.1
    ·exact bO.2
  ·have iO:Ju (p,()) o (a:Int) (qp o.length) 0 []=_:=ab;rw [iO,sc];simp only;have cL:o.length=7∧a=0:=by
    by_cases e:o.length=7∧a=0
    ·exact e
    ·exfalso;have fp:∀ i,¬ ((o.length=3∧a=0∧i=2)∨(o.length=5∧a=0∧i=4)∨(o.length=5∧a=1∧i=3)∨(o.length=7∧a=1∧i=5)):=fun i hi=>by
      obtain ⟨aJ,aN,b'⟩:=afy h k hi;exact ae i aJ aN b'
     rcases (show a=0∨a=1 by omega) with rfl | rfl <;> rcases aI with aI | aI | aI
     ·exact fp 2 (.inl ⟨aI,rfl,rfl⟩)
     ·exact fp 4 (.inr (.inl ⟨aI,rfl,rfl⟩))
     ·exact e ⟨aI,rfl⟩
     ·exact aP ⟨WY aI,WY aI⟩
     ·exact fp 3 (.inr (.inr (.inl ⟨aI,rfl,rfl⟩)))
     ·exact fp 5 (.inr (.inr (.inr ⟨aI,rfl,rfl⟩)))
   obtain ⟨cL,rfl⟩:=cL;have jG:=rY k;(have ad:I5 o.length 0 o.length=[4,6]:=by rw [cL];decide);(have aj0:p.1.length=7:=by rw [←k.1];exact cL);have pY:Jk (p,()) o [4,6] []=some [(ix o ((4:Nat):Int),qP p.1 o 2),(ix o ((6:Nat):Int),qP p.1 o 0)]:=by
    have hQ:=jG 0 (by omega);have bh:=jG 2 (by omega);(have ahV:w (w (((7:Nat):Int)-1)-4)=((2:Nat):Int):=by rw [qG (n:=((7:Nat):Int)-1) (by omega),qG (by omega)];omega);(have w0:w (w (((7:Nat):Int)-1)-6)=((0:Nat):Int):=by rw [qG (n:=((7:Nat):Int)-1) (by omega),qG (by omega)];omega);have s1:∀ out,Jk (p,()) o [4,6] out=Jk (p,()) o [6] (out++[(ix o ((4:Nat):Int),qP p.1 o 2)]):=fun out=>by
     rw [Jk,cL,qx (by omega),ahV,qx (by omega),qx bh];rfl
    have s2:∀ out,Jk (p,()) o [6] out=some (out++[(ix o ((6:Nat):Int),qP p.1 o 0)]):=fun out=>by
     rw [Jk.eq_2,cL,qx (by omega),w0,qx (by omega),qx hQ];rfl
    rw [s1,s2];rfl
   rw [ad,pY];have adI:ix o ((4:Nat):Int)≠ix o ((6:Nat):Int):=fun e=>absurd (Ln k.2.1 (by omega) (by omega) e) (by decide);refine ⟨_,rfl,⟨?_,?_,?_,?_⟩⟩
   ·unfold HZ;rw [if_neg aP,if_neg (by rintro ⟨i,aJ,aN,b'⟩;exact ae i aJ aN b')];rfl
   ·intro c ak;rcases sy.1 ak with rfl | ak
    ·exact ⟨Iv h.s jG (by omega),4,by omega,rfl,rfl⟩
    ·obtain rfl:=sK.1 ak;exact ⟨Iv h.s jG (by omega),6,by omega,rfl,rfl⟩
   ·simp only [List.map_cons,List.map_nil,tU,sK,uc,not_false_eq_true,List.nodup_nil,and_true];exact adI
   ·intro S' pj d _;rw [afB cL];rw [(pj 4 (by omega) rfl).1 (ix o ((4:Nat):Int),qP p.1 o 2) (by simp) rfl,(pj 6 (by omega) rfl).1 (ix o ((6:Nat):Int),qP p.1 o 0) (by simp) rfl];have fp:∀ j:Nat,j<7→j≠4→j≠6→∀ c∈[(ix o ((4:Nat):Int),qP p.1 o 2),(ix o ((6:Nat):Int),qP p.1 o 0)],c.1≠ix o (j:Int):=by
     intro j aw ba bP c ak e;rcases sy.1 ak with rfl | ak
     ·exact ba (Ln k.2.1 (by omega) (by omega) e).symm
     ·obtain rfl:=sK.1 ak;exact bP (Ln k.2.1 (by omega) (by omega) e).symm
    rw [(pj 0 (by omega) rfl).2 (fp 0 (by omega) (by omega) (by omega)),(pj 2 (by omega) rfl).2 (fp 2 (by omega) (by omega) (by omega))];simp only;omega
theorem acy {q:qn} {o:List Int}:q' q o=0↔r8 q o 0∧r8 q o 1:=by
 unfold q' I0 r8;generalize rv q o 0 q.2.1=a;generalize rv q o 0 q.2.2=b;generalize rv q o 1 q.2.1=c;generalize rv q o 1 q.2.2=d;omega
theorem Ti (aB:p.1.length≤1000) (ao:o.length≤12):∃ l,KR p o=some (if rV p o=0 then (l,0) else ([],rV p o))∧(rV p o=0→l.length=HZ p o 0+HZ p o 1∧HA p.1.length l 0∧q' (r4 l p.1,p.2) o=0):=by
 unfold KR;rw [PX aB ao,sc];by_cases r7:rV p o=0
 ·rw [if_pos r7];obtain ⟨h,k⟩:=Lp.1 r7;obtain ⟨cu,f_,g6⟩:=ZQ h k (a:=0) (by omega);obtain ⟨l1,e1,a7⟩:=ZQ h k (a:=1) (by omega);have acF:K0 (p,()) o 0=some cu:=f_;have acG:K0 (p,()) o 1=some l1:=e1;have db:=Mc p o 0;have bl:=Mc p o 1;have aj5:=g6.len;have n1:=a7.len;have J7:=h.len;simp only;rw [acF,sc,acG,sc,qx (by omega)];refine ⟨Hg (cu++l1),by rw [if_pos r7],fun _=>?_⟩;have nO:∀ c∈cu++l1,q3 c.2∧0≤c.1∧c.1<(p.1.length:Int):=by
   intro c ak;rcases sU.1 ak with ak | ak
   ·obtain ⟨aJ,i,aN,_,hn⟩:=g6.own c ak;rw [hn];exact ⟨aJ,rY k i aN⟩
   ·obtain ⟨aJ,i,aN,_,hn⟩:=a7.own c ak;rw [hn];exact ⟨aJ,rY k i aN⟩
  obtain ⟨s1,s2⟩:=ahz (S:=cu++l1) fun c ak=>by have:=nO c ak;omega
  have ads:∀ c∈cu,∀ dR∈l1,c.1≠dR.1:=by
   intro c ak dR J6 e;obtain ⟨_,i,aN,b',hn⟩:=g6.own c ak;obtain ⟨_,j,c_,j1,k2⟩:=a7.own dR J6;have:=Ln k.2.1 aN c_ (by rw [←hn,←k2];exact e);omega
  have jS:((Hg (cu++l1)).map (·.1)).Nodup:=by
   refine ((s1.map (·.1)).nodup_iff).2 ?_;rw [sR,tZ];refine ⟨g6.W3,a7.W3,fun x aj y aY e=>?_⟩;obtain ⟨c,ak,rfl⟩:=sH.1 aj;obtain ⟨dR,J6,rfl⟩:=sH.1 aY;exact ads c ak dR J6 e
  have RN:HA p.1.length (Hg (cu++l1)) 0:=by
   (refine W_ ?_ fun c ak=>by have:=nO c (s1.mem_iff.1 ak);exact ⟨this.2.1,this.2.2,this.1⟩);have adH:=List.pairwise_map.1 jS;exact (s2.and adH).imp fun h=>by omega
  refine ⟨by rw [YV,sD];omega,RN,?_⟩;rw [acy];have pY:∀ i:Nat,i<o.length→(∀ c∈Hg (cu++l1),c.1≠ix o (i:Int))→qP (r4 (Hg (cu++l1)) p.1) o i=qP p.1 o i:=fun i hi ak =>
   S4 RN (sY _) rfl (rY k i hi).1 ak
  have hc:∀ i:Nat,∀ c∈Hg (cu++l1),c.1=ix o (i:Int)→qP (r4 (Hg (cu++l1)) p.1) o i=c.2:=fun i c ak e=>by
   have:=YL RN (sY _) (S:=p.1) rfl ak;rw [e] at this;exact this
  have f0:=g6.flat (r4 (Hg (cu++l1)) p.1) fun i hi a_=>⟨fun c ak=>hc i c (s1.mem_iff.2 (sU.2 (.inl ak))),fun fp=>pY i hi fun c ak=>by
   rcases sU.1 (s1.mem_iff.1 ak) with ak | ak
   ·exact fp c ak
   ·obtain ⟨_,j,c_,j1,k2⟩:=a7.own c ak;intro e;have:=Ln k.2.1 c_ hi (by rw [←k2];exact e)
    omega⟩
  have f1:=a7.flat (r4 (Hg (cu++l1)) p.1) fun i hi a_=>⟨fun c ak=>hc i c (s1.mem_iff.2 (sU.2 (.inr ak))),fun fp=>pY i hi fun c ak=>by
   rcases sU.1 (s1.mem_iff.1 ak) with ak | ak
   ·obtain ⟨_,j,c_,j1,k2⟩:=g6.own c ak;intro e;have:=Ln k.2.1 c_ hi (by rw [←k2];exact e);omega
   ·exact fp c ak⟩
  exact ⟨⟨f0 _ (.inl rfl),f0 _ (.inr rfl)⟩,f1 _ (.inl rfl),f1 _ (.inr rfl)⟩
 ·rw [if_neg r7];simp only;rw [if_pos (by simpa using r7)];exact ⟨[],by rw [if_neg r7],fun h=>absurd h r7⟩
end
end Go.Proofs.YtkoioidpbbbaiaaGreat.Ab


namespace Go.Proofs.YtkoioidpbbbaiaaGreat.Ab
open Go
set_option maxRecDepth 20000
set_option maxHeartbeats 4000000
noncomputable def Qe:gB :=
 .loop (some (qd false [0,1,2,2,10])) (.seq (p5 [p6 5 4,p6 6 0,qq 7 5 6 .lss] (.cond (.m_ 7) .skip (.exit 0))) (.seq (.block 1 (qF [p4 10 3,p6 11 4,p3 12 [.Bs 11] (.yB 1 1 [.int .i64 0] [0]),p3 13 [.jm 10,.jm 12] (.app 1 8),p4 3 13])) (qF [p4 8 4,qW 9 8 1,p4 4 9])))
noncomputable def aam:gB :=
 p5 [p3 2 [.cv (.av [] 0 .full)] (.nil 1)] (p5 [p3 3 [.cv (.av [] 0 .full)] (.nil 1)] (.seq (p5 [qh 4 0] (.block 0 Qe)) (p5 [p4 14 3,p4 2 14] .ret)))
theorem aeW:qu Tryz.prog QM 32=some (aam,15,[.tmp 2]):=by qb
def LL (Jm:Int) (qc:qa→Option qa):Nat→qa→Int→Option qa
 | 0,_,_=>none
 | m+1,s1,s2 =>
   if (decide (s2<Jm))=true then
    qs ((s1.length+1)*8≤140737488355328) <|
    LL Jm qc m (s1++[s2]) (w (s2+(1:Int)))
   else
    qc s1
def MU (Jm:Int):Option qa :=
 LL Jm (fun yn =>
   some yn) qi ([]:List Int) (0:Int)
theorem aiz {Jm:Int} {qc:qa→Option qa} {s1:qa} {s2:Int} {v:qa} {Q:rS}   (ra:∀ (yn:qa) (qf:List I),qc yn=some v→rm 15 [(3,(qz yn (.uniq 1)))] qf→Q (.exit 0) qf []) {T:List I} (bZ:eW (qd false [0,1,2,2,10]) T=qg 15 [(0,(hX Jm)),(3,(qz s1 (.uniq 1))),(4,(hX s2))]) (h:LL Jm qc qi s1 s2=some v) :
  dN Tryz.prog QM 32 0 none Qe T [] Q:=by
 unfold Qe;refine wp_loop bZ ?_;refine .intro (fun m T H=>∃ (s1:qa) (s2:Int),T=qg 15 [(0,(hX Jm)),(3,(qz s1 (.uniq 1))),(4,(hX s2))]∧H=[]∧LL Jm qc m s1 s2=some v) qi ⟨s1,s2,rfl,rfl,h⟩ ?_;clear h bZ;rintro m T H ⟨s1,s2,rfl,rfl,h⟩;cases m
 ·exact rA h
 rename_i m;rw [LL.eq_2] at h;conv=>whnf
 refine bs h (fun gJ h=>?_) fun gJ h=>?_
 ·rw [gJ];conv=>whnf
  obtain ⟨gK,h⟩:=rW h;refine ⟨by first | rfl | simp,by have:=gK;omega,rfl,gK,?_⟩
  erw [L7 hX s1 s2];conv=>whnf
  exact ⟨m,sg m,(s1++[s2]),(w (s2+(1:Int))),rfl,rfl,h⟩
 ·rw [gJ];conv=>whnf
  exact ra _ _ h ⟨rfl,rfl⟩
theorem Tn {Jm:Int} {v:qa} (h:MU Jm=some v):qw 32 [(hX Jm)] (.av (v.map hX) v.length .shared):=by
 refine qO eD aeW rfl (rM (fun _=>rfl) _ _ _) fun Q bo=>?_;have jG:qL [.tmp 2] Q (fun v=>(qz v .shared)) v:=fun T H bD=>bo _ T H bD;unfold MU at h;unfold aam;obtain ⟨r_,qD⟩:∃ c,Qe=c:=⟨_,rfl⟩;rw [qD];conv=>whnf
 subst qD;refine aiz ?_ (by exact rfl) h;intro yn qf h qA;obtain ⟨rr,rfl⟩:=qA.ex;conv=>whnf
 exact qe h jG rfl rfl

noncomputable def Qj:gB :=
 .loop (some (qd false [0,1,2,4,74])) (.seq (p5 [p6 29 6,p6 30 3,qq 31 29 30 .lss] (.cond (.m_ 31) .skip (.exit 2))) (.seq (.block 3 (.seq (ri [p6 34 0,p6 35 6,rn 36 34 35 1,qm 37 36,p6 38 0,p6 39 4,rn 40 38 39 1,qm 41 40,qq 42 37 41 .gtr,p4 43 42,ch 44 [.m_ 5] 43 true .mR,ch 45 [.Bs 44,.cv (.int .i64 0)] 43 true (.bin .lss),ch 46 [.jm 45] 43 true .mR,ch 47 [.m_ 0] 46 false .mR,ch 48 [.m_ 6] 46 false .mR,ch 49 [.Bs 47,.Bs 48] 46 false (.kV 1),ch 50 [.Bs 49] 46 false (.zE .one),ch 51 [.m_ 5] 46 false .mR,ch 52 [.Bs 50,.Bs 51] 46 false (.bin .lss),ch 53 [.m_ 46,.cv (.bool true),.Bs 52] 43 true .pick,p3 54 [.m_ 43,.Bs 53,.cv (.bool false)] .pick]) (.cond (.m_ 54) (qF [p6 55 0,p6 56 6,rn 57 55 56 1,qm 58 57,p4 5 58]) .skip))) (qF [p4 32 6,qW 33 32 1,p4 6 33])))
noncomputable def Qk:gB :=
 .loop (some (qd false [3,1,3,2,72])) (.seq (p5 [p6 67 8,p6 68 3,qq 69 67 68 .lss] (.cond (.m_ 69) .skip (.exit 4))) (.seq (.block 5 (p5 [p6 72 7,p6 73 8,p3 74 [.cv (.func 72 [] []),.m_ 72,.m_ 73] (.call 3),p3 75 [.Bs 74] (.un .not)] (.cond (.m_ 75) (qF [p4 76 7,p6 77 8,p3 78 [.Bs 77] (.yB 1 1 [.int .i64 0] [0]),p3 79 [.jm 76,.jm 78] (.app 1 8),p4 7 79]) .skip))) (qF [p4 70 8,qW 71 70 1,p4 8 71])))
noncomputable def Ql:gB :=
 .loop (some (qd false [0,1,2,2,76])) (.seq (p5 [p6 13 4,qv 14 13 0 .geq] (.cond (.m_ 14) .skip (.exit 0))) (.seq (.block 1 (.seq (.seq (ri [p6 17 0,p6 18 4,rn 19 17 18 1,qm 20 19,p6 21 0,p6 22 4,qW 23 22 1,rn 24 21 23 1,qm 25 24,qq 26 20 25 .gtr]) (.cond (.m_ 26) (.exit 1) .skip)) (p5 [qh 5 (-1)] (.seq (p5 [p6 27 4,qW 28 27 1,p4 6 28] (.block 2 Qj)) (p5 [p3 59 [] (.yB 0 1 [.int .i64 0] []),p4 60 0,p4 61 4,p3 62 [.jm 60,.jm 61] (.Bh 1 false true false),p3 63 [.jm 59,.jm 62] (.app 1 8),p4 64 5,p3 65 [.Bs 64] (.yB 1 1 [.int .i64 0] [0]),p3 66 [.jm 63,.jm 65] (.app 1 8),p4 7 66] (.seq (p5 [qh 8 0] (.block 4 Qk)) (p5 [p4 80 7,p4 2 80] .ret))))))) (qF [p4 15 4,qv 16 15 1 .sub,p4 4 16])))
noncomputable def aaz:gB :=
 p5 [p3 2 [.cv (.av [] 0 .full)] (.nil 1)] (p5 [p6 9 0,q2 10 9,p4 3 10] (.seq (p5 [p6 11 3,qv 12 11 2 .sub,p4 4 12] (.block 0 Ql)) (p5 [p3 2 [.cv (.av [] 0 .full)] (.nil 1)] .ret)))
theorem ae9:qu Tryz.prog Nc 48=some (aaz,81,[.tmp 2]):=by qb
def JM (order:qa) (s1:Int) (qU:Int→Option qa):Nat→Int→Int→Option qa
 | 0,_,_=>none
 | m+1,s2,dh =>
   if (decide (dh<(order.length:Int)))=true then
    qs (0≤dh∧dh<(order.length:Int)) <|
    qs (0≤s1∧s1<(order.length:Int)) <|
    if (decide ((ix order s1)<(ix order dh)))=true then
     if (decide (s2<(0:Int)))=true then
      qs (0≤dh∧dh<(order.length:Int)) <|
      JM order s1 qU m (ix order dh) (w (dh+(1:Int)))
     else
      qs (0≤dh∧dh<(order.length:Int)) <|
      if (decide ((ix order dh)<s2))=true then
       qs (0≤dh∧dh<(order.length:Int)) <|
       JM order s1 qU m (ix order dh) (w (dh+(1:Int)))
      else
       JM order s1 qU m s2 (w (dh+(1:Int)))
    else
     JM order s1 qU m s2 (w (dh+(1:Int)))
   else
    qU s2
def Km (order:qa) (Hf:qa→Option qa):Nat→qa→Int→Option qa
 | 0,_,_=>none
 | m+1,G',rB =>
   if (decide (rB<(order.length:Int)))=true then
    (M4 G' rB).bind fun aS =>
    if aS=true then
     Km order Hf m G' (w (rB+(1:Int)))
    else
     qs ((G'.length+1)*8≤140737488355328) <|
     Km order Hf m (G'++[rB]) (w (rB+(1:Int)))
   else
    Hf G'
def KW (order:qa) (qc:Unit→Option qa):Nat→Int→Option qa
 | 0,_=>none
 | m+1,s1 =>
   if (decide ((0:Int)≤s1))=true then
    qs (0≤s1∧s1<(order.length:Int)) <|
    qs (0≤(w (s1+(1:Int)))∧(w (s1+(1:Int)))<(order.length:Int)) <|
    if (decide ((ix order (w (s1+(1:Int))))<(ix order s1)))=true then
     KW order qc m (w (s1-(1:Int)))
    else
     JM order s1 (fun yn =>
       qs (0≤s1∧s1≤(order.length:Int)) <|
       qs ((([]:List Int).length+(order.take s1.toNat).length)*8≤140737488355328) <|
       qs (((([]:List Int)++(order.take s1.toNat)).length+1)*8≤140737488355328) <|
       Km order (fun oS =>
         some oS) qi ((([]:List Int)++(order.take s1.toNat))++[yn]) (0:Int)) qi (-1:Int) (w (s1+(1:Int)))
   else
    qc ()
def Ii (order:qa):Option qa :=
 KW order (fun _ =>
   some []) qi (w ((order.length:Int)-(2:Int)))
theorem aiW {order:qa} {s1:Int} {qU:Int→Option qa} {s2:Int} {dh:Int} {v:qa} {Q:rS}   (I4:∀ (yn:Int) (qf:List I),qU yn=some v→rm 81 [(0,(qz order .shared)),(3,(hX (order.length:Int))),(4,(hX s1)),(5,(hX yn))] qf→Q (.exit 2) qf []) {T:List I} (bZ:eW (qd false [0,1,2,4,74]) T=qg 81 [(0,(qz order .shared)),(3,(hX (order.length:Int))),(4,(hX s1)),(5,(hX s2)),(6,(hX dh))]) (h:JM order s1 qU qi s2 dh=some v) :
  dN Tryz.prog Nc 48 0 none Qj T [] Q:=by
 unfold Qj;refine wp_loop bZ ?_;refine .intro (fun m T H=>∃ (s2 dh:Int),T=qg 81 [(0,(qz order .shared)),(3,(hX (order.length:Int))),(4,(hX s1)),(5,(hX s2)),(6,(hX dh))]∧H=[]∧JM order s1 qU m s2 dh=some v) qi ⟨s2,dh,rfl,rfl,h⟩ ?_;clear h bZ;rintro m T H ⟨s2,dh,rfl,rfl,h⟩;cases m
 ·exact rA h
 rename_i m;rw [JM.eq_2] at h;conv=>whnf
 refine bs h (fun qX h=>?_) fun qX h=>?_
 ·rw [qX];conv=>whnf
  refine qE h id fun q9 h=>?_;rw [rj hX order dh q9];conv=>whnf
  refine qE h id fun qS h=>?_;rw [rj hX order s1 qS];conv=>whnf
  refine bs h (fun re h=>?_) fun re h=>?_
  ·rw [re];(conv=>whnf);refine bs h (fun q_ h=>?_) fun q_ h=>?_
   ·rw [q_];(conv=>whnf);refine qE h id fun ry h=>?_;rw [rj hX order dh ry];(conv=>whnf);exact ⟨m,sg m,(ix order dh),(w (dh+(1:Int))),rfl,rfl,h⟩
   ·rw [q_];(conv=>whnf);refine qE h id fun Hj h=>?_;rw [rj hX order dh Hj];(conv=>whnf);refine bs h (fun Hq h=>?_) fun Hq h=>?_
    ·rw [Hq];(conv=>whnf);refine qE h id fun Hw h=>?_;rw [rj hX order dh Hw];(conv=>whnf);exact ⟨m,sg m,(ix order dh),(w (dh+(1:Int))),rfl,rfl,h⟩
    ·rw [Hq];(conv=>whnf);exact ⟨m,sg m,s2,(w (dh+(1:Int))),rfl,rfl,h⟩
  ·rw [re];(conv=>whnf);exact ⟨m,sg m,s2,(w (dh+(1:Int))),rfl,rfl,h⟩
 ·rw [qX];conv=>whnf
  exact I4 _ _ h ⟨rfl,rfl⟩
theorem aiX {order:qa} {Hf:qa→Option qa} {G':qa} {rB:Int} {v:qa} {Q:rS}   {Kx:hB} (NB:∀ (oS:qa) (qf:List I),Hf oS=some v→rm 81 [(7,(qz oS (.uniq 1)))] qf→Q (.exit 4) qf []) (adD:∀ (oS:qa) (qf:List I),Hf oS=some v→rm 81 [(7,(qz oS (.own 1)))] qf→Q (.exit 4) qf []) (RE:(Kx=(.uniq 1)∨Kx=(.own 1))) {T:List I} (bZ:eW (qd false [3,1,3,2,72]) T=qg 81 [(3,(hX (order.length:Int))),(7,(.av (G'.map hX) G'.length Kx)),(8,(hX rB))]) (h:Km order Hf qi G' rB=some v) :
  dN Tryz.prog Nc 48 0 none Qk T [] Q:=by
 unfold Qk;refine wp_loop bZ ?_;refine .intro (fun m T H=>∃ (G':qa) (rB:Int) (Kx:hB),(Kx=(.uniq 1)∨Kx=(.own 1))∧T=qg 81 [(3,(hX (order.length:Int))),(7,(.av (G'.map hX) G'.length Kx)),(8,(hX rB))]∧H=[]∧Km order Hf m G' rB=some v) qi ⟨G',rB,_,RE,rfl,rfl,h⟩ ?_;clear h bZ;rintro m T H ⟨G',rB,Kx,RE,rfl,rfl,h⟩;cases m
 ·exact rA h
 rename_i m;rw [Km.eq_2] at h;rcases RE with rfl | rfl
 ·conv=>whnf
  refine bs h (fun Iq h=>?_) fun Iq h=>?_
  ·rw [Iq];(conv=>whnf);obtain ⟨aS,Ji,h⟩:=p' h;refine ⟨qj.pl,_,TD Ji,?_⟩;(conv=>whnf);cases aS
   ·(conv=>whnf);replace h:=rq rfl h;obtain ⟨IB,h⟩:=rW h;refine ⟨by first | rfl | simp,by have:=IB;omega,rfl,IB,?_⟩
    erw [L7 hX G' rB];(conv=>whnf);exact ⟨m,sg m,(G'++[rB]),(w (rB+(1:Int))),_,(.inr rfl),rfl,rfl,h⟩
   ·(conv=>whnf);replace h:=rp rfl h;exact ⟨m,sg m,G',(w (rB+(1:Int))),_,(.inr rfl),rfl,rfl,h⟩
  ·rw [Iq];(conv=>whnf);exact NB _ _ h ⟨rfl,rfl⟩
 ·conv=>whnf
  refine bs h (fun Iq h=>?_) fun Iq h=>?_
  ·rw [Iq];(conv=>whnf);obtain ⟨aS,Ji,h⟩:=p' h;refine ⟨qj.pl,_,TD Ji,?_⟩;(conv=>whnf);cases aS
   ·(conv=>whnf);replace h:=rq rfl h;obtain ⟨IB,h⟩:=rW h;refine ⟨by first | rfl | simp,by have:=IB;omega,rfl,IB,?_⟩
    erw [L7 hX G' rB];(conv=>whnf);exact ⟨m,sg m,(G'++[rB]),(w (rB+(1:Int))),_,(.inr rfl),rfl,rfl,h⟩
   ·(conv=>whnf);replace h:=rp rfl h;exact ⟨m,sg m,G',(w (rB+(1:Int))),_,(.inr rfl),rfl,rfl,h⟩
  ·rw [Iq];(conv=>whnf);exact adD _ _ h ⟨rfl,rfl⟩
theorem aiV {order:qa} {qc:Unit→Option qa} {s1:Int} {v:qa} {Q:rS}   (jG:qL [.tmp 2] Q (fun v=>(qz v .shared)) v) (ra:∀ (qf:List I),qc ()=some v→rm 81 [] qf→Q (.exit 0) qf []) {T:List I} (bZ:eW (qd false [0,1,2,2,76]) T=qg 81 [(0,(qz order .shared)),(3,(hX (order.length:Int))),(4,(hX s1))]) (h:KW order qc qi s1=some v) :
  dN Tryz.prog Nc 48 0 none Ql T [] Q:=by
 unfold Ql;obtain ⟨r_,qD⟩:∃ c,Qj=c:=⟨_,rfl⟩;rw [qD];obtain ⟨J3,rO⟩:∃ c,Qk=c:=⟨_,rfl⟩;rw [rO];refine wp_loop bZ ?_;refine .intro (fun m T H=>∃ (s1:Int),T=qg 81 [(0,(qz order .shared)),(3,(hX (order.length:Int))),(4,(hX s1))]∧H=[]∧KW order qc m s1=some v) qi ⟨s1,rfl,rfl,h⟩ ?_;clear h bZ;rintro m T H ⟨s1,rfl,rfl,h⟩;cases m
 ·exact rA h
 rename_i m;rw [KW.eq_2] at h;conv=>whnf
 refine bs h (fun gJ h=>?_) fun gJ h=>?_
 ·rw [gJ];conv=>whnf
  refine qE h id fun gK h=>?_;rw [rj hX order s1 gK];conv=>whnf
  refine qE h id fun qt h=>?_;rw [rj hX order (w (s1+(1:Int))) qt];conv=>whnf
  refine bs h (fun qH h=>?_) fun qH h=>?_
  ·rw [qH];(conv=>whnf);exact ⟨m,sg m,(w (s1-(1:Int))),rfl,rfl,h⟩
  ·rw [qH];(conv=>whnf);subst qD;refine aiW ?_ (by exact rfl) h;intro yn qf h qA;obtain ⟨rr,rfl⟩:=qA.ex;(conv=>whnf);refine qE h id fun H0 h=>?_;erw [YS hX order s1 H0];(conv=>whnf);obtain ⟨HI,h⟩:=rW h;refine ⟨by first | rfl | simp,by have:=HI;omega,rfl,HI,?_⟩
   erw [abI hX ([]:List Int) (order.take s1.toNat)];(conv=>whnf);obtain ⟨Jh,h⟩:=rW h;refine ⟨by first | rfl | simp,by have:=Jh;omega,rfl,Jh,?_⟩
   erw [L7 hX (([]:List Int)++(order.take s1.toNat)) yn];(conv=>whnf);subst rO;refine aiX ?_ ?_ (.inl rfl) (by exact rfl) h
   ·intro oS qf h qA;obtain ⟨rr,rfl⟩:=qA.ex;(conv=>whnf);exact qe h jG rfl rfl
   ·intro oS qf h qA;obtain ⟨rr,rfl⟩:=qA.ex;(conv=>whnf);exact qe h jG rfl rfl
 ·rw [gJ];conv=>whnf
  exact ra  _ h ⟨rfl,rfl⟩
theorem MY {order:qa} {v:qa} (h:Ii order=some v):qw 48 [(.av (order.map hX) order.length .shared)] (.av (v.map hX) v.length .shared):=by
 refine qO eD ae9 rfl (rM (fun _=>rfl) _ _ _) fun Q bo=>?_;have jG:qL [.tmp 2] Q (fun v=>(qz v .shared)) v:=fun T H bD=>bo _ T H bD;unfold Ii at h;unfold aaz;obtain ⟨Q4,Jx⟩:∃ c,Ql=c:=⟨_,rfl⟩;rw [Jx];conv=>whnf
 subst Jx;refine aiV ?_ ?_ (by exact rfl) h
 ·exact fun T H bD=>jG T H bD
 ·intro  qf h qA;obtain ⟨rr,rfl⟩:=qA.ex;conv=>whnf
  exact qe h jG rfl rfl
end Go.Proofs.YtkoioidpbbbaiaaGreat.Ab


namespace Go.Proofs.YtkoioidpbbbaiaaGreat.Ab
open Go
set_option maxRecDepth 20000
set_option maxHeartbeats 1000000
theorem Y_ (n:Nat):qp (n+1)=qp n++[(n:Int)]:=by simp [qp,vm]
theorem Ta (n:Nat):(qp n).length=n:=by simp [qp]
theorem Wk {n:Nat} (aI:n≤1000):∀ (m i:Nat),i≤n→n-i<m→LL (n:Int) (fun z=>some z) m (qp i) (i:Int)=some (qp n)
 | 0,_,_,h=>absurd h (by omega)
 | m+1,i,hi,hm=>by
   rw [LL];by_cases aR:i<n
   ·rw [if_pos (decide_eq_true (by omega)),qx (by rw [Ta];omega),Hr i (by omega),←Y_];exact Wk aI m (i+1) (by omega) (by omega)
   ·(obtain rfl:i=n:=by omega);rw [if_neg (by simp)]
theorem Tm {n:Nat} (aI:n≤1000):MU (n:Int)=some (qp n):=Wk aI qi 0 (by omega) (r6 (by omega))
def Hy (n:Nat) (pre:List Int):List Int:=(qp n).filter fun x=>decide (x ∉ pre)
theorem RZ (n:Nat) (pre:List Int):(Hy n pre).Pairwise (·<·):=(PH n).filter _
theorem WH (n:Nat) (pre:List Int) (y:Int):(Hy n pre).erase y=Hy n (pre++[y]):=by
 rw [(S1 (RZ n pre)).erase_eq_filter];unfold Hy;rw [List.filter_filter];refine uq fun x _=>?_;simp only [sU,sK,bne];by_cases ab:x=y
 ·subst ab;simp
 ·by_cases ae:x∈pre <;> simp [ab,ae]
theorem W5 {n:Nat}:∀ (q pre t r:List Int),I7 (Hy n (pre++q)) t=some r→I7 (Hy n pre) (q++t)=some (q++r)
 | [],pre,t,r,h=>by simpa using h
 | a::q,pre,t,r,h=>by
   have:=W5 q (pre++[a]) t r (by simpa using h)
   show (match I7 ((Hy n pre).erase a) (q++t) with
    | some r'=>some (a::r')
    | none=>match (Hy n pre).find? (fun y=>decide (a<y)) with
      | some y=>some (y::(Hy n pre).erase y)
      | none=>none)=_
   rw [WH,this];rfl
theorem R8:∀ (s left:List Int),s.Pairwise (· > ·)→s.Perm left→I7 left s=none
 | [],left,_,_=>rfl
 | x::r,left,a1,aB=>by
   obtain ⟨ab,ae⟩:=th.1 a1;have jW:r.Perm (left.erase x):=by
    have:=aB.erase x;simpa using this
   show (match I7 (left.erase x) r with
    | some r'=>some (x::r')
    | none=>match left.find? (fun y=>decide (x<y)) with
      | some y=>some (y::left.erase y)
      | none=>none)=_
   rw [R8 r _ ae jW]
   have:left.find? (fun y=>decide (x<y))=none:=by
    rw [List.find?_eq_none];intro y aY;rcases sy.1 (aB.mem_iff.2 aY) with rfl | aY
    ·simp
    ·have:=ab y aY;simp;omega
   rw [this]
def Mn (x:Int) (l:List Int) (y:Int):Prop:=y∈l∧x<y∧∀ z∈l,x<z→y≤z
theorem aeE {x:Int} {l:List Int} (ao:l.Pairwise (·<·)) {y:Int} (h:Mn x l y):l.find? (fun y=>decide (x<y))=some y:=by
 induction l with
 | nil=>exact absurd h.1 (by simp)
 | cons a l a8 =>
   obtain ⟨ab,ae⟩:=th.1 ao;by_cases O7:x<a
   ·rw [List.find?_cons_of_pos (by simpa using O7)];rcases sy.1 h.1 with e | aY
    ·rw [e]
    ·have:=h.2.2 a (by simp) O7;have:=ab y aY;omega
   ·rw [List.find?_cons_of_neg (by simpa using O7)];refine a8 ae ⟨?_,h.2.1,fun z bj=>h.2.2 z (by simp [bj])⟩;rcases sy.1 h.1 with e | aY
    ·subst e;exact absurd h.2.1 O7
    ·exact aY
theorem afL {x y:Int} {r L:List Int} (fm:L.Pairwise (·<·)) (aB:(x::r).Perm L) (a1:r.Pairwise (· > ·)) (aY:Mn x r y):I7 L (x::r)=some (y::L.erase y):=by
 have jW:r.Perm (L.erase x):=by
  have:=aB.erase x;simpa using this
 show (match I7 (L.erase x) r with
  | some r'=>some (x::r')
  | none=>match L.find? (fun y=>decide (x<y)) with
    | some y=>some (y::L.erase y)
    | none=>none)=_
 rw [R8 r _ a1 jW,aeE fm ⟨aB.mem_iff.1 (by simp [aY.1]),aY.2.1,fun z bj JB=>?_⟩];rcases sy.1 (aB.mem_iff.2 bj) with rfl | bj
 ·omega
 ·exact aY.2.2 z bj JB
theorem W4:∀ {a b:List Int},a.Nodup→(∀ x∈a,x∈b)→a.length≤b.length
 | [],b,_,_=>by simp
 | x::a,b,aI,ah=>by
   have aj:x∈b:=ah x (by simp);obtain ⟨ab,ae⟩:=tU.1 aI;have:=W4 (b:=b.erase x) ae fun y aY=>(List.mem_erase_of_ne (fun e=>ab (by rw [←e];exact aY))).2 (ah y (by simp [aY]));rw [tR aj] at this
   have:0<b.length:=List.length_pos_of_mem aj
   simp;omega
section
variable {o:List Int}
theorem Wt (ao:o.length≤1000) {i:Nat} (hi:i<o.length) (zc:∀ x∈o,0≤x) {kl:Int→Option (List Int)}:∀ (m k:Nat) (s:Int),i<k→k≤o.length→o.length-k<m →
  ((s=-1∧∀ z∈(o.take k).drop (i+1),¬ ix o (i:Int)<z)∨Mn (ix o (i:Int)) ((o.take k).drop (i+1)) s)→(∃ z∈o.drop (i+1),ix o (i:Int)<z) →
  ∃ y,Mn (ix o (i:Int)) (o.drop (i+1)) y∧JM o (i:Int) kl m s (k:Int)=kl y
 | 0,_,_,_,_,h,_,_=>absurd h (by omega)
 | m+1,k,s,hK,al,hm,ah,hex=>by
   rw [JM];by_cases aR:k<o.length
   ·rw [if_pos (decide_eq_true (by omega)),qx (by omega),qx (by omega),Hr k (by omega)];have iK:(o.take (k+1)).drop (i+1)=(o.take k).drop (i+1)++[ix o (k:Int)]:=by
     rw [uP aR,List.drop_append_of_le_length (by rw [s9];omega),rI aR]
    have aQ:0≤ix o (k:Int):=zc _ (J9 (by omega));have jS:∀ (aD:Int),(((aD=-1∧∀ z∈(o.take (k+1)).drop (i+1),¬ ix o (i:Int)<z)∨Mn (ix o (i:Int)) ((o.take (k+1)).drop (i+1)) aD))→∃ y,Mn (ix o (i:Int)) (o.drop (i+1)) y∧JM o (i:Int) kl m aD ((k+1:Nat):Int)=kl y :=
     fun aD aX=>Wt ao hi zc m (k+1) aD (by omega) (by omega) (by omega) aX hex
    by_cases aO:ix o (i:Int)<ix o (k:Int)
    ·rw [if_pos (decide_eq_true aO)];rcases ah with ⟨rfl,ah⟩ | ah
     ·rw [if_pos (by decide),qx (by omega)];refine jS _ (.inr ?_);rw [iK];refine ⟨by simp,aO,fun z bj JB=>?_⟩;rcases sU.1 bj with bj | bj
      ·exact absurd JB (ah z bj)
      ·rw [sK] at bj;omega
     ·have aj2:0≤s:=zc s (List.mem_of_mem_take (uC ah.1));rw [if_neg (by simpa using by omega),qx (by omega)];by_cases af:ix o (k:Int)<s
      ·rw [if_pos (decide_eq_true af),qx (by omega)];refine jS _ (.inr ?_);rw [iK];refine ⟨by simp,aO,fun z bj JB=>?_⟩;rcases sU.1 bj with bj | bj
       ·have:=ah.2.2 z bj JB;omega
       ·rw [sK] at bj;omega
      ·rw [if_neg (by simpa using by omega)];refine jS _ (.inr ?_);rw [iK];refine ⟨by simp [ah.1],ah.2.1,fun z bj JB=>?_⟩;rcases sU.1 bj with bj | bj
       ·exact ah.2.2 z bj JB
       ·rw [sK] at bj;omega
    ·rw [if_neg (by simpa using by omega)];refine jS _ ?_;rw [iK];rcases ah with ⟨rfl,ah⟩ | ah
     ·refine .inl ⟨rfl,fun z bj=>?_⟩;rcases sU.1 bj with bj | bj
      ·exact ah z bj
      ·rw [sK] at bj;omega
     ·refine .inr ⟨by simp [ah.1],ah.2.1,fun z bj JB=>?_⟩;rcases sU.1 bj with bj | bj
      ·exact ah.2.2 z bj JB
      ·rw [sK] at bj;omega
   ·(obtain rfl:k=o.length:=by omega);rw [if_neg (by simp)];rw [List.take_length] at ah;rcases ah with ⟨_,ah⟩ | ah
    ·obtain ⟨z,bj,JB⟩:=hex;exact absurd JB (ah z bj)
    ·exact ⟨s,ah,rfl⟩
theorem Ws (ao:o.length≤100) {q:List Int} (a_:q.length≤200):∀ (m i:Nat),i≤o.length→o.length-i<m →
  Km o (fun z=>some z) m (q++Hy i q) (i:Int)=some (q++Hy o.length q)
 | 0,_,_,h=>absurd h (by omega)
 | m+1,i,hi,hm=>by
   rw [Km];have GV:(Hy i q).length≤i:=by
    have:=uS (fun x=>decide (x ∉ q)) (qp i);rw [Ta] at this;exact this
   by_cases aR:i<o.length
   ·rw [if_pos (decide_eq_true (by omega)),Z1 (by rw [sD];omega),sc,Hr i (by omega)];have adJ:(i:Int) ∉ Hy i q:=fun h=>by
     have:=NJ.1 (tc.1 h).1;omega
    have a8:=Ws ao a_ m (i+1) (by omega) (by omega);have e1:Hy (i+1) q=Hy i q++if (i:Int)∈q then [] else [(i:Int)]:=by
     unfold Hy;rw [Y_,tE];by_cases h:(i:Int)∈q <;> simp [h]
    rw [e1] at a8;by_cases h:(i:Int)∈q
    ·rw [if_pos (by simp [h])];rw [if_pos h,sM] at a8;exact a8
    ·rw [if_neg (by simp [h,adJ]),qx (by rw [sD];omega),sC];rw [if_neg h] at a8;exact a8
   ·(obtain rfl:i=o.length:=by omega);rw [if_neg (by simp)]
theorem Wr (al:qB o.length o) (ao:o.length≤100):∀ (m i:Nat),i<o.length→i<m→(o.drop i).Pairwise (· > ·) →
  KW o (fun _=>some []) m ((i:Int)-1)=some ((I7 (qp o.length) o).getD [])
 | 0,_,_,h,_=>absurd h (by omega)
 | m+1,0,hi,hm,a1=>by
   rw [KW,if_neg (by decide)];rw [List.drop_zero] at a1;rw [R8 o _ a1 (Lo.1 al)];rfl
 | m+1,i+1,hi,hm,a1=>by
   rw [KW,show ((i+1:Nat):Int)-1=(i:Int) by omega,if_pos (decide_eq_true (by omega)),qx (by omega),Hr i (by omega),qx (by omega)];by_cases ak:ix o ((i+1:Nat):Int)<ix o (i:Int)
   ·rw [if_pos (decide_eq_true ak),qG (by omega)];refine Wr al ao m i (by omega) (by omega) ?_;rw [sV (by omega),th];refine ⟨fun z bj=>?_,a1⟩;rw [rI hi,rI (by omega)] at ak;rw [sV hi] at bj a1;rcases sy.1 bj with rfl | bj
    ·exact ak
    ·have:=(th.1 a1).1 z bj;omega
   ·rw [if_neg (by rw [decide_eq_true_eq];exact ak)];have bI:ix o (i:Int)≠ix o ((i+1:Nat):Int):=by
     rw [rI (by omega),rI hi];exact vN.1 al.2.1 i (i+1) (by omega) hi (by omega)
    obtain ⟨y,aY,aj⟩:=Wt (by omega) (i:=i) (by omega) (fun x aj=>(al.2.2 x aj).1) (kl:=fun yn =>
       qs (0≤(i:Int)∧(i:Int)≤(o.length:Int)) <|
       qs ((([]:List Int).length+(o.take (i:Int).toNat).length)*8≤140737488355328) <|
       qs (((([]:List Int)++(o.take (i:Int).toNat)).length+1)*8≤140737488355328) <|
       Km o (fun oS=>some oS) qi ((([]:List Int)++(o.take (i:Int).toNat))++[yn]) (0:Int)) qi (i+1) (-1) (by omega) (by omega) (r6 (by omega)) (.inl ⟨rfl,by
        rw [uR (by rw [s9];omega)];simp⟩) ⟨ix o ((i+1:Nat):Int),by rw [rI hi,sV hi];exact List.mem_cons_self,by omega⟩
    rw [aj,qx (by omega),qx (by simp;omega),qx (by simp;omega),List.nil_append,tD];have aF:=Ws (o:=o) ao (q:=o.take i++[y]) (by simp;omega) qi 0 (by omega) (r6 (by omega));have f_:Hy 0 (o.take i++[y])=[]:=rfl;rw [f_,sM] at aF;rw [show (0:Int)=((0:Nat):Int) from rfl,aF];have NC:o=o.take i++(ix o (i:Int)::o.drop (i+1)):=by
     rw [rI (by omega)];conv=>lhs;rw [←List.take_append_drop i o,sV (show i<o.length by omega)]
    have fm:(ix o (i:Int)::o.drop (i+1)).Perm (Hy o.length (o.take i)):=by
     refine R7 ?_ ?_ ?_
     ·have:=al.2.1;rw [NC] at this;exact (tZ.1 this).2.1
     ·intro z bj;unfold Hy;refine tc.2 ⟨NJ.2 (al.2.2 z (by rw [NC];exact List.mem_append_right _ bj)),?_⟩;have:=al.2.1;rw [NC] at this;exact decide_eq_true fun nL=>(tZ.1 this).2.2 z nL z bj rfl
     ·refine W4 (S1 (RZ _ _)) fun z bj=>?_;obtain ⟨yn,oS⟩:=tc.1 bj;have Gz:z∈o:=(Lo.1 al).mem_iff.2 yn;rw [NC] at Gz;rcases sU.1 Gz with TR | TR
      ·exact absurd TR (of_decide_eq_true oS)
      ·exact TR
    have aI:=afL (RZ _ _) fm a1 aY;rw [WH] at aI;have:=W5 (n:=o.length) (o.take i) [] _ _ (by simpa using aI);rw [←NC] at this;(have e1:Hy o.length []=qp o.length:=by unfold Hy;simp);rw [e1] at this;rw [this];simp
theorem aiU (al:qB o.length o) (aQ:o≠[]) (ao:o.length≤100):Ii o=some ((I7 (qp o.length) o).getD []):=by
 have aB:0<o.length:=List.length_pos_iff.2 aQ;unfold Ii
 have:=Wr al ao qi (o.length-1) (by omega) (r6 (by omega)) (by
  rw [sV (by omega),show o.length-1+1=o.length by omega,List.drop_length]
  exact List.pairwise_singleton _ _)
 rw [qG (by omega),show (o.length:Int)-2=((o.length-1:Nat):Int)-1 by omega];exact this
end
theorem PZ {n:Nat} (aQ:0<n) (aI:n≤100) {j:Nat} (aw:j<(qV n (qp n)).length):Ii (qV n (qp n))[j]=some ((qV n (qp n))[j+1]?.getD []):=by
 have al:=W'.2 (tt aw);have ao:=al.1;rw [aiU (by rw [ao];exact al) (fun e=>by rw [e] at ao;simp at ao;omega) (by omega),ao,WG n _ (PH n) (by simp [qp])]
end Go.Proofs.YtkoioidpbbbaiaaGreat.Ab


namespace Go.Proofs.YtkoioidpbbbaiaaGreat.Ab
open Go
set_option maxRecDepth 20000
set_option maxHeartbeats 4000000
noncomputable def Yu:gB :=
 .ou false [p3 7 [.jm 18] .mR]
theorem aet:eu Tryz.prog JR (rD Tryz.prog 16 0) 0=some Yu:=by qb
noncomputable def Yy:gB :=
 .block 1 (.seq (.ou false [p3 19 [.Bs 4] (.zE .one),p3 20 [.jm 7] .mR,p3 21 [.cv (.func 41 [] []),.m_ 19,.m_ 20] (.call 3),p3 22 [.Bs 21,.cv (.int .i64 0)] (.bin .eql)]) (.cond (.m_ 22) (.ou false [p3 23 [.m_ 6] (.zE .one),p3 24 [.Bs 23,.cv (.int .i64 1)] (.bin .add),⟨none,[.jm 6,.jm 24],none,none,.st 1⟩]) .skip))
theorem aex:eu Tryz.prog JR (rE Tryz.prog 16 0) 0=some Yy:=by qb
def J4 (b:qn×Unit) (s:Int) (o:List Int):Option Int:=(Kl b o).bind fun c=>some (if decide (c=0)=true then w (s+1) else s)
def LH (p:qn):Option (Int×Int) :=
 (rX p []).bind fun r=>match r with
 | (none,q)=>if decide (q≠0)=true then some (0,q) else none
 | (some b,q)=>if decide (q≠0)=true then some (0,q) else
   qs (0<b.1.1.length∧b.1.1.length≤7) <|
   (IA (J4 b) (qV b.1.1.length (qp b.1.1.length)) 0).bind fun n=>some (n,0)
theorem ahe {b:qn×Unit} {o:List Int} {g6:ar} {s t:Int} (ah:J4 b s o=some t) {yh fx gq Gi r3 HP u8 HQ HM HN HO MG MH MI u16 MJ MK ML MN MO MP I_ MQ MR:I} (he:o≠[]) (Y:List ar) :
  ∃ Z,Sem Tryz.prog (.yield [g6,ar.cells [lj b],ar.cells [hX s]].length) [Hi o] (([g6,ar.cells [lj b],ar.cells [hX s]]++[ar.loop .ready none 16 [yh,fx,gq,Gi,.ptr 1 0,r3,.ptr 2 0,HP,u8,HQ,HM,HN,HO,MG,MH,MI,u16,MJ,MK,ML,MN,MO,MP,I_,MQ,MR] [18] (rD Tryz.prog 16 0) (rE Tryz.prog 16 0) JR])++Y) 0 (.bool true) (([g6,ar.cells [lj b],ar.cells [hX t]]++[ar.loop .ready none 16 [yh,fx,gq,Gi,.ptr 1 0,r3,.ptr 2 0,HP,u8,HQ,HM,HN,HO,MG,MH,MI,u16,MJ,MK,ML,MN,MO,MP,I_,MQ,MR] [18] (rD Tryz.prog 16 0) (rE Tryz.prog 16 0) JR])++(Y++Z)):=by
 refine ⟨[],?_⟩;rw [sM];obtain ⟨f_,e,rfl⟩:=tY he;unfold J4 at ah;obtain ⟨c,ak,ah⟩:=p' ah;obtain rfl:=Option.some.inj ah;refine PB eD aet aex (IK _ _ _) rfl (IP (by simp)) ?_;unfold Yu;conv=>whnf
 refine ⟨rfl,IK _ _ _,?_⟩;rw [JH];unfold Yy;conv=>whnf
 refine ⟨p7 (Ie b) (p7 (rM (fun _=>rfl) _ _ _) rfl),_,af7 (Oh ak),?_⟩;conv=>whnf
 cases a1:decide (c=0)
 ·conv=>whnf
  show _∧(([g6,ar.cells [lj b],ar.cells [hX s]]++[ar.loop .busy none 16 [yh,fx,gq,Gi,.ptr 1 0,r3,.ptr 2 0,HP,u8,HQ,HM,HN,HO,MG,MH,MI,u16,MJ,MK,ML,MN,MO,MP,I_,MQ,MR] [18] (rD Tryz.prog 16 0) (rE Tryz.prog 16 0) JR])++Y)[[g6,ar.cells [lj b],ar.cells [hX s]].length]?=_∧lF ((([g6,ar.cells [lj b],ar.cells [hX s]]++[ar.loop .busy none 16 [yh,fx,gq,Gi,.ptr 1 0,r3,.ptr 2 0,HP,u8,HQ,HM,HN,HO,MG,MH,MI,u16,MJ,MK,ML,MN,MO,MP,I_,MQ,MR] [18] (rD Tryz.prog 16 0) (rE Tryz.prog 16 0) JR])++Y).set [g6,ar.cells [lj b],ar.cells [hX s]].length _) _;exact ⟨rfl,IK _ _ _,by rw [JH];exact lF.refl _⟩
 ·conv=>whnf
  show _∧(([g6,ar.cells [lj b],ar.cells [hX (w (s+1))]]++[ar.loop .busy none 16 [yh,fx,gq,Gi,.ptr 1 0,r3,.ptr 2 0,HP,u8,HQ,HM,HN,HO,MG,MH,MI,u16,MJ,MK,ML,MN,MO,MP,I_,MQ,MR] [18] (rD Tryz.prog 16 0) (rE Tryz.prog 16 0) JR])++Y)[[g6,ar.cells [lj b],ar.cells [hX (w (s+1))]].length]?=_∧lF ((([g6,ar.cells [lj b],ar.cells [hX (w (s+1))]]++[ar.loop .busy none 16 [yh,fx,gq,Gi,.ptr 1 0,r3,.ptr 2 0,HP,u8,HQ,HM,HN,HO,MG,MH,MI,u16,MJ,MK,ML,MN,MO,MP,I_,MQ,MR] [18] (rD Tryz.prog 16 0) (rE Tryz.prog 16 0) JR])++Y).set [g6,ar.cells [lj b],ar.cells [hX (w (s+1))]].length _) _;exact ⟨rfl,IK _ _ _,by rw [JH];exact lF.refl _⟩
theorem ZA {p:qn} {v:Int×Int} (h:LH p=some v):qw 16 [.agg [.av (p.1.flatMap p_) p.1.length .shared,hX p.2.1,hX p.2.2]] (.tuple [hX v.1,hX v.2]):=by
 unfold LH at h;obtain ⟨⟨aS,bh⟩,ai,h⟩:=p' h;refine qO eD aed rfl (Is (p7 rfl (p7 rfl rfl))) fun Q bo=>?_;have jG:∀ T H,HY [.tmp 2,.tmp 3] (.tuple [hX v.1,hX v.2]) .ret T H→Q .ret T H:=fun T H bD=>bo _ T H bD;unfold XR XT XS;obtain ⟨a7,cc⟩:∃ c,Sm=c:=⟨_,rfl⟩;rw [cc];conv=>whnf
 refine ⟨qj.pl,_,MX ai,?_⟩;rcases aS with _ | b
 ·conv=>whnf
  refine bs h (fun af h=>?_) fun af h=>?_
  ·rw [af];(conv=>whnf);obtain rfl:=Option.some.inj h;exact jG _ _ (Iu rfl rfl)
  ·cases h
 ·conv=>whnf
  refine bs h (fun af h=>?_) fun af h=>?_
  ·rw [af];(conv=>whnf);obtain rfl:=Option.some.inj h;exact jG _ _ (Iu rfl rfl)
  ·rw [af];(conv=>whnf);subst cc;unfold Sm;obtain ⟨⟨Di,Mj⟩,h⟩:=rW h;obtain ⟨n,ao,h⟩:=p' h;obtain rfl:=Option.some.inj h;obtain ⟨F,Nr,Lc,bF⟩:=OT ao;obtain ⟨a9,b_⟩:∃ c,gB.AM (.m_ 17) [18] (rD Tryz.prog 16 0) (rE Tryz.prog 16 0)=c:=⟨_,rfl⟩;rw [b_];(conv=>whnf);refine ⟨p7 (Ie b) rfl,_,Ts (b:=b) (v:=()) rfl,?_⟩;(conv=>whnf);subst b_;have pv:[I.bR [lj b]].all (cn 7)=true:=p7 (Ir (p7 (Ie b) rfl)) rfl;refine YC (f:=Hi) (YH (b:=b) Mj Di) (fun i=>[ar.cells [.av (p.1.flatMap p_) p.1.length .shared,hX p.2.1,hX p.2.2],ar.cells [lj b],ar.cells [hX (F i)]]) (by exact rfl) (by rw [Nr];exact rfl) (fun _=>rfl) ?_ (rl:=none) (by exact rfl) (Hn:=[ar.cells [.av (p.1.flatMap p_) p.1.length .shared,hX p.2.1,hX p.2.2],ar.cells [lj b],ar.cells [hX n]]) (by rw [Lc]) ?_
   ·intro i hi Y;exact ahe (bF i hi) (RY Di _ (tt hi)) Y
   ·intro qT;(conv=>whnf);exact jG _ _ (Iu rfl rfl)

noncomputable def aaa:gB :=
 p5 [p3 1 [.jm 0] .box,qh 2 0,qh 3 0] (p5 [p3 7 [.m_ 1] (.zE (.str 3)),p3 8 [.cv (.func 14 [] []),.m_ 7] (.call 3),p4 6 8,qR 9 6 0,p3 10 [.Bs 6] (.ext 1),p4 4 9,p4 5 10] (.seq (p5 [p6 11 5,qv 12 11 0 .neq] (.cond (.m_ 12) (p5 [p4 13 5,qh 2 0,p4 3 13] .ret) .skip)) (p5 [p3 14 [.Bs 1] (.zE (.str 3)),p4 15 4,p3 16 [.cv (.func 29 [] []),.m_ 14,.m_ 15] (.call 3),qR 17 16 0,p3 18 [.Bs 16] (.ext 1),p4 2 17,p4 3 18] .ret)))
theorem aeK:qu Tryz.prog Uc 12=some (aaa,19,[.tmp 2,.tmp 3]):=by qb
def LG (p:(qk×(Int×Int))):Option (Int×Int) :=
 (KN p).bind fun aS =>
 if (decide (aS.2≠(0:Int)))=true then
  some ((0:Int),aS.2)
 else
  (Kk p aS.1).bind fun bh =>
  some (bh.1,bh.2)
theorem Zw {p:(qk×(Int×Int))} {v:(Int×Int)} (h:LG p=some v):qw 12 [(.agg [(.av (p.1.flatMap p_) p.1.length .shared),(hX p.2.1),(hX p.2.2)])] (.tuple [(hX v.1),(hX v.2)]):=by
 refine qO eD aeK rfl (Is (p7 rfl (p7 rfl rfl))) fun Q bo=>?_;have jG:qL [.tmp 2,.tmp 3] Q (fun v=>(.tuple [(hX v.1),(hX v.2)])) v:=fun T H bD=>bo _ T H bD;unfold LG at h;unfold aaa;conv=>whnf
 obtain ⟨aS,gJ,h⟩:=p' h;refine ⟨qj.pl,_,Tf gJ,?_⟩;conv=>whnf
 refine bs h (fun gK h=>?_) fun gK h=>?_
 ·rw [gK];conv=>whnf
  exact qe h jG rfl rfl
 ·rw [gK];conv=>whnf
  obtain ⟨bh,qt,h⟩:=p' h;refine ⟨qj.pl,_,Tl qt,?_⟩;conv=>whnf
  exact qe h jG rfl rfl

noncomputable def P9:gB :=
 .loop (some (qd false [1,1,2,3,29])) (.seq (p5 [p6 22 6,q2 23 22,qv 24 23 0 .gtr] (.cond (.m_ 24) .skip (.exit 0))) (.seq (.block 1 (p5 [p3 27 [.m_ 1] (.zE (.str 3)),p6 28 6,p3 29 [.cv (.func 47 [] []),.m_ 27,.m_ 28] (.call 3),p4 7 29] (p5 [p6 30 7,p6 31 5,qq 32 30 31 .lss] (.cond (.m_ 32) (qF [p6 33 6,p4 34 7,p4 4 33,p4 5 34]) .skip)))) (qF [p4 25 6,p3 26 [.cv (.func 48 [] []),.m_ 25] (.call 3),p4 6 26])))
noncomputable def aac:gB :=
 p5 [p3 1 [.jm 0] .box,p3 2 [.cv (.av [] 0 .full)] (.nil 1),qh 3 0] (.seq (p5 [p3 8 [.m_ 1] (.zE (.str 3)),p3 9 [.cv (.func 46 [] []),.m_ 8] (.call 3),qv 10 9 0 .neq] (.cond (.m_ 10) (p5 [p3 11 [.Bs 1] (.zE (.str 3)),p3 12 [.cv (.func 46 [] []),.m_ 11] (.call 3),p3 2 [.cv (.av [] 0 .full)] (.nil 1),p4 3 12] .ret) .skip)) (p5 [p3 13 [.m_ 1] (.yM 0),qm 14 13,q2 15 14,p3 16 [.cv (.func 32 [] []),.m_ 15] (.call 3),p4 4 16] (p5 [p3 17 [.m_ 1] (.zE (.str 3)),p6 18 4,p3 19 [.cv (.func 47 [] []),.m_ 17,.m_ 18] (.call 3),p4 5 19] (.seq (p5 [p6 20 4,p3 21 [.cv (.func 48 [] []),.m_ 20] (.call 3),p4 6 21] (.block 0 P9)) (p5 [p4 35 4,p4 2 35,qh 3 0] .ret)))))
theorem aeM:qu Tryz.prog QI 15=some (aac,36,[.tmp 2,.tmp 3]):=by qb
def KO (p:(qk×(Int×Int))) (qc:qa→Option (qa×Int)):Nat→qa→Int→qa→Option (qa×Int)
 | 0,_,_,_=>none
 | m+1,s1,s2,dh =>
   if (decide ((0:Int)<(dh.length:Int)))=true then
    (LQ p dh).bind fun rQ =>
    if (decide (rQ<s2))=true then
     (Ii dh).bind fun H5 =>
     KO p qc m dh rQ H5
    else
     (Ii dh).bind fun HD =>
     KO p qc m s1 s2 HD
   else
    qc s1
def MT (p:(qk×(Int×Int))):Option (qa×Int) :=
 (Jp p).bind fun aS =>
 if (decide (aS≠(0:Int)))=true then
  (Jp p).bind fun bh =>
  some ([],bh)
 else
  (MU (p.1.length:Int)).bind fun eH =>
  (LQ p eH).bind fun qQ =>
  (Ii eH).bind fun q4 =>
  KO p (fun yn =>
    some (yn,(0:Int))) qi eH qQ q4
theorem aim {p:(qk×(Int×Int))} {qc:qa→Option (qa×Int)} {s1:qa} {s2:Int} {dh:qa} {v:(qa×Int)} {Q:rS}   (ra:∀ (yn:qa) (bw:ar) (qf:List I),qc yn=some v→rm 36 [(4,(qz yn .shared))] qf→Q (.exit 0) qf [bw]) {T:List I} (bZ:eW (qd false [1,1,2,3,29]) T=qg 36 [(1,(.ptr 0 0)),(4,(qz s1 .shared)),(5,(hX s2)),(6,(qz dh .shared))]) (h:KO p qc qi s1 s2 dh=some v) :
  dN Tryz.prog QI 15 0 none P9 T [ar.cells [(qZ p.1 .shared),(hX p.2.1),(hX p.2.2)]] Q:=by
 unfold P9;refine wp_loop bZ ?_;refine .intro (fun m T H=>∃ (s1:qa) (s2:Int) (dh:qa),T=qg 36 [(1,(.ptr 0 0)),(4,(qz s1 .shared)),(5,(hX s2)),(6,(qz dh .shared))]∧H=[ar.cells [(qZ p.1 .shared),(hX p.2.1),(hX p.2.2)]]∧KO p qc m s1 s2 dh=some v) qi ⟨s1,s2,dh,rfl,rfl,h⟩ ?_;clear h bZ;rintro m T H ⟨s1,s2,dh,rfl,rfl,h⟩;cases m
 ·exact rA h
 rename_i m;rw [KO.eq_2] at h;conv=>whnf
 refine bs h (fun qS h=>?_) fun qS h=>?_
 ·rw [qS];conv=>whnf
  obtain ⟨rQ,re,h⟩:=p' h;refine ⟨qj.pl,_,Tv re,?_⟩;conv=>whnf
  refine bs h (fun q_ h=>?_) fun q_ h=>?_
  ·rw [q_];(conv=>whnf);obtain ⟨H5,ry,h⟩:=p' h;refine ⟨qj.pl,_,MY ry,?_⟩;(conv=>whnf);exact ⟨m,sg m,dh,rQ,H5,rfl,rfl,h⟩
  ·rw [q_];(conv=>whnf);obtain ⟨HD,Hj,h⟩:=p' h;refine ⟨qj.pl,_,MY Hj,?_⟩;(conv=>whnf);exact ⟨m,sg m,s1,s2,HD,rfl,rfl,h⟩
 ·rw [qS];conv=>whnf
  exact ra _ _ _ h ⟨rfl,rfl⟩
theorem Zy {p:(qk×(Int×Int))} {v:(qa×Int)} (h:MT p=some v):qw 15 [(.agg [(.av (p.1.flatMap p_) p.1.length .shared),(hX p.2.1),(hX p.2.2)])] (.tuple [(.av (v.1.map hX) v.1.length .shared),(hX v.2)]):=by
 refine qO eD aeM rfl (Is (p7 (rM (fun _=>rfl) _ _ _) (p7 rfl rfl))) fun Q bo=>?_;have jG:qL [.tmp 2,.tmp 3] Q (fun v=>(.tuple [(qz v.1 .shared),(hX v.2)])) v:=fun T H bD=>bo _ T H bD;unfold MT at h;unfold aac;obtain ⟨r_,qD⟩:∃ c,P9=c:=⟨_,rfl⟩;rw [qD];conv=>whnf
 obtain ⟨aS,gJ,h⟩:=p' h;refine ⟨qj.pl,_,KV gJ,?_⟩;conv=>whnf
 refine bs h (fun gK h=>?_) fun gK h=>?_
 ·rw [gK];conv=>whnf
  obtain ⟨bh,qt,h⟩:=p' h;refine ⟨qj.pl,_,KV qt,?_⟩;conv=>whnf
  exact qe h jG rfl rfl
 ·rw [gK];conv=>whnf
  obtain ⟨eH,qH,h⟩:=p' h;refine ⟨(p7 rfl rfl),_,Tn qH,?_⟩;conv=>whnf
  obtain ⟨qQ,qX,h⟩:=p' h;refine ⟨qj.pl,_,Tv qX,?_⟩;conv=>whnf
  obtain ⟨q4,q9,h⟩:=p' h;refine ⟨qj.pl,_,MY q9,?_⟩;conv=>whnf
  subst qD;refine aim ?_ (by exact rfl) h;intro yn bw qf h qA;obtain ⟨rr,rfl⟩:=qA.ex;conv=>whnf
  exact qe h jG rfl rfl

noncomputable def aab:gB :=
 p5 [p3 1 [.jm 0] .box,qh 2 0,qh 3 0] (p5 [p3 7 [.m_ 1] (.zE (.str 3)),p3 8 [.cv (.func 15 [] []),.m_ 7] (.call 3),p4 6 8,qR 9 6 0,p3 10 [.Bs 6] (.ext 1),p4 4 9,p4 5 10] (.seq (p5 [p6 11 5,qv 12 11 0 .neq] (.cond (.m_ 12) (p5 [p4 13 5,qh 2 0,p4 3 13] .ret) .skip)) (p5 [p3 14 [.Bs 1] (.zE (.str 3)),p4 15 4,p3 16 [.cv (.func 39 [] []),.m_ 14,.m_ 15] (.call 3),p4 2 16,qh 3 0] .ret)))
theorem aeL:qu Tryz.prog Ue 13=some (aab,17,[.tmp 2,.tmp 3]):=by qb
def Ob (p:(qk×(Int×Int))):Option (Int×Int) :=
 (MT p).bind fun aS =>
 if (decide (aS.2≠(0:Int)))=true then
  some ((0:Int),aS.2)
 else
  (LM p aS.1).bind fun bh =>
  some (bh,(0:Int))
theorem ail {p:(qk×(Int×Int))} {v:(Int×Int)} (h:Ob p=some v):qw 13 [(.agg [(.av (p.1.flatMap p_) p.1.length .shared),(hX p.2.1),(hX p.2.2)])] (.tuple [(hX v.1),(hX v.2)]):=by
 refine qO eD aeL rfl (Is (p7 rfl (p7 rfl rfl))) fun Q bo=>?_;have jG:qL [.tmp 2,.tmp 3] Q (fun v=>(.tuple [(hX v.1),(hX v.2)])) v:=fun T H bD=>bo _ T H bD;unfold Ob at h;unfold aab;conv=>whnf
 obtain ⟨aS,gJ,h⟩:=p' h;refine ⟨qj.pl,_,Zy gJ,?_⟩;conv=>whnf
 refine bs h (fun gK h=>?_) fun gK h=>?_
 ·rw [gK];conv=>whnf
  exact qe h jG rfl rfl
 ·rw [gK];conv=>whnf
  obtain ⟨bh,qt,h⟩:=p' h;refine ⟨qj.pl,_,ZH qt,?_⟩;conv=>whnf
  exact qe h jG rfl rfl

noncomputable def P_:gB :=
 .loop (some (qd false [1,1,2,2,21])) (.seq (p5 [p6 15 5,q2 16 15,qv 17 16 0 .gtr] (.cond (.m_ 17) .skip (.exit 0))) (.seq (.block 1 (p5 [p3 20 [.m_ 1] (.zE (.str 3)),p6 21 5,p3 22 [.cv (.func 47 [] []),.m_ 20,.m_ 21] (.call 3),qv 23 22 0 .eql] (.cond (.m_ 23) (qF [p4 24 4,qW 25 24 1,p4 4 25]) .skip))) (qF [p4 18 5,p3 19 [.cv (.func 48 [] []),.m_ 18] (.call 3),p4 5 19])))
noncomputable def aad:gB :=
 p5 [p3 1 [.jm 0] .box,qh 2 0,qh 3 0] (.seq (p5 [p3 6 [.m_ 1] (.zE (.str 3)),p3 7 [.cv (.func 46 [] []),.m_ 6] (.call 3),qv 8 7 0 .neq] (.cond (.m_ 8) (p5 [p3 9 [.Bs 1] (.zE (.str 3)),p3 10 [.cv (.func 46 [] []),.m_ 9] (.call 3),qh 2 0,p4 3 10] .ret) .skip)) (p5 [qh 4 0] (.seq (p5 [p3 11 [.m_ 1] (.yM 0),qm 12 11,q2 13 12,p3 14 [.cv (.func 32 [] []),.m_ 13] (.call 3),p4 5 14] (.block 0 P_)) (p5 [p4 26 4,p4 2 26,qh 3 0] .ret))))
theorem aeN:qu Tryz.prog QJ 17=some (aad,27,[.tmp 2,.tmp 3]):=by qb
def KP (p:(qk×(Int×Int))) (qc:Int→Option (Int×Int)):Nat→Int→qa→Option (Int×Int)
 | 0,_,_=>none
 | m+1,s1,s2 =>
   if (decide ((0:Int)<(s2.length:Int)))=true then
    (LQ p s2).bind fun qQ =>
    if (decide (qQ=(0:Int)))=true then
     (Ii s2).bind fun q4 =>
     KP p qc m (w (s1+(1:Int))) q4
    else
     (Ii s2).bind fun rQ =>
     KP p qc m s1 rQ
   else
    qc s1
def Oc (p:(qk×(Int×Int))):Option (Int×Int) :=
 (Jp p).bind fun aS =>
 if (decide (aS≠(0:Int)))=true then
  (Jp p).bind fun bh =>
  some ((0:Int),bh)
 else
  (MU (p.1.length:Int)).bind fun eH =>
  KP p (fun yn =>
    some (yn,(0:Int))) qi (0:Int) eH
theorem aio {p:(qk×(Int×Int))} {qc:Int→Option (Int×Int)} {s1:Int} {s2:qa} {v:(Int×Int)} {Q:rS}   (ra:∀ (yn:Int) (bw:ar) (qf:List I),qc yn=some v→rm 27 [(4,(hX yn))] qf→Q (.exit 0) qf [bw]) {T:List I} (bZ:eW (qd false [1,1,2,2,21]) T=qg 27 [(1,(.ptr 0 0)),(4,(hX s1)),(5,(qz s2 .shared))]) (h:KP p qc qi s1 s2=some v) :
  dN Tryz.prog QJ 17 0 none P_ T [ar.cells [(qZ p.1 .shared),(hX p.2.1),(hX p.2.2)]] Q:=by
 unfold P_;refine wp_loop bZ ?_;refine .intro (fun m T H=>∃ (s1:Int) (s2:qa),T=qg 27 [(1,(.ptr 0 0)),(4,(hX s1)),(5,(qz s2 .shared))]∧H=[ar.cells [(qZ p.1 .shared),(hX p.2.1),(hX p.2.2)]]∧KP p qc m s1 s2=some v) qi ⟨s1,s2,rfl,rfl,h⟩ ?_;clear h bZ;rintro m T H ⟨s1,s2,rfl,rfl,h⟩;cases m
 ·exact rA h
 rename_i m;rw [KP.eq_2] at h;conv=>whnf
 refine bs h (fun qX h=>?_) fun qX h=>?_
 ·rw [qX];conv=>whnf
  obtain ⟨qQ,q9,h⟩:=p' h;refine ⟨qj.pl,_,Tv q9,?_⟩;conv=>whnf
  refine bs h (fun qS h=>?_) fun qS h=>?_
  ·rw [qS];(conv=>whnf);obtain ⟨q4,re,h⟩:=p' h;refine ⟨qj.pl,_,MY re,?_⟩;(conv=>whnf);exact ⟨m,sg m,(w (s1+(1:Int))),q4,rfl,rfl,h⟩
  ·rw [qS];(conv=>whnf);obtain ⟨rQ,q_,h⟩:=p' h;refine ⟨qj.pl,_,MY q_,?_⟩;(conv=>whnf);exact ⟨m,sg m,s1,rQ,rfl,rfl,h⟩
 ·rw [qX];conv=>whnf
  exact ra _ _ _ h ⟨rfl,rfl⟩
theorem aip {p:(qk×(Int×Int))} {v:(Int×Int)} (h:Oc p=some v):qw 17 [(.agg [(.av (p.1.flatMap p_) p.1.length .shared),(hX p.2.1),(hX p.2.2)])] (.tuple [(hX v.1),(hX v.2)]):=by
 refine qO eD aeN rfl (Is (p7 rfl (p7 rfl rfl))) fun Q bo=>?_;have jG:qL [.tmp 2,.tmp 3] Q (fun v=>(.tuple [(hX v.1),(hX v.2)])) v:=fun T H bD=>bo _ T H bD;unfold Oc at h;unfold aad;obtain ⟨r_,qD⟩:∃ c,P_=c:=⟨_,rfl⟩;rw [qD];conv=>whnf
 obtain ⟨aS,gJ,h⟩:=p' h;refine ⟨qj.pl,_,KV gJ,?_⟩;conv=>whnf
 refine bs h (fun gK h=>?_) fun gK h=>?_
 ·rw [gK];conv=>whnf
  obtain ⟨bh,qt,h⟩:=p' h;refine ⟨qj.pl,_,KV qt,?_⟩;conv=>whnf
  exact qe h jG rfl rfl
 ·rw [gK];conv=>whnf
  obtain ⟨eH,qH,h⟩:=p' h;refine ⟨(p7 rfl rfl),_,Tn qH,?_⟩;conv=>whnf
  subst qD;refine aio ?_ (by exact rfl) h;intro yn bw qf h qA;obtain ⟨rr,rfl⟩:=qA.ex;conv=>whnf
  exact qe h jG rfl rfl
end Go.Proofs.YtkoioidpbbbaiaaGreat.Ab


namespace Go.Proofs.YtkoioidpbbbaiaaGreat.Ab
open Go
set_option maxRecDepth 20000
set_option maxHeartbeats 1000000
def qM (p:qn):List (List Int):=qV p.1.length (qp p.1.length)
theorem Ka {p:qn} {o:List Int}:o∈qM p↔qB p.1.length o:=W'.symm
theorem Ku {p:qn} (h:rk p):(qM p).length≤100000:=WE h.len.2
theorem QF {p:qn}:(qM p)[0]?=some (qp p.1.length):=RW _ _ (Ta _)
theorem all_cons {p:qn}:∃ r,qM p=qp p.1.length::r:=by
 have:=QF (p:=p);cases h:qM p with
 | nil=>rw [h] at this;cases this
 | cons a r=>rw [h] at this;exact ⟨r,by rw [Option.some.inj this]⟩
def r5 (p:qn) (b o:List Int):List Int:=if q' p o<q' p b then o else b
def Jf (p:qn):List Int:=((qM p).drop 1).foldl (r5 p) (qp p.1.length)
def Nh (p:qn):Nat:=((qM p).filter fun o=>decide (q' p o=0)).length
section
variable {p:qn}
theorem N8 {α:Type} {l:List α} {j:Nat} (aw:j<l.length):l.take (j+1)=l.take j++[l[j]]:=uP aw
theorem U4:(qM p).foldl (r5 p) (qp p.1.length)=Jf p:=by
 unfold Jf;obtain ⟨r,ai⟩:=all_cons (p:=p);rw [ai];show List.foldl _ (r5 p _ _) r=_;rw [show r5 p (qp p.1.length) (qp p.1.length)=qp p.1.length by unfold r5;split <;> rfl];rfl
theorem RR (h:rk p):∀ (m j:Nat) (b:List Int),1≤j→j≤(qM p).length→(qM p).length-j<m→b=((qM p).take j).foldl (r5 p) (qp p.1.length) →
  KO p (fun z=>some (z,0)) m b (q' p b) ((qM p)[j]?.getD [])=some (Jf p,0)
 | 0,_,_,_,_,h,_=>absurd h (by omega)
 | m+1,j,b,ab,aw,hm,af=>by
   have hlen:=h.len;rw [KO];by_cases aR:j<(qM p).length
   ·rw [sm aR,tL];have al:=Ka.1 (tt aR);rw [if_pos (decide_eq_true (by rw [al.1];omega)),Tu h al,sc];have aj:Ii (qM p)[j]=some ((qM p)[j+1]?.getD []):=PZ (by omega) (by omega) aR;have bu:r5 p b (qM p)[j]=((qM p).take (j+1)).foldl (r5 p) (qp p.1.length):=by
     rw [N8 aR,List.foldl_append,←af];rfl
    by_cases ak:q' p (qM p)[j]<q' p b
    ·rw [if_pos (decide_eq_true ak),aj,sc];refine RR h m (j+1) _ (by omega) (by omega) (by omega) ?_;rw [←bu];unfold r5;rw [if_pos ak]
    ·rw [if_neg (by simpa using ak),aj,sc];refine RR h m (j+1) _ (by omega) (by omega) (by omega) ?_;rw [←bu];unfold r5;rw [if_neg ak]
   ·rw [tO (by omega),vR,if_neg (by decide)];rw [tb (by omega),U4] at af;rw [af]
theorem Tb (n:Nat):qB n (qp n):=Lo.2 (.refl _)
theorem Zx (aB:p.1.length≤1000):MT p=some (if qY p=0 then (Jf p,0) else ([],qY p)):=by
 unfold MT;rw [PY aB,sc,sc];by_cases h:qY p=0
 ·rw [if_neg (show ¬ decide (qY p≠0)=true by simpa using h),if_pos h];have ad:=Jg.1 h;have ao:=ad.len;rw [Tm aB,sc,Tu ad (Tb _),sc];obtain ⟨r,ai⟩:=all_cons (p:=p);have aQ:0<(qM p).length:=by rw [ai];simp
  have f_:(qM p)[0]=qp p.1.length:=by simp [ai]
  have aj:Ii (qM p)[0]=some ((qM p)[0+1]?.getD []):=PZ (by omega) (by omega) aQ;rw [f_] at aj;rw [aj,sc];refine RR ad qi 1 _ (by omega) (by omega) (r6 (by have:=Ku ad;omega)) ?_;rw [N8 (j:=0) aQ,f_];show _=r5 p _ _;unfold r5;split <;> rfl
 ·rw [if_pos (decide_eq_true h),if_neg h]
theorem aiR (h:rk p) {x y:List Int} (aj:qB p.1.length x) (aY:qB p.1.length y):KU (p,()) x y=some (decide (q' p x<q' p y)):=by
 unfold KU;rw [Og h aj,sc,Og h aY,sc]
theorem RS (h:rk p):∀ (m j:Nat) (b:List Int),1+j≤(qM p).length→(qM p).length-(1+j)<m→b=(((qM p).drop 1).take j).foldl (r5 p) (qp p.1.length)→qB p.1.length b →
  KT (qM p) (KU (p,())) (fun z=>some z) m b (j:Int)=some (Jf p)
 | 0,_,_,_,h,_,_=>absurd h (by omega)
 | m+1,j,b,aw,hm,af,bS=>by
   have RM:=Ku h;rw [KT];have e1:((1:Int)).toNat=1:=rfl;rw [e1];(have el:((qM p).drop 1).length=(qM p).length-1:=by simp);by_cases aR:j<((qM p).drop 1).length
   ·rw [if_pos (decide_eq_true (by omega)),qx (by omega),rI aR];have kI:((qM p).drop 1)[j]∈qM p:=uC (tt aR);have al:=Ka.1 kI;rw [aiR h al bS,sc,Hr j (by omega)];have bu:r5 p b ((qM p).drop 1)[j]=(((qM p).drop 1).take (j+1)).foldl (r5 p) (qp p.1.length):=by
     rw [N8 aR,List.foldl_append,←af];rfl
    by_cases ak:q' p ((qM p).drop 1)[j]<q' p b
    ·rw [if_pos (decide_eq_true ak)];refine RS h m (j+1) _ (by omega) (by omega) ?_ al;rw [←bu];unfold r5;rw [if_pos ak]
    ·rw [if_neg (by simpa using ak)];refine RS h m (j+1) _ (by omega) (by omega) ?_ bS;rw [←bu];unfold r5;rw [if_neg ak]
   ·rw [if_neg (by simpa using by omega)];rw [tb (by omega)] at af;rw [af];rfl
theorem Te (aB:p.1.length≤1000):KN p=some (if qY p=0 then (Jf p,0) else ([],qY p)):=by
 unfold KN;rw [Tr aB,sc];by_cases h:qY p=0
 ·rw [if_pos h,if_pos h];have ad:=Jg.1 h;have ao:=ad.len;simp only;rw [if_neg (by decide),qx (show 0<p.1.length∧p.1.length≤7 by omega)];show (Oi (qM p) (KU (p,()))).bind _=_;obtain ⟨r,ai⟩:=all_cons (p:=p);have aQ:0<(qM p).length:=by rw [ai];simp
  unfold Oi;rw [qx (by omega),qx (by omega)];have f_:ix (qM p) (0:Int)=qp p.1.length:=by rw [ai];rfl
  rw [f_];have:=RS ad qi 0 (qp p.1.length) (by omega) (r6 (by have:=Ku ad;omega)) rfl (Tb _);rw [show ((0:Nat):Int)=0 from rfl] at this;rw [this,sc]
 ·rw [if_neg h,if_neg h];simp only;rw [if_pos (decide_eq_true h)]
theorem Vb (q:List Int→Bool) (l:List (List Int)):(l.filter q).length≤l.length:=uS _ _
theorem We (h:rk p):∀ (m j:Nat),j≤(qM p).length→(qM p).length-j<m →
  KP p (fun z=>some (z,0)) m (((qM p).take j).filter fun o=>decide (q' p o=0)).length ((qM p)[j]?.getD [])=some ((Nh p:Int),0)
 | 0,_,_,h=>absurd h (by omega)
 | m+1,j,aw,hm=>by
   have hlen:=h.len;have RM:=Ku h;rw [KP];by_cases aR:j<(qM p).length
   ·rw [sm aR,tL];have al:=Ka.1 (tt aR);rw [if_pos (decide_eq_true (by rw [al.1];omega)),Tu h al,sc];have aj:Ii (qM p)[j]=some ((qM p)[j+1]?.getD []):=PZ (by omega) (by omega) aR;have a8:=We h m (j+1) (by omega) (by omega);rw [N8 aR,tE,sD] at a8;have jJ:=Vb (fun o=>decide (q' p o=0)) ((qM p).take j);rw [s9] at jJ;by_cases ak:q' p (qM p)[j]=0
    ·rw [if_pos (decide_eq_true ak),aj,sc,Hr _ (by omega)];rw [show ([(qM p)[j]].filter fun o=>decide (q' p o=0)).length=1 by simp [ak]] at a8;exact a8
    ·rw [if_neg (by simpa using ak),aj,sc];rw [show ([(qM p)[j]].filter fun o=>decide (q' p o=0)).length=0 by simp [ak]] at a8;exact a8
   ·rw [tO (by omega),vR,if_neg (by decide),tb (by omega)];rfl
theorem ain (aB:p.1.length≤1000):Oc p=some (if qY p=0 then ((Nh p:Int),0) else (0,qY p)):=by
 unfold Oc;rw [PY aB,sc,sc];by_cases h:qY p=0
 ·rw [if_neg (show ¬ decide (qY p≠0)=true by simpa using h),if_pos h];have ad:=Jg.1 h;rw [Tm aB,sc];have:=We ad qi 0 (by omega) (r6 (by have:=Ku ad;omega));rw [QF] at this;exact this
 ·rw [if_pos (decide_eq_true h),if_neg h]
theorem Vp (h:rk p):∀ (l r:List (List Int)),qM p=r++l→IA (J4 (p,())) l ((r.filter fun o=>decide (q' p o=0)).length:Int)=some ((Nh p:Int))
 | [],r,e=>by rw [sM] at e;subst e;rfl
 | o::l,r,e=>by
   have RM:=Ku h;have al:qB p.1.length o:=Ka.1 (by rw [e];simp);(have hlen:r.length+(l.length+1)=(qM p).length:=by rw [e];simp);have jJ:=Vb (fun o=>decide (q' p o=0)) r;have a8:=Vp h l (r++[o]) (by rw [e];simp);rw [tE,sD] at a8;show (J4 (p,()) _ o).bind (IA (J4 (p,())) l)=_;unfold J4;rw [Og h al,sc,sc];by_cases ak:q' p o=0
   ·rw [if_pos (decide_eq_true ak),Hr _ (by omega)];rw [show ([o].filter fun o=>decide (q' p o=0)).length=1 by simp [ak]] at a8;exact a8
   ·rw [if_neg (by simpa using ak)];rw [show ([o].filter fun o=>decide (q' p o=0)).length=0 by simp [ak]] at a8;exact a8
theorem Zz (aB:p.1.length≤1000):LH p=some (if qY p=0 then ((Nh p:Int),0) else (0,qY p)):=by
 unfold LH;rw [Tr aB,sc];by_cases h:qY p=0
 ·rw [if_pos h,if_pos h];have ad:=Jg.1 h;have ao:=ad.len;simp only;rw [if_neg (by decide),qx (show 0<p.1.length∧p.1.length≤7 by omega)];have:=Vp ad (qM p) [] rfl;show (IA (J4 (p,())) (qM p) 0).bind _=_;have this:IA (J4 (p,())) (qM p) 0=some ((Nh p:Int)):=this;rw [this,sc]
 ·rw [if_neg h,if_neg h];simp only;rw [if_pos (decide_eq_true h)]
theorem abY (p:qn) (E:List (List Int)):∀ (b:List Int),(E.foldl (r5 p) b=b∨E.foldl (r5 p) b∈E)∧q' p (E.foldl (r5 p) b)≤q' p b∧∀ o∈E,q' p (E.foldl (r5 p) b)≤q' p o:=by
 induction E with
 | nil=>intro b;exact ⟨.inl rfl,sY _,by simp⟩
 | cons a E a8 =>
   intro b;obtain ⟨ab,ae,aF⟩:=a8 (r5 p b a);have af:(r5 p b a=b∨r5 p b a=a)∧q' p (r5 p b a)≤q' p b∧q' p (r5 p b a)≤q' p a:=by
    unfold r5;split
    ·exact ⟨.inr rfl,by omega,by omega⟩
    ·exact ⟨.inl rfl,by omega,by omega⟩
   rw [List.foldl_cons];refine ⟨?_,by omega,fun o aq=>?_⟩
   ·rcases ab with ab | ab
    ·rcases af.1 with e | e
     ·left;rw [ab,e]
     ·right;rw [ab,e];simp
    ·right;simp [ab]
   ·rcases sy.1 aq with rfl | aq
    ·omega
    ·exact aF o aq
theorem Q1 (p:qn):qB p.1.length (Jf p):=by
 rw [←U4];obtain ⟨ab,_,_⟩:=abY p (qM p) (qp p.1.length);rcases ab with ab | ab
 ·rw [ab];exact Tb _
 ·exact Ka.1 ab
theorem Zv (aB:p.1.length≤1000):LG p=some (if qY p=0 then (q' p (Jf p),0) else (0,qY p)):=by
 unfold LG;rw [Te aB,sc];by_cases h:qY p=0
 ·rw [if_pos h,if_pos h];have ad:=Jg.1 h;have af:=Q1 p;simp only;rw [if_neg (by simp),Tk aB (by rw [af.1];have:=ad.len;omega),if_pos (Lp.2 ⟨ad,af⟩)];rfl
 ·rw [if_neg h,if_neg h];simp only;rw [if_pos (decide_eq_true h)]
theorem aik (aB:p.1.length≤1000):Ob p=some (if qY p=0 then (q' p (Jf p),0) else (0,qY p)):=by
 unfold Ob;rw [Zx aB,sc];by_cases h:qY p=0
 ·rw [if_pos h,if_pos h];have ad:=Jg.1 h;simp only;rw [if_neg (by simp),ZG ad (Q1 p)];rfl
 ·rw [if_neg h,if_neg h];simp only;rw [if_pos (decide_eq_true h)]
end
end Go.Proofs.YtkoioidpbbbaiaaGreat.Ab


namespace Go.Proofs.YtkoioidpbbbaiaaGreat.Ab
open Go
set_option maxRecDepth 20000
set_option maxHeartbeats 4000000
def Ho (N:Nat) (H H':List ar):Prop:=H.length≤H'.length∧∀ (j:Nat) (c:List I),N≤j→H[j]?=some (.cells c)→H'[j]?=some (.cells c)
theorem Ho.refl (N:Nat) (H:List ar):Ho N H H:=⟨se _,fun _ _ _ h=>h⟩
theorem Ho.trans {N:Nat} {H H1 H2:List ar} (h:Ho N H H1) (k:Ho N H1 H2):Ho N H H2:=⟨Nat.le_trans h.1 k.1,fun j c aw ak=>k.2 j c aw (h.2 j c aw ak)⟩
structure QC (l N:Nat) (Inv:Nat→List ar→Prop):Prop where
 len:∀ i H,Inv i H→l<N∧N≤H.length
 more:∀ i H Z,Inv i H→Inv i (H++Z)
 set:∀ i H j c dR,Inv i H→N≤j→H[j]?=some (.cells c)→Inv i (H.set j (.cells dR))
def TX (P:Program) (k:FuncId) (cap:List I) (E:List I):Prop :=
 ∀ (l N:Nat) (Inv:Nat→List ar→Prop),QC l N Inv →
   (∀ (i:Nat) (h:i<E.length) (H:List ar),Inv i H→∃ H',Inv (i+1) H'∧Ho N H H'∧Sem P (.yield l) [E[i]] H 0 (.bool true) H') →
   ∀ H,Inv 0 H→∃ H',Inv E.length H'∧Sem P (.fn k) (.yield l::cap) H 0 (.tuple []) H'
structure Ik (L:Nat) (b:I) (p:Nat) (U:List Int) (H:List ar):Prop where
 y:H[p]?=some (.cells [.yield L])
 u:H[p+1]?=some (.cells (U.map hX))
 g:H[p+2]?=some (.cells [I2 b p])
theorem Ik.set {L p:Nat} {b:I} {U:List Int} {H:List ar} (h:Ik L b p U H) (Na:List Int):Ik L b p Na (H.set (p+1) (.cells (Na.map hX))) :=
 ⟨by rw [sf (by omega)];exact h.y,sn (sd.1 h.u).1,by rw [sf (by omega)];exact h.g⟩
theorem Ik.cB {L p N:Nat} {b:I} {U:List Int} {H H':List ar} (h:Ik L b p U H) (aB:N≤p) (k:Ho N H H'):Ik L b p U H':=⟨k.2 _ _ aB h.y,k.2 _ _ (by omega) h.u,k.2 _ _ (by omega) h.g⟩
theorem ahE {LC LD:I} {Q:cN→List I→List ar→Prop} {begun:List Int} {i n:Nat} {H:List ar} {L p:Nat} {b:I} {U:List Int} (l7:Ik L b p U H) (r9:U.length=7) (hi:i<7) (af:begun.length≤7)
  (dT:∃ H',Ik L b p U H'∧Sem Tryz.prog (.fn 71) [.av ((begun++[(i:Int)]).map hX) (begun++[(i:Int)]).length (.uniq 1),b,.ptr p 0,.ptr (p+1) 0,.ptr (p+2) 0] H 0 (.bool true) H' ∧
   Q .normal (qg 52 [(0,Hi begun),(3,.ptr (p+1) 0),(4,.ptr (p+2) 0),(26,hX n),(27,hX i),(28,LC),(33,LD),(50,.bool false)]) (H'.set (p+1) (.cells ((U.set i 0).map hX)))) :
  dN Tryz.prog Kw 71 0 none Ls (qg 52 [(0,Hi begun),(3,.ptr (p+1) 0),(4,.ptr (p+2) 0),(7,hX i),(26,hX n),(27,hX i),(28,LC),(33,LD)]) H Q:=by
 obtain ⟨H',ac2,cl,bo⟩:=dT;have fin:∀ dE,dE=qg 52 [(0,Hi begun),(3,.ptr (p+1) 0),(4,.ptr (p+2) 0),(7,hX i),(8,.bool true),(26,hX n),(27,hX i),(28,LC),(33,LD)]→dN Tryz.prog Kw 71 0 none NW dE H' Q:=by
  rintro _ rfl;unfold NW;conv=>whnf
  refine ⟨by omega,?_⟩;conv=>whnf
  refine Ew ac2.u ?_;conv=>whnf
  rw [show 0+(i:Int).toNat*1=i by omega];refine Gn (by simp;omega) ?_;conv=>whnf
  rw [show (List.map hX U).set i (I.int IntKind.i64 0)=(U.set i 0).map hX by rw [tQ]];exact bo
 unfold Ls;cases begun with
 | nil =>
   (conv=>whnf);refine Ew l7.g ?_;(conv=>whnf);refine ⟨⟨by decide,by decide,by decide⟩,?_⟩;(conv=>whnf);refine ⟨rfl,by decide,?_⟩;(conv=>whnf);refine ⟨by decide,by decide,rfl,?_⟩;(conv=>whnf);refine ⟨_,_,rH cl,?_⟩;(conv=>whnf);exact fin _ rfl
 | cons a l =>
   (conv=>whnf);refine Ew l7.g ?_;(conv=>whnf);refine ⟨⟨rfl,by omega,sY _⟩,?_⟩;(conv=>whnf);rw [tD,tz,tb (by simp)];refine ⟨rfl,by decide,?_⟩;(conv=>whnf);refine ⟨by decide,by omega,by simp,?_⟩;(conv=>whnf);(have e1:List.map hX (a::l)++[hX (i:Int)]=((a::l)++[(i:Int)]).map hX:=by simp);(have b9:(a::l).length+1=((a::l)++[(i:Int)]).length:=by simp);refine ⟨_,_,rH (by erw [e1,b9];exact cl),?_⟩;(conv=>whnf);exact fin _ rfl
def aa2 (L N:Nat) (Inv:Nat→List ar→Prop) (c:Nat) (begun:List Int) (E:List (List Int)):Prop :=
 ∀ (j:Nat) (l:List Int),E[j]?=some l→∀ H:List ar,Inv (c+j) H→∃ H',Inv (c+j+1) H'∧Ho N H H'∧Sem Tryz.prog (.yield L) [Hi (begun++l)] H 0 (.bool true) H'
theorem VJ {b:((List (Int×Int))×(Int×Int))×Unit} (qS:b.1.1.length≤7) (iP:0<b.1.1.length) {L N:Nat} {Inv:Nat→List ar→Prop} (kB:QC L N Inv) {p:Nat} (aB:N≤p) :
  ∀ (k:Nat) (begun:List Int) (IW:hB) (U:List Int) (c:Nat),U.length=7→(∀ i,0≤U.getD i 0)→begun.length+k=b.1.1.length→(rJ U b.1.1.length).length=k→((IW=.full∧begun=[])∨IW=.uniq 1∧begun≠[])→aa2 L N Inv c begun (qV k (rJ U b.1.1.length)) →
  ∀ H,Inv c H→Ik L (.bR [lj b]) p U H→∃ H',Inv (c+(qV k (rJ U b.1.1.length)).length) H'∧Ho N H H'∧Sem Tryz.prog (.fn 71) [.av (begun.map hX) begun.length IW,.bR [lj b],.ptr p 0,.ptr (p+1) 0,.ptr (p+2) 0] H 0 (.bool true) H'
 | 0,begun,IW,U,c,r9,_,al,ao,CM,ai,H,ag,l7=>by
   obtain ⟨H',ac0,ac1,cl⟩:=ai 0 [] rfl H ag;(have bI:begun≠[]:=fun e=>by subst e;simp at al;omega);have CM:IW=.uniq 1:=by
    rcases CM with ⟨_,h⟩ | ⟨h,_⟩
    ·exact absurd h bI
    ·exact h
   subst CM;obtain ⟨a,l,rfl⟩:=tY bI;rw [sM] at cl;refine ⟨H',ac0,ac1,?_⟩;refine rL eD O' rfl cl.1 fun Q bo=>?_;unfold Lr Lt;obtain ⟨fY,Hp⟩:∃ c,JF=c:=⟨_,rfl⟩;rw [Hp];(conv=>whnf);rw [decide_eq_true (show (((a::l).length:Nat):Int)=(b.1.1.length:Int) by omega)];(conv=>whnf);refine Ew l7.y ?_;(conv=>whnf);refine ⟨_,_,rH cl,?_⟩;(conv=>whnf);exact bo _ _ _ ⟨.inr rfl,lF.refl _,rfl⟩
 | k+1,begun,IW,U,c,r9,Ns,al,ao,CM,ai,H,ag,l7=>by
   obtain ⟨n,aI⟩:∃ n,n=b.1.1.length:=⟨_,rfl⟩;have M_:=VJ (L:=L) qS iP kB aB k;rw [←aI] at qS iP al ao ai M_ ⊢
   obtain ⟨J1,Ld,KB⟩:=OJ (fun i rR H9=>i<n→Inv (c+Hh k U n i) rR∧Ik L (.bR [lj b]) p U rR →
    (Inv (c+Hh k U n (i+1)) H9∧Ik L (.bR [lj b]) p U H9∧Ho N rR H9) ∧
    (U.getD i 0=0→∃ H2,Ik L (.bR [lj b]) p (U.set i 1) H2∧H9=H2.set (p+1) (.cells (U.map hX))∧Sem Tryz.prog (.fn 71) [.av ((begun++[(i:Int)]).map hX) (begun++[(i:Int)]).length (.uniq 1),.bR [lj b],.ptr p 0,.ptr (p+1) 0,.ptr (p+2) 0] (rR.set (p+1) (.cells ((U.set i 1).map hX))) 0 (.bool true) H2)∧(U.getD i 0≠0→H9=rR)) H (fun i rR=>by
    by_cases aP:i<n∧Inv (c+Hh k U n i) rR∧Ik L (.bR [lj b]) p U rR
    ·obtain ⟨hi,aP⟩:=aP;by_cases aQ:U.getD i 0=0
     ·have hm:(i:Int)∈rJ U n:=WV.2 ⟨i,hi,aQ,rfl⟩
      obtain ⟨H2,aA,aG,aT⟩:=M_ (begun++[(i:Int)]) (.uniq 1) (U.set i 1) (c+Hh k U n i) (by simpa using r9) (YO Ns) (by simp;omega) (by rw [Ml (by omega) aQ,tR hm];omega) (.inr ⟨rfl,by simp⟩) (fun j l aw H' b7=>by
       rw [Ml (by omega) aQ] at aw;rw [show c+Hh k U n i+j=c+(Hh k U n i+j) by omega] at b7 ⊢;obtain ⟨hC,bl,cr,eY⟩:=ai _ _ (WC hi aQ aw) H' b7;refine ⟨hC,bl,cr,?_⟩
       rw [sC];exact eY) (rR.set (p+1) (.cells ((U.set i 1).map hX))) (kB.set _ _ _ _ _ aP.1 (by omega) aP.2.u) (aP.2.set _)
      rw [Ml (by omega) aQ] at aA;have Mf:Ik L (.bR [lj b]) p (U.set i 1) H2:=(aP.2.set (U.set i 1)).cB aB aG;refine ⟨H2.set (p+1) (.cells (U.map hX)),fun _ _=>⟨⟨?_,Mf.set U,?_⟩,fun _=>⟨H2,Mf,rfl,aT⟩,fun h=>absurd aQ h⟩⟩
      ·rw [OL,if_pos aQ,←Nat.add_assoc];exact kB.set _ _ _ _ _ aA (by omega) Mf.u
      ·refine ⟨by have:=aG.1;simp at this ⊢;omega,fun j cs aw ak=>?_⟩;by_cases e:j=p+1
       ·subst e;rw [aP.2.u] at ak;rw [←Option.some.inj ak];exact (Mf.set U).u
       ·rw [sf (by omega)];exact aG.2 j cs aw (by rw [sf (by omega)];exact ak)
     ·refine ⟨rR,fun _ _=>⟨⟨?_,aP.2,Ho.refl _ _⟩,fun ab=>absurd ab aQ,fun _=>rfl⟩⟩;rw [OL,if_neg aQ];exact aP.1
    ·exact ⟨rR,fun ab h=>absurd ⟨ab,h⟩ aP⟩)
   have cY:∀ i,i≤n→Inv (c+Hh k U n i) (J1 i)∧Ik L (.bR [lj b]) p U (J1 i)∧Ho N H (J1 i):=fun i=>by
    induction i with
    | zero=>intro _;rw [Ld];exact ⟨ag,l7,Ho.refl _ _⟩
    | succ i a8 =>
      intro hi;obtain ⟨aA,aG,aT⟩:=a8 (by omega);obtain ⟨⟨bl,cr,eY⟩,_,_⟩:=KB i (by omega) ⟨aA,aG⟩;exact ⟨bl,cr,aT.trans eY⟩
   have RH:Hh k U n n=(qV (k+1) (rJ U n)).length:=rfl;refine ⟨J1 n,by rw [←RH];exact (cY n (se _)).1,(cY n (se _)).2.2,?_⟩;refine rL eD O' rfl (IP (cY n (se _)).2.2.1) fun Q bo=>?_;have main:∀ T,T=qg 52 [(0,Hi begun),(1,.bR [lj b]),(2,.ptr p 0),(3,.ptr (p+1) 0),(4,.ptr (p+2) 0),(6,.bool false),(17,.bool false)]→dN Tryz.prog Kw 71 0 none JF T H Q:=by
    rintro _ rfl;unfold JF SK SJ;obtain ⟨br,eP⟩:∃ c,Ls=c:=⟨_,rfl⟩;rw [eP];(conv=>whnf);rw [←aI];refine .intro (fun m T H'=>∃ i:Nat,i≤n∧m=n-i∧T=qg 52 [(0,Hi begun),(3,.ptr (p+1) 0),(4,.ptr (p+2) 0),(26,hX n),(27,hX i)]∧H'=J1 i) n ⟨0,sE _,rfl,rfl,Ld.symm⟩ ?_;rintro m T H' ⟨i,hi,rfl,rfl,rfl⟩;(conv=>whnf);refine HH (fun aR=>?_) (fun aR=>?_)
    ·(have hc:i<n:=by omega);obtain ⟨aA,aG,_⟩:=cY i hi;obtain ⟨_,a7,a9⟩:=KB i hc ⟨aA,aG⟩;(conv=>whnf);refine ⟨by omega,?_⟩;(conv=>whnf);refine Ew aG.u ?_;(conv=>whnf);rw [show 0+(i:Int).toNat*1=i by omega];refine Ew (x:=hX (U.getD i 0)) (by rw [sq,sB,sm (show i<U.length by omega)];rfl) ?_;(conv=>whnf);(have rK:IntKind.i64.wrap ((i:Int)+1)=((i+1:Nat):Int):=by rw [HR _ (by omega) (by omega)];omega);refine HH (fun aQ=>?_) (fun aQ=>?_)
     ·(conv=>whnf);refine ⟨n-(i+1),by omega,i+1,by omega,rfl,by rw [rK];rfl,?_⟩;rw [a9 (by omega)]
     ·(have Np:U.getD i 0=0:=by have:=Ns i;omega);obtain ⟨H2,Mf,adt,cl⟩:=a7 Np;(conv=>whnf);refine ⟨by omega,?_⟩;(conv=>whnf);refine Ew aG.u ?_;(conv=>whnf);rw [show 0+(i:Int).toNat*1=i by omega];refine Gn (by simp;omega) ?_;(conv=>whnf);rw [show (List.map hX U).set i (I.int IntKind.i64 1)=(U.set i 1).map hX by rw [tQ]];subst eP;refine ahE (aG.set (U.set i 1)) (by simpa using r9) (by omega) (by omega) ⟨H2,Mf,cl,?_⟩;(conv=>whnf);refine ⟨n-(i+1),by omega,i+1,by omega,rfl,by rw [rK];rfl,?_⟩;rw [List.set_set,YM (by omega) Np,adt]
    ·(obtain rfl:i=n:=by omega);(conv=>whnf);exact bo _ _ _ ⟨.inr rfl,lF.refl _,rfl⟩
   rcases CM with ⟨rfl,rfl⟩ | ⟨rfl,bI⟩
   ·unfold Lr Lt;obtain ⟨fY,Hp⟩:∃ c,JF=c:=⟨_,rfl⟩;rw [Hp];(conv=>whnf);rw [decide_eq_false (show ¬ (((([]:List Int).length:Nat):Int)=(b.1.1.length:Int)) by simp only [List.length_nil];omega)];(conv=>whnf);subst Hp;exact main _ rfl
   ·obtain ⟨a,l,rfl⟩:=tY bI;unfold Lr Lt;obtain ⟨fY,Hp⟩:∃ c,JF=c:=⟨_,rfl⟩;rw [Hp];(conv=>whnf);rw [decide_eq_false (show ¬ ((((a::l).length:Nat):Int)=(b.1.1.length:Int)) by omega)];(conv=>whnf);subst Hp;exact main _ rfl
theorem aho {b:((List (Int×Int))×(Int×Int))×Unit} (qS:b.1.1.length≤7) (iP:0<b.1.1.length):TX Tryz.prog 70 [.bR [lj b]] ((qV b.1.1.length (qp b.1.1.length)).map Hi):=by
 intro L N Inv kB ai H ag;have jQ:=WB qS;obtain ⟨H1,bV⟩:∃ H1,H1=((H++[.cells [.yield L]])++[.cells [hX 0,hX 0,hX 0,hX 0,hX 0,hX 0,hX 0]])++[.cells [I2 (.bR [lj b]) H.length]]:=⟨_,rfl⟩;have l1:(H++[ar.cells [I.yield L]]).length=H.length+1:=by simp
 have l2:((H++[ar.cells [I.yield L]])++[ar.cells [I.int IntKind.i64 0,I.int IntKind.i64 0,I.int IntKind.i64 0,I.int IntKind.i64 0,I.int IntKind.i64 0,I.int IntKind.i64 0,I.int IntKind.i64 0]]).length=H.length+2:=by simp
 have l7:Ik L (.bR [lj b]) H.length [0,0,0,0,0,0,0] H1:=by
  subst bV;refine ⟨?_,?_,?_⟩
  ·rw [sC,sk (by rw [l1];omega)];exact I3 _ _
  ·rw [sk (by rw [l2];omega),←l1];exact I3 _ _
  ·rw [←l2];exact I3 _ _
 obtain ⟨H',aA,aG,aT⟩:=VJ (b:=b) (L:=L) qS iP kB (kB.len _ _ ag).2 b.1.1.length [] .full [0,0,0,0,0,0,0] 0 rfl (fun i=>by
  rw [sB]
  match i with
  | 0 | 1 | 2 | 3 | 4 | 5 | 6 | i+7=>simp) (by simp) (by rw [jQ];simp [qp]) (.inl ⟨rfl,rfl⟩) (fun j l aw H' b7=>by
    rw [jQ] at aw;obtain ⟨ab,ae⟩:=sd.1 aw;rw [sG] at b7 ⊢;obtain ⟨H2,bl,cr,eY⟩:=ai j (by simpa using ab) H' b7;rw [tX,ae] at eY
    exact ⟨H2,bl,cr,eY⟩) H1 (by rw [bV,sC,sC];exact kB.more _ _ _ ag) l7
 rw [jQ,sG] at aA;refine ⟨H',by rw [sZ];exact aA,?_⟩;refine rL eD WM rfl (IP (by have:=aG.1;rw [bV] at this;simp at this;omega)) fun Q bo=>?_;rw [bV] at aT;unfold SH SI;conv=>whnf
 refine Ew (x:=.cells [.a0]) (by simp) ?_;conv=>whnf
 rw [HK];refine Ew (x:=.cells [I2 (.bR [lj b]) H.length]) (by rw [List.getElem?_append_right (se _),l1,l2,Nat.sub_self];rfl) ?_;conv=>whnf
 refine ⟨_,_,rH (by rw [l1,l2];exact aT),?_⟩;conv=>whnf
 exact bo _ _ _ ⟨.inl rfl,lF.refl _,rfl⟩
theorem ahh {α:Type} {P:Program} {A:dt} {fn:FuncId} {rl:Option Nat} {k:FuncId} {cap:List I} {t:Nat} {bp:List Nat} {gE cp:Code} {T:List I} {H:List ar} {Q:cN→List I→List ar→Prop} {f:α→I} {L:List α} (IE:TX P k cap (L.map f))
  (ax:dc T t=.func k [] cap) {Inv:Nat→List ar→Prop} (kB:QC H.length (H.length+1) Inv) (aQ:Inv 0 (H++[.loop .ready none fn (T.map I.view) bp gE cp A]))
  (Lk:∀ (i:Nat) (h:i<L.length) (H1:List ar),Inv i H1→∃ H',Inv (i+1) H'∧Ho (H.length+1) H1 H'∧Sem P (.yield H.length) [f L[i]] H1 0 (.bool true) H')
  (hc:inLoop H rl=true) (adF:∀ H',Inv L.length H'→H'[H.length]?=some (.loop .ready none fn (T.map I.view) bp gE cp A)) (bo:∀ H',Inv L.length H'→Q .normal (T.map I.settle) (H'.set H.length .dead)):dN P A fn 0 rl (.AM (.m_ t) bp gE cp) T H Q:=by
 show hF T t _;rw [iN,ax]
 obtain ⟨H',b7,cl⟩:=IE H.length (H.length+1) Inv kB (fun i h H1 bV=>by
  have aX:i<L.length:=by simpa using h
  obtain ⟨H2,bl,cr,eY⟩:=Lk i aX H1 bV
  exact ⟨H2,bl,cr,by rw [tX];exact eY⟩) _ aQ
 rw [sZ] at b7;refine ⟨hc,.tuple [],H',.ready,none,fn,T.map I.view,bp,gE,cp,A,cl,adF _ b7,by decide,bo _ b7⟩
end Go.Proofs.YtkoioidpbbbaiaaGreat.Ab


namespace Go.Proofs.YtkoioidpbbbaiaaGreat.Ab
open Go
noncomputable def Yv:gB :=
 .ou false [p4 7 27]
noncomputable def N0:gB :=
 p5 [p4 58 11,p4 59 58,ch 60 [.jm 13] 59 true .mR,p3 61 [.Bs 59,.Bs 60,.cv (.bool false)] .pick] (.cond (.m_ 61) (qF [p4 62 9,p3 63 [.m_ 6,.Bs 62] (.zu 7 1),⟨none,[.jm 63,.cv (.int .i64 1)],none,none,.st 1⟩]) .skip)
noncomputable def N1:gB :=
 p5 [p3 49 [.m_ 4] (.zE .one),p6 50 7,p6 51 8,qv 52 51 2 .rem,p4 53 8,p3 54 [.Bs 53] (.yB 1 1 [.int .i64 0] [0]),p3 55 [.cv (.func 60 [] []),.jm 49,.jm 50,.jm 52,.jm 54] (.call 1),p4 48 55,qR 56 48 0,p3 57 [.Bs 48] (.ext 1),p4 12 56,p4 13 57] N0
noncomputable def Px:gB :=
 p5 [p3 40 [.m_ 4] (.zE .one),p6 41 7,p6 42 8,qv 43 42 2 .rem,p3 44 [.cv (.int .i64 1),.Bs 43] (.bin .sub),p3 45 [.cv (.func 60 [] []),.jm 40,.jm 41,.jm 44,.cv (.av [] 0 .full)] (.call 1),p4 39 45,qR 46 39 0,p3 47 [.Bs 39] (.ext 1),p4 10 46,p4 11 47] N1
noncomputable def YA:gB :=
 .seq (p5 [p6 35 9,p3 36 [.m_ 6,.Bs 35] (.zu 7 1),qm 37 36,qv 38 37 0 .gtr] (.cond (.m_ 38) (.exit 3) .skip)) Px
noncomputable def SY:gB :=
 .block 3 (p5 [p6 32 30,p3 33 [.m_ 28,.m_ 30] (.kV 1),qm 34 33,p4 8 32,p4 9 34] YA)
noncomputable def Yz:gB :=
 .block 1 (p5 [p6 28 7,p3 29 [.m_ 28] .zJ,qh 30 0] (.block 2 (.loop (some (qd false [4,1,1,2,20,3,55])) (p5 [p3 31 [.m_ 30,.m_ 29] (.bin .lss)] (.seq (.cond (.m_ 31) .skip (.exit 2)) (.seq SY (qF [qW 64 30 1,p4 30 64])))))))
theorem aeu:eu Go.Proofs.Tryz.prog JS (rD Go.Proofs.Tryz.prog 24 0) 0=some Yv:=by qb
theorem aey:eu Go.Proofs.Tryz.prog JS (rE Go.Proofs.Tryz.prog 24 0) 0=some Yz:=by qb
end Go.Proofs.YtkoioidpbbbaiaaGreat.Ab


namespace Go.Proofs.YtkoioidpbbbaiaaGreat.Ab
open Go
set_option maxRecDepth 20000
set_option maxHeartbeats 4000000
def JU (b:sa) (o:List Int) (F:List Int) (i:Int):Option (List Int) :=
 qs (0≤ix o i∧ix o i<7) <|
 if 0<ix F (ix o i) then some F else
 (Ix b o (w (1-i.tmod 2)) []).bind fun x=>(Ix b o (i.tmod 2) [i]).bind fun y =>
 some (if (x.2 && y.2)=true then F.set (ix o i).toNat 1 else F)
theorem HX.r4 {b:sa} {m j:Nat} {H:List ar} {o cw:ar} (h:HX b m H) (aw:H[j]?=some o) (hm:∀ es c,o≠.map es c):HX b m (H.set j cw):=by
 obtain ⟨es,IX,ab,ae⟩:=h;have adG:j≠m:=fun e=>by subst e;rw [ab] at aw;exact hm _ _ (Option.some.inj aw).symm
 refine ⟨es,IX,by rw [sf adG];exact ab,fun e he=>?_⟩;obtain ⟨x,id,c,A,aA,aG,aT,bq,bf⟩:=ae e he;have h7:j≠id:=fun e=>by subst e;rw [bq] at aw;exact hm _ _ (Option.some.inj aw).symm
 exact ⟨x,id,c,A,aA,aG,aT,by rw [sf h7];exact bq,bf⟩
structure Good (b:sa) (rZ:ar) (F:List Int) (H:List ar):Prop where
 f:HX b 0 H
 p:H[1]?=some (.cells [r1 b 0])
 m:H[2]?=some (.cells (F.map hX))
 l:H[3]?=some rZ
 n:F.length=7
theorem Good.ext {b:sa} {rZ:ar} {F:List Int} {H H':List ar} (h:Good b rZ F H) (aP:HX b 0 H') (he:Ij 0 H H'):Good b rZ F H':=by
 have aF:=(sd.1 h.l).1;exact ⟨aP,by rw [he.2 1 (by omega) (by omega)];exact h.p,by rw [he.2 2 (by omega) (by omega)];exact h.m,by rw [he.2 3 (by omega) aF];exact h.l,h.n⟩
theorem Good.mark {b:sa} {rZ:ar} {F Jc:List Int} {H:List ar} (h:Good b rZ F H) (aI:Jc.length=7):Good b rZ Jc (H.set 2 (.cells (Jc.map hX))) :=
 ⟨h.f.r4 h.m (fun _ _ e=>by cases e),by rw [sf (by omega)];exact h.p,sn (sd.1 h.m).1,by rw [sf (by omega)];exact h.l,aI⟩
theorem Ij.cB {H H':List ar} (h:Ij 0 H H'):Ho 4 H H':=⟨h.1,fun j c aw ak=>by rw [h.2 j (by omega) (sd.1 ak).1];exact ak⟩
theorem adW {b:sa} {o F Jc:List Int} {i:Int} (h:JU b o F i=some Jc) {rZ:ar} {H:List ar} (rG:Good b rZ F H) :
  ∃ H',Good b rZ Jc H'∧Ho 4 H H'∧(0≤ix o i∧ix o i<7)∧(0<ix F (ix o i)→H'=H) ∧
    (¬ 0<ix F (ix o i)→∃ x y H1 H2,(x.2 && y.2)=true∧Jc=F.set (ix o i).toNat 1∧H'=H2.set 2 (.cells (Jc.map hX))∧Good b rZ F H2∧Good b rZ F H1 ∧
      Sem Tryz.prog (.fn 60) [r1 b 0,.av (o.map hX) o.length .shared,hX (w (1-i.tmod 2)),.av [] 0 .full] H 0 (.tuple [.av [] 0 .shared,B x.2]) H1 ∧
      Sem Tryz.prog (.fn 60) [r1 b 0,.av (o.map hX) o.length .shared,hX (i.tmod 2),.av [hX i] 1 (.uniq 1)] H1 0 (.tuple [.av ((y:List qC×Bool).1.flatMap qy) y.1.length .shared,B y.2]) H2 ∨
     (x.2 && y.2)=false∧Jc=F∧H'=H2∧Good b rZ F H2∧Good b rZ F H1 ∧
      Sem Tryz.prog (.fn 60) [r1 b 0,.av (o.map hX) o.length .shared,hX (w (1-i.tmod 2)),.av [] 0 .full] H 0 (.tuple [.av [] 0 .shared,B (x:List qC×Bool).2]) H1 ∧
      Sem Tryz.prog (.fn 60) [r1 b 0,.av (o.map hX) o.length .shared,hX (i.tmod 2),.av [hX i] 1 (.uniq 1)] H1 0 (.tuple [.av (y.1.flatMap qy) y.1.length .shared,B y.2]) H2):=by
 unfold JU at h;obtain ⟨ah,h⟩:=rW h;by_cases aB:0<ix F (ix o i)
 ·rw [if_pos aB] at h;obtain rfl:=Option.some.inj h;exact ⟨H,rG,Ho.refl _ _,ah,fun _=>rfl,fun aI=>absurd aB aI⟩
 ·rw [if_neg aB] at h;obtain ⟨x,aj,h⟩:=p' h;obtain ⟨y,aY,h⟩:=p' h;obtain rfl:=Option.some.inj h;obtain ⟨xf,W6,s1⟩:=ZV aj (m:=0) (lo:=0) (H:=H) (sE _);have e1:Ij 0 H (H++[W6]):=⟨by simp,fun j _ aw=>by rw [sk aw]⟩;have cc:Good b rZ F (H++[W6]):=rG.ext (rG.f.more _) e1;obtain ⟨H2,f2,b9,s2⟩:=ZW aY (lo:=0) (se 0) cc.f;have b_:Good b rZ F H2:=cc.ext f2 b9;cases af:(x.2 && y.2) with
  | true =>
    rw [if_pos rfl];refine ⟨H2.set 2 (.cells ((F.set (ix o i).toNat 1).map hX)),b_.mark (by rw [List.length_set];exact b_.n),?_,ah,fun h=>absurd h aB,fun _=>⟨x,y,_,H2,.inl ⟨af,rfl,rfl,b_,cc,s1,s2⟩⟩⟩;have k:=(e1.cB).trans b9.cB;refine ⟨by have:=k.1;simpa using this,fun j c aw ak=>by rw [sf (by omega)];exact k.2 j c aw ak⟩
  | false =>
    rw [if_neg (by decide)];exact ⟨H2,b_,(e1.cB).trans b9.cB,ah,fun h=>absurd h aB,fun _=>⟨x,y,_,H2,.inr ⟨af,rfl,rfl,b_,cc,s1,s2⟩⟩⟩
theorem ach {F:List Int} {k:Int} (al:0≤k∧k<7) (bF:F.length=7):(F.map hX)[0+k.toNat*1]?=some (hX (ix F k)):=by
 have h:k.toNat<F.length:=by omega
 rw [sG,tz,sq,sm h];simp [ix,sB,sm h]
theorem ahf {b:sa} {o F Jc:List Int} (aq:o≠[]) (fI:o.length≤1000) (h:IA (JU b o) (qp o.length) F=some Jc) {gq Gi r3 I_ MS:I} {H:List ar} (rG:Good b (.loop .ready none 24 (qg 86 [(2,gq),(3,Gi),(4,.ptr 1 0),(5,r3),(6,.ptr 2 0),(23,I_),(26,MS)]) [27] (rD Tryz.prog 24 0) (rE Tryz.prog 24 0) JS) F H) :
  ∃ H',Good b (.loop .ready none 24 (qg 86 [(2,gq),(3,Gi),(4,.ptr 1 0),(5,r3),(6,.ptr 2 0),(23,I_),(26,MS)]) [27] (rD Tryz.prog 24 0) (rE Tryz.prog 24 0) JS) Jc H'∧Ho 4 H H'∧Sem Tryz.prog (.yield 3) [Hi o] H 0 (.bool true) H':=by
 obtain ⟨Hu,Nr,Lc,Rk⟩:=OT h;rw [LA] at Lc;obtain ⟨n,aI⟩:∃ n,n=o.length:=⟨_,rfl⟩;rw [←aI] at Lc fI;obtain ⟨IF,VZ⟩:∃ IF:ar,IF=(.loop .busy none 24 (qg 86 [(2,gq),(3,Gi),(4,.ptr 1 0),(5,r3),(6,.ptr 2 0),(23,I_),(26,MS)]) [27] (rD Tryz.prog 24 0) (rE Tryz.prog 24 0) JS):=⟨_,rfl⟩;obtain ⟨Pa,RL⟩:∃ Pa:ar,Pa=(.loop .ready none 24 (qg 86 [(2,gq),(3,Gi),(4,.ptr 1 0),(5,r3),(6,.ptr 2 0),(23,I_),(26,MS)]) [27] (rD Tryz.prog 24 0) (rE Tryz.prog 24 0) JS):=⟨_,rfl⟩;rw [←RL] at rG ⊢;have Dl:∀ es c,Pa≠.map es c:=fun _ _ e=>by rw [RL] at e;cases e
 have kJ:∀ es c,IF≠.map es c:=fun _ _ e=>by rw [VZ] at e;cases e
 have acZ:Good b IF F (H.set 3 IF):=⟨rG.f.r4 rG.l Dl,by rw [sf (by omega)];exact rG.p,by rw [sf (by omega)];exact rG.m,sn (sd.1 rG.l).1,rG.n⟩;have acY:∀ i (hi:i<n),JU b o (Hu i) (i:Int)=some (Hu (i+1)):=fun i hi=>by
  have:=Rk i (by rw [LA];omega);simpa [qp] using this
 classical
 obtain ⟨Hs,gI,Me⟩:=OJ (fun i rR H9=>i<n→Good b IF (Hu i) rR→Good b IF (Hu (i+1)) H9∧Ho 4 rR H9∧(0≤ix o i∧ix o i<7)∧(0<ix (Hu i) (ix o i)→H9=rR) ∧
   (¬ 0<ix (Hu i) (ix o i)→∃ x y H1 H2,(x.2 && y.2)=true∧Hu (i+1)=(Hu i).set (ix o i).toNat 1∧H9=H2.set 2 (.cells ((Hu (i+1)).map hX))∧Good b IF (Hu i) H2∧Good b IF (Hu i) H1 ∧
     Sem Tryz.prog (.fn 60) [r1 b 0,.av (o.map hX) o.length .shared,hX (w (1-(i:Int).tmod 2)),.av [] 0 .full] rR 0 (.tuple [.av [] 0 .shared,B x.2]) H1 ∧
     Sem Tryz.prog (.fn 60) [r1 b 0,.av (o.map hX) o.length .shared,hX ((i:Int).tmod 2),.av [hX (i:Int)] 1 (.uniq 1)] H1 0 (.tuple [.av ((y:List qC×Bool).1.flatMap qy) y.1.length .shared,B y.2]) H2 ∨
    (x.2 && y.2)=false∧Hu (i+1)=Hu i∧H9=H2∧Good b IF (Hu i) H2∧Good b IF (Hu i) H1 ∧
     Sem Tryz.prog (.fn 60) [r1 b 0,.av (o.map hX) o.length .shared,hX (w (1-(i:Int).tmod 2)),.av [] 0 .full] rR 0 (.tuple [.av [] 0 .shared,B (x:List qC×Bool).2]) H1 ∧
     Sem Tryz.prog (.fn 60) [r1 b 0,.av (o.map hX) o.length .shared,hX ((i:Int).tmod 2),.av [hX (i:Int)] 1 (.uniq 1)] H1 0 (.tuple [.av (y.1.flatMap qy) y.1.length .shared,B y.2]) H2)) (H.set 3 IF) (fun i rR=>by
  by_cases aO:i<n∧Good b IF (Hu i) rR
  ·obtain ⟨H',aA⟩:=adW (acY i aO.1) aO.2;exact ⟨H',fun _ _=>aA⟩
  ·exact ⟨rR,fun ab ae=>absurd ⟨ab,ae⟩ aO⟩)
 have cY:∀ i,i≤n→Good b IF (Hu i) (Hs i)∧Ho 4 (H.set 3 IF) (Hs i):=fun i=>by
  induction i with
  | zero=>intro _;rw [gI,Nr];exact ⟨acZ,Ho.refl _ _⟩
  | succ i a8 =>
    intro hi;obtain ⟨aA,aG⟩:=a8 (by omega);obtain ⟨bl,cr,_⟩:=Me i (by omega) aA;exact ⟨bl,aG.trans cr⟩
 obtain ⟨KA,V_⟩:=cY n (se _);rw [Lc] at KA;have hlen:H.length≤(Hs n).length:=by have:=V_.1;simpa using this
 refine ⟨(Hs n).set 3 Pa,⟨KA.f.r4 KA.l kJ,by rw [sf (by omega)];exact KA.p,by rw [sf (by omega)];exact KA.m,sn (sd.1 KA.l).1,KA.n⟩,⟨by simpa using hlen,fun j c aw ak=>by rw [sf (by omega)];exact V_.2 j c aw (by rw [sf (by omega)];exact ak)⟩,?_⟩;subst RL;refine PB eD aeu aey rG.l rfl (IP (by simpa using hlen)) ?_;obtain ⟨f_,e,mu⟩:=tY aq;have adm:Hi o=.av (o.map hX) o.length (.own 1):=by rw [mu];rfl
 rw [adm];unfold Yv;conv=>whnf
 refine ⟨rfl,rG.l,?_⟩;rw [←VZ];unfold Yz;obtain ⟨dS,Cr⟩:∃ c,SY=c:=⟨_,rfl⟩;rw [Cr];conv=>whnf
 rw [←aI];refine .intro (fun m T H'=>∃ i:Nat,i≤n∧m=n-i∧T=qg 86 [(4,.ptr 1 0),(6,.ptr 2 0),(7,.av (o.map hX) n (.own 1)),(28,.av (o.map hX) n .shared),(29,hX n),(30,hX i)]∧H'=Hs i) n ⟨0,sE _,rfl,rfl,gI.symm⟩ ?_;rintro m T H' ⟨i,hi,rfl,rfl,rfl⟩;conv=>whnf
 refine HH (fun aR=>?_) (fun aR=>?_)
 ·have hc:i<n:=by omega
  have ID:0≤(i:Int)∧(i:Int)<(o.length:Int):=by omega
  have a:=cY i hi;obtain ⟨_,_,ah,a7,a9⟩:=Me i hc a.1;have rK:IntKind.i64.wrap ((i:Int)+1)=((i+1:Nat):Int):=by rw [HR _ (by omega) (by omega)];omega
  subst Cr;unfold SY YA;obtain ⟨br,eP⟩:∃ c,Px=c:=⟨_,rfl⟩;rw [eP];conv=>whnf
  refine ⟨by omega,?_⟩;rw [rj hX o (i:Int) ID];conv=>whnf
  refine ⟨ah,?_⟩;conv=>whnf
  refine Ew a.1.m ?_;conv=>whnf
  refine Ew (x:=hX (ix (Hu i) (ix o i))) (ach ah a.1.n) ?_;conv=>whnf
  refine HH (fun aB=>?_) (fun aB=>?_)
  ·(conv=>whnf);refine ⟨n-(i+1),by omega,i+1,by omega,rfl,by rw [rK];rfl,?_⟩;rw [a7 aB]
  ·obtain ⟨x,y,H1,H2,a1⟩:=a9 aB;subst eP;rcases a1 with ⟨af,OW,b7,b_,cc,s1,s2⟩ | ⟨af,OW,b7,b_,cc,s1,s2⟩
   ·unfold Px;obtain ⟨ab1,Nn⟩:∃ c,N1=c:=⟨_,rfl⟩;rw [Nn];(conv=>whnf);refine Ew a.1.p ?_;(conv=>whnf);refine ⟨by decide,?_⟩;(conv=>whnf);rw [←aI] at s1 s2;refine ⟨_,_,rH s1,?_⟩;(conv=>whnf);subst Nn;unfold N1;obtain ⟨B8,Nm⟩:∃ c,N0=c:=⟨_,rfl⟩;rw [Nm];(conv=>whnf);refine Ew cc.p ?_;(conv=>whnf);refine ⟨by decide,?_⟩;(conv=>whnf);refine ⟨_,_,rH s2,?_⟩;(conv=>whnf);subst Nm;unfold N0;cases aj:x.2 <;> cases aY:y.2 <;> rw [aj,aY] at af
    ·cases af
    ·cases af
    ·cases af
    ·(conv=>whnf);refine ⟨ah,?_⟩;(conv=>whnf);refine Ew b_.m ?_;(conv=>whnf);refine Gn (by rw [sZ,b_.n];omega) ?_;(conv=>whnf);refine ⟨n-(i+1),by omega,i+1,by omega,rfl,by rw [rK];rfl,?_⟩;rw [b7,OW,tQ,sG,tz]
   ·unfold Px;obtain ⟨ab1,Nn⟩:∃ c,N1=c:=⟨_,rfl⟩;rw [Nn];(conv=>whnf);refine Ew a.1.p ?_;(conv=>whnf);refine ⟨by decide,?_⟩;(conv=>whnf);rw [←aI] at s1 s2;refine ⟨_,_,rH s1,?_⟩;(conv=>whnf);subst Nn;unfold N1;obtain ⟨B8,Nm⟩:∃ c,N0=c:=⟨_,rfl⟩;rw [Nm];(conv=>whnf);refine Ew cc.p ?_;(conv=>whnf);refine ⟨by decide,?_⟩;(conv=>whnf);refine ⟨_,_,rH s2,?_⟩;(conv=>whnf);subst Nm;unfold N0;cases aj:x.2 <;> cases aY:y.2 <;> rw [aj,aY] at af
    ·(conv=>whnf);refine ⟨n-(i+1),by omega,i+1,by omega,rfl,by rw [rK];rfl,?_⟩;rw [b7]
    ·(conv=>whnf);refine ⟨n-(i+1),by omega,i+1,by omega,rfl,by rw [rK];rfl,?_⟩;rw [b7]
    ·(conv=>whnf);refine ⟨n-(i+1),by omega,i+1,by omega,rfl,by rw [rK];rfl,?_⟩;rw [b7]
    ·cases af
 ·obtain rfl:i=n:=by omega
  conv=>whnf
  exact ⟨rfl,KA.l,lF.refl _⟩
end Go.Proofs.YtkoioidpbbbaiaaGreat.Ab


namespace Go.Proofs.YtkoioidpbbbaiaaGreat.Ab
open Go
noncomputable def St:gB :=
 .ou false [p6 75 14,p6 76 14,q2 77 76,p4 78 14,q2 79 78,p3 80 [.jm 75,.jm 77,.jm 79] (.Bh 1 false true true),p4 81 15,p3 82 [.Bs 81] (.yB 1 1 [.int .i64 0] [0]),p3 83 [.jm 80,.jm 82] (.app 1 8),p4 14 83]
noncomputable def Su:gB :=
 .block 5 (p5 [p6 71 69, p3 72 [.m_ 68, .m_ 69] (.other (Oper.mk (some 72) (Op.index 91 (Operand.tmp 68) (Operand.tmp 69)) 3 "curl.go:170" (Array.mk []) none) 0), p4 15 71, p4 16 72] (p5 [p4 73 16, qv 74 73 0 .gtr] (.cond (.m_ 74) St .skip)))
noncomputable def Sv:gB :=
 .seq (p5 [p3 68 [.Bs 6] (.zE (.arr 7)),qh 69 0] (.block 4 (.loop (some (qd false [14,1,53,2,16])) (p5 [p3 70 [.m_ 69,.cv (.int .i64 7)] (.bin .lss)] (.seq (.cond (.m_ 70) .skip (.exit 4)) (.seq Su (qF [qW 84 69 1,p4 69 84]))))))) (p5 [p4 85 14,p4 2 85,qh 3 0] .ret)
noncomputable def NT:gB :=
 .seq (p5 [p3 65 [.m_ 6] (.zE (.arr 7)), p3 66 [] (.build [.int .i64 0, .int .i64 0, .int .i64 0, .int .i64 0, .int .i64 0, .int .i64 0, .int .i64 0] []), p3 67 [.Bs 65, .Bs 66] (.other (Oper.mk (some 67) (Op.binOp .eql 91 (Operand.tmp 65) (Operand.tmp 66) 91) 4 "curl.go:166" (Array.mk [Edge.mk 0 Ground.data, Edge.mk 1 Ground.data]) none) 0)] (.cond (.m_ 67) (p5 [p3 2 [.cv (.av [] 0 .full)] (.nil 1), qh 3 0] .ret) .skip)) (p5 [p3 14 [.cv (.av [] 0 .full)] (.nil 1)] Sv)
noncomputable def Pg:gB :=
 .seq (p5 [p6 22 5,qv 23 22 0 .neq] (.cond (.m_ 23) (p5 [p4 24 5,p3 2 [.cv (.av [] 0 .full)] (.nil 1),p4 3 24] .ret) .skip)) (p5 [p3 6 [] (.alloc [.int .i64 0,.int .i64 0,.int .i64 0,.int .i64 0,.int .i64 0,.int .i64 0,.int .i64 0])] (.seq (p5 [p3 25 [.m_ 4] (.zE .one),p3 26 [.cv (.func 43 [] []),.jm 25] (.call 9)] (.block 0 (.AM (.m_ 26) [27] (rD Go.Proofs.Tryz.prog 24 0) (rE Go.Proofs.Tryz.prog 24 0)))) NT))
noncomputable def X4:gB :=
 p5 [p3 18 [.Bs 1] (.zE (.str 3)),p3 19 [.cv (.func 40 [] []),.jm 18,.cv (.av [] 0 .full)] (.call 8),p4 17 19,qR 20 17 0,p3 21 [.Bs 17] (.ext 1),p3 4 [] (.alloc [.eF]),⟨none,[.m_ 4,.jm 20],none,none,.st 1⟩,p4 5 21] Pg
noncomputable def X3:gB :=
 p5 [p3 1 [.jm 0] .yy,p3 2 [.cv (.av [] 0 .full)] (.nil 1),qh 3 0] X4
theorem aeg:qu Go.Proofs.Tryz.prog JS 24=some (X3,86,[.tmp 2,.tmp 3]):=by qb
end Go.Proofs.YtkoioidpbbbaiaaGreat.Ab


namespace Go.Proofs.YtkoioidpbbbaiaaGreat.Ab
open Go
set_option maxRecDepth 20000
set_option maxHeartbeats 4000000
theorem YJ {P:Program} {k:FuncId} {args:List I} {H H':List ar} {lo:Nat} {r:I} (h:Sem P (.fn k) (args.map I.ca) H lo r H'):Sem P (.fn k) args H lo r H':=by
 obtain ⟨aQ,ab,ae⟩:=h;exact ⟨aQ,ab,fun B aa J S w vs ag aI ad=>ae B aa J S w vs ag aI ad.ca⟩
abbrev L4 (p:qn):List I:=[(.agg [(.av (p.1.flatMap p_) p.1.length .shared),(hX p.2.1),(hX p.2.2)]),(.av [] 0 .full)]
section
variable {p:qn}
theorem ab6 {e:Int} {lo:Nat} (h:rX p []=some (none,e)):oU Tryz.prog 8 lo (.fn 40) (L4 p) [] (.tuple [.eF,hX e]) [] :=
 ⟨_,EB (r:=.tuple [.eF,hX e]) (H':=[rT p]) (YJ (args:=L4 p) (by exact ZI h)),by
  show (k6 _ _ _ _ _ _ (.fn 40) (L4 p) [] 0).bind _=_
  rw [EA];rfl⟩
theorem ab8 {t:qn×Unit} {e:Int} {lo:Nat} (h:rX p []=some (some t,e)):oU Tryz.prog 8 lo (.fn 40) (L4 p) [] (.tuple [.bR [(.av (p.1.flatMap p_) p.1.length .shared),(hX p.2.1),(hX p.2.2),.map 0],hX 0]) [.map [] 0] :=
 ⟨_,EB (r:=.tuple [.ptr 2 0,hX 0]) (H':=[rT p,.map [] 0,.cells [(.av (p.1.flatMap p_) p.1.length .shared),(hX p.2.1),(hX p.2.2),.map 1]]) (YJ (args:=L4 p) (by exact (Of h).2.2)),by
  show (k6 _ _ _ _ _ _ (.fn 40) (L4 p) [] 0).bind _=_;rw [EA];have e1:dZ (bL [rT p,.map [] 0,.cells [(.av (p.1.flatMap p_) p.1.length .shared),(hX p.2.1),(hX p.2.2),.map 1]] 0 1 0 6) [(.av (p.1.flatMap p_) p.1.length .shared),(hX p.2.1),(hX p.2.2),.map 1]=some [(.av (p.1.flatMap p_) p.1.length .shared),(hX p.2.1),(hX p.2.2),.map 0] :=
   rN (yW (HC (fun _=>p7 rfl (p7 rfl rfl)) _ _ _)) (rN (yW rfl) (rN (yW rfl) (rN rfl IQ)))
  have b9:bL [rT p,.map [] 0,.cells [(.av (p.1.flatMap p_) p.1.length .shared),(hX p.2.1),(hX p.2.2),.map 1]] 0 1 0 8 (.tuple [.ptr 2 0,hX 0])=some (.tuple [.bR [(.av (p.1.flatMap p_) p.1.length .shared),(hX p.2.1),(hX p.2.2),.map 0],hX 0]) :=
   Ni (rN (show (dZ (bL [rT p,.map [] 0,.cells [(.av (p.1.flatMap p_) p.1.length .shared),(hX p.2.1),(hX p.2.2),.map 1]] 0 1 0 6) [(.av (p.1.flatMap p_) p.1.length .shared),(hX p.2.1),(hX p.2.2),.map 1]).map I.bR=_ by rw [e1];rfl) (rN rfl IQ))
  show (match mapM (bL [rT p,.map [] 0,.cells [(.av (p.1.flatMap p_) p.1.length .shared),(hX p.2.1),(hX p.2.2),.map 1]] 0 1 0 8) [],bL [rT p,.map [] 0,.cells [(.av (p.1.flatMap p_) p.1.length .shared),(hX p.2.1),(hX p.2.2),.map 1]] 0 1 0 8 (.tuple [.ptr 2 0,hX 0]) with | some es',some v=>some (v,[]++[ar.map es' 0]) | _,_=>none)=_
  rw [b9];rfl⟩
end
def L9 (b:sa) (F:List Int) (o:List Int):Option (List Int):=IA (JU b o) (qp o.length) F
def K9 (F:List Int):List Int×Int:=if decide (F=[0,0,0,0,0,0,0])=true then ([],0) else ((qp 7).filter (fun s=>decide (0<ix F s)),0)
def LK (p:qn):Option (List Int×Int) :=
 (rX p []).bind fun r=>match r with
 | (none,q)=>if decide (q≠0)=true then some ([],q) else none
 | (some b,_) =>
   qs (0<b.1.1.length∧b.1.1.length≤7) <|
   (IA (L9 b) (qV b.1.1.length (qp b.1.1.length)) [0,0,0,0,0,0,0]).bind fun F =>
   some (K9 F)
theorem ad9 {n:Nat} {left:List Int}:∀ e∈qV n left,e.length=n:=fun e he=>by
 induction n generalizing left e with
 | zero=>simp [qV] at he;simp [he]
 | succ n a8 =>
   simp only [qV,List.mem_flatMap,sH] at he;obtain ⟨x,_,l,ao,rfl⟩:=he;simp [a8 l ao]
theorem Good.more {b:sa} {rZ:ar} {F:List Int} {H:List ar} (h:Good b rZ F H) (Z:List ar):Good b rZ F (H++Z) :=
 h.ext (h.f.more Z) ⟨by simp,fun j _ aw=>by rw [sk aw]⟩
theorem Good.aht {b:sa} {rZ:ar} {F:List Int} {H:List ar} {j:Nat} {c:List I} (dR:List I) (h:Good b rZ F H) (aw:4≤j) (ak:H[j]?=some (.cells c)):Good b rZ F (H.set j (.cells dR)) :=
 ⟨h.f.r4 ak (fun _ _ e=>by cases e),by rw [sf (by omega)];exact h.p,by rw [sf (by omega)];exact h.m,by rw [sf (by omega)];exact h.l,h.n⟩
theorem Y' (n:Nat):qp (n+1)=qp n++[(n:Int)]:=by simp [qp,vm]
theorem ahN {b:sa} {rZ:ar} {F:List Int} {H':List ar} (rG:Good b rZ F H') {gq Gi r3 I_ MS:I} {Q:cN→List I→List ar→Prop}
  (jG:∀ T H,HY [.tmp 2,.tmp 3] (.tuple [.av ((K9 F).1.map hX) (K9 F).1.length .shared,hX (K9 F).2]) .ret T H→Q .ret T H) :
  dN Tryz.prog JS 24 0 none NT (qg 86 [(2,gq),(3,Gi),(4,.ptr 1 0),(5,r3),(6,.ptr 2 0),(23,I_),(26,MS)]) (H'.set 3 .dead) Q:=by
 unfold NT;obtain ⟨br,eP⟩:∃ c,Sv=c:=⟨_,rfl⟩;rw [eP];have hm:(H'.set 3 .dead)[2]?=some (.cells (F.map hX)):=by rw [sf (by omega)];exact rG.m
 have aI:=rG.n;conv=>whnf
 refine Ew hm ?_;conv=>whnf
 refine ⟨by simp [aI],?_⟩;rw [WA hX F (fun _=>rfl) aI];conv=>whnf
 refine ⟨_,_,fun C=>Xa rfl rfl (aa4 .i64 (e:=3) (len:=7) (kd:=.i64) (xs:=F) (ys:=[(0:Int),0,0,0,0,0,0]) (by qb) (by qb) (by qb) (by qb) aI rfl),?_⟩;conv=>whnf
 unfold K9 at jG;refine HH (fun bj=>?_) (fun bj=>?_)
 ·rw [decide_eq_true bj] at jG;conv=>whnf
  exact jG _ _ (Iu rfl rfl)
 ·rw [decide_eq_false bj] at jG;conv=>whnf
  subst eP;unfold Sv;obtain ⟨a9,b_⟩:∃ c,Su=c:=⟨_,rfl⟩;rw [b_];conv=>whnf
  refine Ew hm ?_;conv=>whnf
  refine ⟨by simp [aI],?_⟩;rw [WA hX F (fun _=>rfl) aI];conv=>whnf
  refine .intro (fun m T H=>∃ (i:Nat) (L:List Int) (c:hB),i≤7∧m=7-i∧L=(qp i).filter (fun s=>decide (0<ix F s))∧c=.uniq 1∧T=qg 86 [(14,.av (L.map hX) L.length c),(68,.agg (F.map hX)),(69,hX i)]∧H=H'.set 3 .dead) 7 ⟨0,[],_,by omega,rfl,rfl,rfl,rfl,rfl⟩ ?_;rintro m T H ⟨i,L,c,hi,rfl,fm,rfl,rfl,rfl⟩;conv=>whnf
  refine HH (fun aR=>?_) (fun aR=>?_)
  ·(have rK:IntKind.i64.wrap ((i:Int)+1)=((i+1:Nat):Int):=by rw [HR _ (by omega) (by omega)];omega);subst b_;unfold Su;obtain ⟨a7,cc⟩:∃ c,St=c:=⟨_,rfl⟩;rw [cc];(conv=>whnf);refine ⟨_,_,fun C=>afP rfl (aa6 (e:=3) (len:=7) (kd:=.i64) (by qb) (by qb) (by qb) (by qb) aI ⟨by omega,aR⟩),?_⟩;(conv=>whnf);refine HH (fun aB=>?_) (fun aB=>?_)
   ·subst cc;unfold St;have ajS:L.length≤7:=by
     have:=uS (fun s=>decide (0<ix F s)) (qp i);rw [LA] at this;rw [fm];omega
    (conv=>whnf);refine ⟨⟨rfl,by omega,sY _⟩,?_⟩;(conv=>whnf);rw [tD,tz,tb (by simp)];refine ⟨rfl,by decide,?_⟩;(conv=>whnf);refine ⟨by decide,by omega,by simp,?_⟩;(conv=>whnf);refine ⟨7-(i+1),by omega,i+1,_,.uniq 1,by omega,rfl,rfl,rfl,?_,rfl⟩;rw [Y',tE,←fm,show [(i:Int)].filter (fun s=>decide (0<ix F s))=[(i:Int)] by simp [aB],sR,sD,rK];rfl
   ·(conv=>whnf);refine ⟨7-(i+1),by omega,i+1,L,.uniq 1,by omega,rfl,?_,rfl,by rw [rK];rfl,rfl⟩;rw [Y',tE,←fm,show [(i:Int)].filter (fun s=>decide (0<ix F s))=[] by simp [aB],sM]
  ·(obtain rfl:i=7:=by omega);(conv=>whnf);rw [fm];exact jG _ _ (Iu rfl rfl)
theorem ZD {p:qn} {v:List Int×Int} (h:LK p=some v):qw 24 [.agg [.av (p.1.flatMap p_) p.1.length .shared,hX p.2.1,hX p.2.2]] (.tuple [.av (v.1.map hX) v.1.length .shared,hX v.2]):=by
 unfold LK at h;obtain ⟨⟨aS,bh⟩,ai,h⟩:=p' h;refine qO eD aeg rfl (Is (p7 (rM (fun _=>rfl) _ _ _) (p7 rfl rfl))) fun Q bo=>?_;have jG:∀ T H,HY [.tmp 2,.tmp 3] (.tuple [.av (v.1.map hX) v.1.length .shared,hX v.2]) .ret T H→Q .ret T H:=fun T H bD=>bo _ T H bD;unfold X3 X4;obtain ⟨dS,Cr⟩:∃ c,Pg=c:=⟨_,rfl⟩;rw [Cr];conv=>whnf
 refine ⟨rfl,?_⟩;conv=>whnf
 rcases aS with _ | b
 ·refine ⟨_,_,ab6 ai,?_⟩;conv=>whnf
  subst Cr;unfold Pg;refine bs h (fun af h=>?_) fun af h=>?_
  ·obtain ⟨b5,iM⟩:∃ c,NT=c:=⟨_,rfl⟩;rw [iM];rw [show I.int IntKind.i64 bh=hX bh from rfl];(conv=>whnf);rw [af];(conv=>whnf);obtain rfl:=Option.some.inj h;exact jG _ _ (Iu rfl rfl)
  ·cases h
 ·obtain ⟨rfl,rfl,_⟩:=Of ai;refine ⟨_,_,ab8 ai,?_⟩;conv=>whnf
  obtain ⟨⟨Di,Mj⟩,h⟩:=rW h;obtain ⟨F,ao,h⟩:=p' h;obtain rfl:=Option.some.inj h;subst Cr;unfold Pg;obtain ⟨b5,iM⟩:∃ c,NT=c:=⟨_,rfl⟩;rw [iM];conv=>whnf
  refine ⟨_,_,call9 (bs:=[lj (p,())]) rfl (p7 (Ie (p,())) rfl) (Ts (b:=(p,())) (v:=()) rfl),?_⟩;obtain ⟨br,eP⟩:∃ c,gB.AM (.m_ 26) [27] (rD Tryz.prog 24 0) (rE Tryz.prog 24 0)=c:=⟨_,rfl⟩;rw [eP];conv=>whnf
  subst eP;obtain ⟨Hu,Nr,Lc,Rk⟩:=OT ao;obtain ⟨rZ,O3⟩:∃ rZ:ar,rZ=.loop .ready none 24 (qg 86 [(2,I.view (.av [] 0 (.uniq 1))),(3,hX 0),(4,.ptr 1 0),(5,hX 0),(6,.ptr 2 0),(23,B (decide ((0:Int)≠0))),(26,I.view (.func 70 [] [.bR [lj (p,())]]))]) [27] (rD Tryz.prog 24 0) (rE Tryz.prog 24 0) JS:=⟨_,rfl⟩;have kJ:∀ c,rZ≠.cells c:=fun c e=>by rw [O3] at e;cases e
  refine ahh (f:=Hi) (aho (b:=(p,())) Mj Di) (Inv:=fun i H=>Good (p,()) rZ (Hu i) H) (by exact rfl) ⟨fun i H rG=>⟨sg _,(sd.1 rG.l).1⟩,fun i H Z rG=>rG.more Z,fun i H j c dR rG aw ak=>rG.aht dR aw ak⟩ ?_ ?_ (rl:=none) (by exact rfl) ?_ ?_
  ·show Good _ _ (Hu 0) _;rw [Nr,O3];exact ⟨⟨[],0,rfl,fun e he=>absurd he (by simp)⟩,rfl,rfl,rfl,rfl⟩
  ·intro i hi H1 rG;rw [O3] at rG ⊢;exact ahf (RY Di _ (tt hi)) (by rw [ad9 _ (tt hi)];omega) (Rk i hi) rG
  ·intro H' rG;rw [O3] at rG;exact rG.l
  ·intro H' rG;rw [Lc] at rG;subst iM;exact ahN rG jG

noncomputable def Qb:gB :=
 .loop (some (qd false [1,1,2,6,88])) (.seq (p5 [p6 33 9,p6 34 4,qq 35 33 34 .lss] (.cond (.m_ 35) .skip (.exit 2))) (.seq (.block 3 (.seq (ri [p6 38 5,p6 39 6,p6 40 9,rn 41 39 40 1,qm 42 41,qq 43 38 42 .shr,qv 44 43 1 .and,qv 45 44 0 .eql,p4 46 45,ch 47 [.m_ 9] 46 true .mR,ch 48 [.Bs 47,.cv (.int .i64 2)] 46 true (.bin .rem),ch 49 [.Bs 48,.cv (.int .i64 0)] 46 true (.bin .eql),ch 50 [.jm 49] 46 true .mR,ch 51 [.m_ 8] 50 true .mR,ch 52 [.m_ 50,.Bs 51,.cv (.bool false)] 46 true .pick,ch 53 [.jm 52] 46 true .mR,ch 54 [.m_ 1] 53 true (.zE (.str 3)),ch 55 [.m_ 6] 53 true .mR,ch 56 [.m_ 9] 53 true .mR,ch 57 [.cv (.int .i64 1),.Bs 56] 53 true (.bin .shl),⟨some 58,[.cv (.func 61 [] []),.m_ 54,.m_ 55,.cv (.int .i64 0),.m_ 57],some (53,true),none,.call 3⟩,ch 59 [.m_ 53,.Bs 58,.cv (.bool false)] 46 true .pick,ch 60 [.jm 59] 46 true .mR,ch 61 [.m_ 9] 60 false .mR,ch 62 [.Bs 61,.cv (.int .i64 2)] 60 false (.bin .rem),ch 63 [.Bs 62,.cv (.int .i64 1)] 60 false (.bin .eql),ch 64 [.jm 63] 60 false .mR,ch 65 [.m_ 7] 64 true .mR,ch 66 [.m_ 64,.Bs 65,.cv (.bool false)] 60 false .pick,ch 67 [.jm 66] 60 false .mR,ch 68 [.m_ 1] 67 true (.zE (.str 3)),ch 69 [.m_ 6] 67 true .mR,ch 70 [.m_ 9] 67 true .mR,ch 71 [.cv (.int .i64 1),.Bs 70] 67 true (.bin .shl),⟨some 72,[.cv (.func 61 [] []),.m_ 68,.m_ 69,.cv (.int .i64 1),.m_ 71],some (67,true),none,.call 3⟩,ch 73 [.m_ 67,.Bs 72,.cv (.bool false)] 60 false .pick,ch 74 [.m_ 60,.cv (.bool true),.Bs 73] 46 true .pick,p3 75 [.m_ 46,.Bs 74,.cv (.bool false)] .pick]) (.cond (.m_ 75) (qF [p4 76 5,p6 77 6,p6 78 9,rn 79 77 78 1,qm 80 79,p3 81 [.cv (.int .i64 1),.Bs 80] (.bin .shl),qq 82 76 81 .or,p4 5 82]) .skip))) (qF [p4 36 9,qW 37 36 1,p4 9 37])))
noncomputable def Qc:gB :=
 .loop (some (qd false [1,1,2,3,91])) (.seq (p5 [p6 22 6,q2 23 22,qv 24 23 0 .gtr] (.cond (.m_ 24) .skip (.exit 0))) (.seq (.block 1 (.seq (ri [p3 27 [.m_ 1] (.zE (.str 3)),p6 28 6,p3 29 [.cv (.func 61 [] []),.m_ 27,.m_ 28,.cv (.int .i64 0),.cv (.int .i64 0)] (.call 3),p3 30 [.m_ 1] (.zE (.str 3)),p6 31 6,p3 32 [.cv (.func 61 [] []),.m_ 30,.m_ 31,.cv (.int .i64 1),.cv (.int .i64 0)] (.call 3),p4 7 29,p4 8 32]) (p5 [qh 9 0] (.block 2 Qb)))) (qF [p4 25 6,p3 26 [.cv (.func 48 [] []),.m_ 25] (.call 3),p4 6 26])))
noncomputable def Qd:gB :=
 .loop (some (qd false [4,2,4,2,86])) (.seq (p5 [p6 83 11,p6 84 4,qq 85 83 84 .lss] (.cond (.m_ 85) .skip (.exit 4))) (.seq (.block 5 (p5 [p6 88 5,p6 89 11,qq 90 88 89 .shr,qv 91 90 1 .and,qv 92 91 1 .eql] (.cond (.m_ 92) (qF [p4 93 10,p6 94 11,p3 95 [.Bs 94] (.yB 1 1 [.int .i64 0] [0]),p3 96 [.jm 93,.jm 95] (.app 1 8),p4 10 96]) .skip))) (qF [p4 86 11,qW 87 86 1,p4 11 87])))
noncomputable def aai:gB :=
 p5 [p3 1 [.jm 0] .box,p3 2 [.cv (.av [] 0 .full)] (.nil 1),qh 3 0] (.seq (p5 [p3 12 [.m_ 1] (.zE (.str 3)),p3 13 [.cv (.func 46 [] []),.m_ 12] (.call 3),qv 14 13 0 .neq] (.cond (.m_ 14) (p5 [p3 15 [.Bs 1] (.zE (.str 3)),p3 16 [.cv (.func 46 [] []),.m_ 15] (.call 3),p3 2 [.cv (.av [] 0 .full)] (.nil 1),p4 3 16] .ret) .skip)) (p5 [p3 17 [.m_ 1] (.yM 0),qm 18 17,q2 19 18,p4 4 19] (p5 [qh 5 0] (.seq (p5 [p6 20 4,p3 21 [.cv (.func 32 [] []),.m_ 20] (.call 3),p4 6 21] (.block 0 Qc)) (p5 [p3 10 [.cv (.av [] 0 .full)] (.nil 1)] (.seq (p5 [qh 11 0] (.block 4 Qd)) (p5 [p4 97 10,p4 2 97,qh 3 0] .ret)))))))
theorem aeS:qu Tryz.prog Nb 25=some (aai,98,[.tmp 2,.tmp 3]):=by qb
def Ht (p:(qk×(Int×Int))) (s2:qa) (qQ q4:Bool) (qU:Int→Option (qa×Int)):Nat→Int→Int→Option (qa×Int)
 | 0,_,_=>none
 | m+1,dh,G' =>
   if (decide (G'<(p.1.length:Int)))=true then
    qs (0≤G'∧G'<(s2.length:Int)) <|
    qs (0≤(ix s2 G')) <|
    if (decide ((w ((BitVec.ofInt IntKind.i64.bits (dh.fdiv (2 ^ (Nat.min (ix s2 G').toNat IntKind.i64.bits))) &&& BitVec.ofInt IntKind.i64.bits (1:Int)).toNat:Int))=(0:Int)))=true then
     qs ((2:Int)≠0) <|
     if (decide ((G'.tmod (2:Int))=(0:Int)))=true then
      if q4=true then
       qs (0≤G') <|
       (H7 p s2 (0:Int) (w ((1:Int)*2 ^ (Nat.min G'.toNat 64)))).bind fun rQ =>
       if rQ=true then
        qs (0≤G'∧G'<(s2.length:Int)) <|
        qs (0≤(ix s2 G')) <|
        Ht p s2 qQ q4 qU m (w ((BitVec.ofInt IntKind.i64.bits dh ||| BitVec.ofInt IntKind.i64.bits (w ((1:Int)*2 ^ (Nat.min (ix s2 G').toNat 64)))).toNat:Int)) (w (G'+(1:Int)))
       else
        qs ((2:Int)≠0) <|
        if (decide ((G'.tmod (2:Int))=(1:Int)))=true then
         if qQ=true then
          qs (0≤G') <|
          (H7 p s2 (1:Int) (w ((1:Int)*2 ^ (Nat.min G'.toNat 64)))).bind fun H5 =>
          if H5=true then
           qs (0≤G'∧G'<(s2.length:Int)) <|
           qs (0≤(ix s2 G')) <|
           Ht p s2 qQ q4 qU m (w ((BitVec.ofInt IntKind.i64.bits dh ||| BitVec.ofInt IntKind.i64.bits (w ((1:Int)*2 ^ (Nat.min (ix s2 G').toNat 64)))).toNat:Int)) (w (G'+(1:Int)))
          else
           Ht p s2 qQ q4 qU m dh (w (G'+(1:Int)))
         else
          Ht p s2 qQ q4 qU m dh (w (G'+(1:Int)))
        else
         Ht p s2 qQ q4 qU m dh (w (G'+(1:Int)))
      else
       qs ((2:Int)≠0) <|
       if (decide ((G'.tmod (2:Int))=(1:Int)))=true then
        if qQ=true then
         qs (0≤G') <|
         (H7 p s2 (1:Int) (w ((1:Int)*2 ^ (Nat.min G'.toNat 64)))).bind fun HD =>
         if HD=true then
          qs (0≤G'∧G'<(s2.length:Int)) <|
          qs (0≤(ix s2 G')) <|
          Ht p s2 qQ q4 qU m (w ((BitVec.ofInt IntKind.i64.bits dh ||| BitVec.ofInt IntKind.i64.bits (w ((1:Int)*2 ^ (Nat.min (ix s2 G').toNat 64)))).toNat:Int)) (w (G'+(1:Int)))
         else
          Ht p s2 qQ q4 qU m dh (w (G'+(1:Int)))
        else
         Ht p s2 qQ q4 qU m dh (w (G'+(1:Int)))
       else
        Ht p s2 qQ q4 qU m dh (w (G'+(1:Int)))
     else
      qs ((2:Int)≠0) <|
      if (decide ((G'.tmod (2:Int))=(1:Int)))=true then
       if qQ=true then
        qs (0≤G') <|
        (H7 p s2 (1:Int) (w ((1:Int)*2 ^ (Nat.min G'.toNat 64)))).bind fun Ig =>
        if Ig=true then
         qs (0≤G'∧G'<(s2.length:Int)) <|
         qs (0≤(ix s2 G')) <|
         Ht p s2 qQ q4 qU m (w ((BitVec.ofInt IntKind.i64.bits dh ||| BitVec.ofInt IntKind.i64.bits (w ((1:Int)*2 ^ (Nat.min (ix s2 G').toNat 64)))).toNat:Int)) (w (G'+(1:Int)))
        else
         Ht p s2 qQ q4 qU m dh (w (G'+(1:Int)))
       else
        Ht p s2 qQ q4 qU m dh (w (G'+(1:Int)))
      else
       Ht p s2 qQ q4 qU m dh (w (G'+(1:Int)))
    else
     Ht p s2 qQ q4 qU m dh (w (G'+(1:Int)))
   else
    qU dh
def Ki (p:(qk×(Int×Int))) (qc:Int→Option (qa×Int)):Nat→Int→qa→Option (qa×Int)
 | 0,_,_=>none
 | m+1,s1,s2 =>
   if (decide ((0:Int)<(s2.length:Int)))=true then
    (H7 p s2 (0:Int) (0:Int)).bind fun qQ =>
    (H7 p s2 (1:Int) (0:Int)).bind fun q4 =>
    Ht p s2 qQ q4 (fun yn =>
      (Ii s2).bind fun It =>
      Ki p qc m yn It) qi s1 (0:Int)
   else
    qc s1
def Kj (p:(qk×(Int×Int))) (oS:Int) (Hf:qa→Option (qa×Int)):Nat→qa→Int→Option (qa×Int)
 | 0,_,_=>none
 | m+1,rB,H6 =>
   if (decide (H6<(p.1.length:Int)))=true then
    qs (0≤H6) <|
    if (decide ((w ((BitVec.ofInt IntKind.i64.bits (oS.fdiv (2 ^ (Nat.min H6.toNat IntKind.i64.bits))) &&& BitVec.ofInt IntKind.i64.bits (1:Int)).toNat:Int))=(1:Int)))=true then
     qs ((rB.length+1)*8≤140737488355328) <|
     Kj p oS Hf m (rB++[H6]) (w (H6+(1:Int)))
    else
     Kj p oS Hf m rB (w (H6+(1:Int)))
   else
    Hf rB
def Oe (p:(qk×(Int×Int))):Option (qa×Int) :=
 (Jp p).bind fun aS =>
 if (decide (aS≠(0:Int)))=true then
  (Jp p).bind fun bh =>
  some ([],bh)
 else
  (MU (p.1.length:Int)).bind fun eH =>
  Ki p (fun oS =>
    Kj p oS (fun Gz =>
      some (Gz,(0:Int))) qi ([]:List Int) (0:Int)) qi (0:Int) eH
theorem aiw {p:(qk×(Int×Int))} {s2:qa} {qQ:Bool} {q4:Bool} {qU:Int→Option (qa×Int)} {dh:Int} {G':Int} {v:(qa×Int)} {Q:rS}   (I4:∀ (yn:Int) (qf:List I),qU yn=some v→rm 98 [(1,(.ptr 0 0)),(4,(hX (p.1.length:Int))),(5,(hX yn)),(6,(qz s2 .shared))] qf→Q (.exit 2) qf [ar.cells [(qZ p.1 .shared),(hX p.2.1),(hX p.2.2)]]) {T:List I} (bZ:eW (qd false [1,1,2,6,88]) T=qg 98 [(1,(.ptr 0 0)),(4,(hX (p.1.length:Int))),(5,(hX dh)),(6,(qz s2 .shared)),(7,(B qQ)),(8,(B q4)),(9,(hX G'))]) (h:Ht p s2 qQ q4 qU qi dh G'=some v) :
  dN Tryz.prog Nb 25 0 none Qb T [ar.cells [(qZ p.1 .shared),(hX p.2.1),(hX p.2.2)]] Q:=by
 unfold Qb;refine wp_loop bZ ?_;refine .intro (fun m T H=>∃ (dh G':Int),T=qg 98 [(1,(.ptr 0 0)),(4,(hX (p.1.length:Int))),(5,(hX dh)),(6,(qz s2 .shared)),(7,(B qQ)),(8,(B q4)),(9,(hX G'))]∧H=[ar.cells [(qZ p.1 .shared),(hX p.2.1),(hX p.2.2)]]∧Ht p s2 qQ q4 qU m dh G'=some v) qi ⟨dh,G',rfl,rfl,h⟩ ?_;clear h bZ;rintro m T H ⟨dh,G',rfl,rfl,h⟩;cases m
 ·exact rA h
 rename_i m;rw [Ht.eq_2] at h;conv=>whnf
 refine bs h (fun re h=>?_) fun re h=>?_
 ·rw [re];conv=>whnf
  refine qE h id fun q_ h=>?_;rw [rj hX s2 G' q_];conv=>whnf
  refine qE h id fun ry h=>?_;conv=>whnf
  refine bs h (fun Hj h=>?_) fun Hj h=>?_
  ·rw [Hj];(conv=>whnf);refine qE h id fun Hq h=>?_;(conv=>whnf);refine bs h (fun Hw h=>?_) fun Hw h=>?_
   ·rw [Hw];(conv=>whnf);cases q4
    ·(conv=>whnf);replace h:=rq rfl h;refine qE h id fun OY h=>?_;(conv=>whnf);refine bs h (fun Nv h=>?_) fun Nv h=>?_
     ·rw [Nv];(conv=>whnf);cases qQ
      ·(conv=>whnf);replace h:=rq rfl h;exact ⟨m,sg m,dh,(w (G'+(1:Int))),rfl,rfl,h⟩
      ·(conv=>whnf);replace h:=rp rfl h;refine qE h id fun VR h=>?_;(conv=>whnf);obtain ⟨HD,Ro,h⟩:=p' h;refine ⟨qj.pl,_,LU Ro,rC,?_⟩;(conv=>whnf);cases HD
       ·(conv=>whnf);replace h:=rq rfl h;exact ⟨m,sg m,dh,(w (G'+(1:Int))),rfl,rfl,h⟩
       ·(conv=>whnf);replace h:=rp rfl h;refine qE h id fun Rp h=>?_;rw [rj hX s2 G' Rp];(conv=>whnf);refine qE h id fun VS h=>?_;(conv=>whnf);exact ⟨m,sg m,(w ((BitVec.ofInt IntKind.i64.bits dh ||| BitVec.ofInt IntKind.i64.bits (w ((1:Int)*2 ^ (Nat.min (ix s2 G').toNat 64)))).toNat:Int)),(w (G'+(1:Int))),rfl,rfl,h⟩
     ·rw [Nv];(conv=>whnf);exact ⟨m,sg m,dh,(w (G'+(1:Int))),rfl,rfl,h⟩
    ·(conv=>whnf);replace h:=rp rfl h;refine qE h id fun H0 h=>?_;(conv=>whnf);obtain ⟨rQ,HI,h⟩:=p' h;refine ⟨qj.pl,_,LU HI,rC,?_⟩;(conv=>whnf);cases rQ
     ·(conv=>whnf);replace h:=rq rfl h;refine qE h id fun Ji h=>?_;(conv=>whnf);refine bs h (fun IB h=>?_) fun IB h=>?_
      ·rw [IB];(conv=>whnf);cases qQ
       ·(conv=>whnf);replace h:=rq rfl h;exact ⟨m,sg m,dh,(w (G'+(1:Int))),rfl,rfl,h⟩
       ·(conv=>whnf);replace h:=rp rfl h;refine qE h id fun OX h=>?_;(conv=>whnf);obtain ⟨H5,Nu,h⟩:=p' h;refine ⟨qj.pl,_,LU Nu,(K6 (fun _ e=>by simp at e) rC),?_⟩;(conv=>whnf);cases H5
        ·(conv=>whnf);replace h:=rq rfl h;exact ⟨m,sg m,dh,(w (G'+(1:Int))),rfl,rfl,h⟩
        ·(conv=>whnf);replace h:=rp rfl h;refine qE h id fun Le h=>?_;rw [rj hX s2 G' Le];(conv=>whnf);refine qE h id fun Mg h=>?_;(conv=>whnf);exact ⟨m,sg m,(w ((BitVec.ofInt IntKind.i64.bits dh ||| BitVec.ofInt IntKind.i64.bits (w ((1:Int)*2 ^ (Nat.min (ix s2 G').toNat 64)))).toNat:Int)),(w (G'+(1:Int))),rfl,rfl,h⟩
      ·rw [IB];(conv=>whnf);exact ⟨m,sg m,dh,(w (G'+(1:Int))),rfl,rfl,h⟩
     ·(conv=>whnf);replace h:=rp rfl h;refine qE h id fun Jh h=>?_;rw [rj hX s2 G' Jh];(conv=>whnf);refine qE h id fun Iq h=>?_;(conv=>whnf);exact ⟨m,sg m,(w ((BitVec.ofInt IntKind.i64.bits dh ||| BitVec.ofInt IntKind.i64.bits (w ((1:Int)*2 ^ (Nat.min (ix s2 G').toNat 64)))).toNat:Int)),(w (G'+(1:Int))),rfl,rfl,h⟩
   ·rw [Hw];(conv=>whnf);refine qE h id fun VT h=>?_;(conv=>whnf);refine bs h (fun Nw h=>?_) fun Nw h=>?_
    ·rw [Nw];(conv=>whnf);cases qQ
     ·(conv=>whnf);replace h:=rq rfl h;exact ⟨m,sg m,dh,(w (G'+(1:Int))),rfl,rfl,h⟩
     ·(conv=>whnf);replace h:=rp rfl h;refine qE h id fun OZ h=>?_;(conv=>whnf);obtain ⟨Ig,Nx,h⟩:=p' h;refine ⟨qj.pl,_,LU Nx,rC,?_⟩;(conv=>whnf);cases Ig
      ·(conv=>whnf);replace h:=rq rfl h;exact ⟨m,sg m,dh,(w (G'+(1:Int))),rfl,rfl,h⟩
      ·(conv=>whnf);replace h:=rp rfl h;refine qE h id fun Ny h=>?_;rw [rj hX s2 G' Ny];(conv=>whnf);refine qE h id fun O0 h=>?_;(conv=>whnf);exact ⟨m,sg m,(w ((BitVec.ofInt IntKind.i64.bits dh ||| BitVec.ofInt IntKind.i64.bits (w ((1:Int)*2 ^ (Nat.min (ix s2 G').toNat 64)))).toNat:Int)),(w (G'+(1:Int))),rfl,rfl,h⟩
    ·rw [Nw];(conv=>whnf);exact ⟨m,sg m,dh,(w (G'+(1:Int))),rfl,rfl,h⟩
  ·rw [Hj];(conv=>whnf);exact ⟨m,sg m,dh,(w (G'+(1:Int))),rfl,rfl,h⟩
 ·rw [re];conv=>whnf
  exact I4 _ _ h ⟨rfl,rfl⟩
theorem aiv {p:(qk×(Int×Int))} {qc:Int→Option (qa×Int)} {s1:Int} {s2:qa} {v:(qa×Int)} {Q:rS}   (ra:∀ (oS:Int) (bw:ar) (qf:List I),qc oS=some v→rm 98 [(4,(hX (p.1.length:Int))),(5,(hX oS))] qf→Q (.exit 0) qf [bw]) {T:List I} (bZ:eW (qd false [1,1,2,3,91]) T=qg 98 [(1,(.ptr 0 0)),(4,(hX (p.1.length:Int))),(5,(hX s1)),(6,(qz s2 .shared))]) (h:Ki p qc qi s1 s2=some v) :
  dN Tryz.prog Nb 25 0 none Qc T [ar.cells [(qZ p.1 .shared),(hX p.2.1),(hX p.2.2)]] Q:=by
 unfold Qc;obtain ⟨r_,qD⟩:∃ c,Qb=c:=⟨_,rfl⟩;rw [qD];refine wp_loop bZ ?_;refine .intro (fun m T H=>∃ (s1:Int) (s2:qa),T=qg 98 [(1,(.ptr 0 0)),(4,(hX (p.1.length:Int))),(5,(hX s1)),(6,(qz s2 .shared))]∧H=[ar.cells [(qZ p.1 .shared),(hX p.2.1),(hX p.2.2)]]∧Ki p qc m s1 s2=some v) qi ⟨s1,s2,rfl,rfl,h⟩ ?_;clear h bZ;rintro m T H ⟨s1,s2,rfl,rfl,h⟩;cases m
 ·exact rA h
 rename_i m;rw [Ki.eq_2] at h;conv=>whnf
 refine bs h (fun qX h=>?_) fun qX h=>?_
 ·rw [qX];conv=>whnf
  obtain ⟨qQ,q9,h⟩:=p' h;refine ⟨qj.pl,_,LU q9,rC,?_⟩;conv=>whnf
  obtain ⟨q4,qS,h⟩:=p' h;refine ⟨qj.pl,_,LU qS,(K6 (fun _ e=>by simp at e) rC),?_⟩;conv=>whnf
  subst qD;refine aiw ?_ (by exact rfl) h;intro yn qf h qA;obtain ⟨rr,rfl⟩:=qA.ex;conv=>whnf
  obtain ⟨It,Nz,h⟩:=p' h;refine ⟨qj.pl,_,MY Nz,?_⟩;conv=>whnf
  exact ⟨m,sg m,yn,It,rfl,rfl,h⟩
 ·rw [qX];conv=>whnf
  exact ra _ _ _ h ⟨rfl,rfl⟩
theorem aix {p:(qk×(Int×Int))} {oS:Int} {Hf:qa→Option (qa×Int)} {rB:qa} {H6:Int} {v:(qa×Int)} {Q:rS} {bw:ar}  (NB:∀ (Gz:qa) (qf:List I),Hf Gz=some v→rm 98 [(10,(qz Gz (.uniq 1)))] qf→Q (.exit 4) qf [bw]) {T:List I} (bZ:eW (qd false [4,2,4,2,86]) T=qg 98 [(4,(hX (p.1.length:Int))),(5,(hX oS)),(10,(qz rB (.uniq 1))),(11,(hX H6))]) (h:Kj p oS Hf qi rB H6=some v) :
  dN Tryz.prog Nb 25 0 none Qd T [bw] Q:=by
 unfold Qd;refine wp_loop bZ ?_;refine .intro (fun m T H=>∃ (rB:qa) (H6:Int),T=qg 98 [(4,(hX (p.1.length:Int))),(5,(hX oS)),(10,(qz rB (.uniq 1))),(11,(hX H6))]∧H=[bw]∧Kj p oS Hf m rB H6=some v) qi ⟨rB,H6,rfl,rfl,h⟩ ?_;clear h bZ;rintro m T H ⟨rB,H6,rfl,rfl,h⟩;cases m
 ·exact rA h
 rename_i m;rw [Kj.eq_2] at h;conv=>whnf
 refine bs h (fun Lf h=>?_) fun Lf h=>?_
 ·rw [Lf];conv=>whnf
  refine qE h id fun O1 h=>?_;conv=>whnf
  refine bs h (fun Lg h=>?_) fun Lg h=>?_
  ·rw [Lg];(conv=>whnf);obtain ⟨Mh,h⟩:=rW h;refine ⟨by first | rfl | simp,by have:=Mh;omega,rfl,Mh,?_⟩
   erw [L7 hX rB H6];(conv=>whnf);exact ⟨m,sg m,(rB++[H6]),(w (H6+(1:Int))),rfl,rfl,h⟩
  ·rw [Lg];(conv=>whnf);exact ⟨m,sg m,rB,(w (H6+(1:Int))),rfl,rfl,h⟩
 ·rw [Lf];conv=>whnf
  exact NB _ _ h ⟨rfl,rfl⟩
theorem aiy {p:(qk×(Int×Int))} {v:(qa×Int)} (h:Oe p=some v):qw 25 [(.agg [(.av (p.1.flatMap p_) p.1.length .shared),(hX p.2.1),(hX p.2.2)])] (.tuple [(.av (v.1.map hX) v.1.length .shared),(hX v.2)]):=by
 refine qO eD aeS rfl (Is (p7 (rM (fun _=>rfl) _ _ _) (p7 rfl rfl))) fun Q bo=>?_;have jG:qL [.tmp 2,.tmp 3] Q (fun v=>(.tuple [(qz v.1 .shared),(hX v.2)])) v:=fun T H bD=>bo _ T H bD;unfold Oe at h;unfold aai;obtain ⟨J3,rO⟩:∃ c,Qc=c:=⟨_,rfl⟩;rw [rO];obtain ⟨Q4,Jx⟩:∃ c,Qd=c:=⟨_,rfl⟩;rw [Jx];conv=>whnf
 obtain ⟨aS,gJ,h⟩:=p' h;refine ⟨qj.pl,_,KV gJ,?_⟩;conv=>whnf
 refine bs h (fun gK h=>?_) fun gK h=>?_
 ·rw [gK];conv=>whnf
  obtain ⟨bh,qt,h⟩:=p' h;refine ⟨qj.pl,_,KV qt,?_⟩;conv=>whnf
  exact qe h jG rfl rfl
 ·rw [gK];conv=>whnf
  obtain ⟨eH,qH,h⟩:=p' h;refine ⟨(p7 rfl rfl),_,Tn qH,?_⟩;conv=>whnf
  subst rO;refine aiv ?_ (by exact rfl) h;intro oS bw qf h qA;obtain ⟨rr,rfl⟩:=qA.ex;conv=>whnf
  subst Jx;refine aix ?_ (by exact rfl) h;intro Gz qf h qA;obtain ⟨rr,rfl⟩:=qA.ex;conv=>whnf
  exact qe h jG rfl rfl
end Go.Proofs.YtkoioidpbbbaiaaGreat.Ab


namespace Go.Proofs.YtkoioidpbbbaiaaGreat.Ab
open Go
set_option maxRecDepth 20000
set_option maxHeartbeats 1000000
def C9 (p:qn) (o:List Int) (i:Nat):Bool:=decide (r8 p o (1-i % 2)) && decide (H_ p o (i % 2) i)
abbrev Hv:=Nat→Bool
def Lz (p:qn) (o:List Int) (i:Nat) (M:Hv):Hv:=fun s=>M s || (decide (s=(ix o (i:Int)).toNat) && C9 p o i)
def HB (p:qn) (o:List Int) (M:Hv):Nat→Hv
 | 0=>M
 | k+1=>Lz p o k (HB p o M k)
def allM (p:qn):List (List Int)→Hv→Hv
 | [],M=>M
 | o::r,M=>allM p r (HB p o M o.length)
def HT (p:qn):Hv:=allM p (qM p) fun _=>false
theorem Xc {p:qn} {o:List Int} {M:Hv} {s:Nat}:∀ {k:Nat},HB p o M k s=true↔M s=true∨∃ i,i<k∧s=(ix o (i:Int)).toNat∧C9 p o i=true
 | 0=>by simp [HB]
 | k+1=>by
   unfold HB Lz;rw [Bool.or_eq_true,Xc,su,decide_eq_true_eq];constructor
   ·rintro ((h | ⟨i,ab,ae⟩) | h)
    ·exact .inl h
    ·exact .inr ⟨i,by omega,ae⟩
    ·exact .inr ⟨k,by omega,h⟩
   ·rintro (h | ⟨i,ab,ae⟩)
    ·exact .inl (.inl h)
    ·by_cases e:i=k
     ·subst e;exact .inr ae
     ·exact .inl (.inr ⟨i,by omega,ae⟩)
theorem T6 {p:qn} {s:Nat}:∀ {E:List (List Int)} {M:Hv},allM p E M s=true↔M s=true∨∃ o∈E,∃ i,i<o.length∧s=(ix o (i:Int)).toNat∧C9 p o i=true
 | [],M=>by simp [allM]
 | o::r,M=>by
   unfold allM;rw [T6,Xc];constructor
   ·rintro ((h | h) | ⟨cw,ab,ae⟩)
    ·exact .inl h
    ·exact .inr ⟨o,by simp,h⟩
    ·exact .inr ⟨cw,by simp [ab],ae⟩
   ·rintro (h | ⟨cw,ab,ae⟩)
    ·exact .inl (.inl h)
    ·rcases sy.1 ab with rfl | ab
     ·exact .inl (.inr ae)
     ·exact .inr ⟨cw,ab,ae⟩
theorem U2 {p:qn} {s:Nat}:HT p s=true↔∃ o,qB p.1.length o∧∃ i,i<o.length∧s=(ix o (i:Int)).toNat∧C9 p o i=true:=by
 unfold HT;rw [T6];constructor
 ·rintro (h | ⟨o,ab,ae⟩)
  ·cases h
  ·exact ⟨o,Ka.1 ab,ae⟩
 ·rintro ⟨o,ab,ae⟩;exact .inr ⟨o,Ka.2 ab,ae⟩
theorem abT {p:qn} {s:Nat} (h:HT p s=true):s<p.1.length:=by
 obtain ⟨o,k,i,hi,rfl,_⟩:=U2.1 h;have:=rY k i hi;omega
def Je (p:qn):List Int:=(qp p.1.length).filter fun s=>HT p s.toNat
def zY (M:Hv):List Int:=(List.range 7).map fun s=>if M s=true then 1 else 0
theorem afz (M:Hv):(zY M).length=7:=by simp [zY]
theorem WX (M:Hv) {s:Nat} (h:s<7):ix (zY M) (s:Int)=if M s=true then 1 else 0:=by
 rw [rI (by rw [afz];exact h)];simp [zY]
theorem afA (M:Hv) {v:Nat} (h:v<7):(zY M).set v 1=zY fun s=>M s || decide (s=v):=by
 apply List.ext_getElem (by simp [zY]);intro j ab ae;rw [List.getElem_set];simp only [zY,tX,List.getElem_range];by_cases e:v=j
 ·subst e;simp
 ·rw [if_neg e]
  have:decide (j=v)=false:=by simp;omega
  rw [this,vS]
section
variable {p:qn} {o:List Int}
theorem abU (h:rk p) (k:qB p.1.length o) {i:Nat} (hi:i<o.length) (M:Hv):JU (p,()) o (zY M) (i:Int)=some (zY (Lz p o i M)):=by
 have Li:=qB.Mm h k;have ai:=rY k i hi;have aI:=k.1;obtain ⟨v,ad⟩:∃ v:Nat,ix o (i:Int)=(v:Int):=⟨(ix o (i:Int)).toNat,by omega⟩;have hu:Lz p o i M=fun s=>M s || (decide (s=v) && C9 p o i):=by unfold Lz;rw [ad];rfl
 rw [hu];unfold JU;rw [ad] at ai ⊢;rw [qx (by omega),WX M (by omega)];cases CA:M v with
 | true =>
   rw [if_pos (by simp)];congr 1;unfold zY;refine List.map_congr_left fun s _=>?_;by_cases e:s=v
   ·subst e;simp [CA]
   ·simp [e]
 | false =>
   rw [if_neg (by simp),Lx];(have e1:w (1-((i % 2:Nat):Int))=((1-i % 2:Nat):Int):=by rw [qG (by omega)];omega);rw [e1,ZU h k,sc];unfold C9;rcases ZT h k (a:=i % 2) hi with ⟨s,ab,ae,aF⟩ | ⟨ab,ae⟩
   ·rw [ab,sc,decide_eq_true (L_.2 ⟨s,ae,aF⟩)];simp only [tx];by_cases aP:r8 p o (1-i % 2)
    ·rw [if_pos (decide_eq_true aP),decide_eq_true aP,tD,afA M (by omega)];simp only [tx]
    ·rw [if_neg (by simpa using aP),decide_eq_false aP];simp only [Bool.and_false,vS]
   ·rw [ab,sc,decide_eq_false ae];simp only [Bool.and_false,vS];rw [if_neg (by decide)]
theorem Vo (h:rk p) (k:qB p.1.length o) (M:Hv):∀ (m i:Nat),i≤o.length→o.length-i=m→IA (JU (p,()) o) ((qp o.length).drop i) (zY (HB p o M i))=some (zY (HB p o M o.length))
 | 0,i,hi,hm=>by
   (obtain rfl:i=o.length:=by omega);rw [uR (by rw [LB];omega)];rfl
 | m+1,i,hi,hm=>by
   (have aR:i<o.length:=by omega);have e1:(qp o.length).drop i=(i:Int)::(qp o.length).drop (i+1):=by
    rw [sV (by rw [LB];omega)];congr 1;rw [←rI,RQ aR]
   rw [e1];show (JU (p,()) o (zY (HB p o M i)) (i:Int)).bind (fun t=>IA (JU (p,()) o) _ t)=_;rw [abU h k aR,sc];exact Vo h k M m (i+1) (by omega) (by omega)
theorem abW (h:rk p) (k:qB p.1.length o) (M:Hv):L9 (p,()) (zY M) o=some (zY (HB p o M o.length)):=Vo h k M o.length 0 (by omega) rfl
theorem Vq (h:rk p):∀ (E:List (List Int)) (M:Hv),(∀ o∈E,qB p.1.length o)→IA (L9 (p,())) E (zY M)=some (zY (allM p E M))
 | [],_,_=>rfl
 | o::r,M,r7=>by
   show (L9 (p,()) (zY M) o).bind (fun t=>IA (L9 (p,())) r t)=_;rw [abW h (r7 o (by simp)),sc];exact Vq h r _ fun cw aX=>r7 cw (by simp [aX])
theorem abH {p:qn} (h:rk p):K9 (zY (HT p))=(Je p,0):=by
 have f_:(qp 7).filter (fun s=>decide (0<ix (zY (HT p)) s))=(qp 7).filter fun s=>HT p s.toNat:=by
  refine uq fun s ah=>?_;have:=NJ.1 ah;obtain ⟨v,rfl⟩:∃ v:Nat,s=(v:Int):=⟨s.toNat,by omega⟩;rw [WX _ (by omega),tD];cases HT p v <;> rfl
 have e1:(qp 7).filter (fun s=>HT p s.toNat)=Je p:=by
  unfold Je;have key:∀ r:List Int,(∀ s∈r,(p.1.length:Int)≤s)→r.filter (fun s=>HT p s.toNat)=[]:=fun r ai=>by
   rw [List.filter_eq_nil_iff];intro s ah af;have:=abT af;have:=ai s ah;omega
  rcases h.n with e | e | e
  ·rw [e,show qp 7=qp 3++[3,4,5,6] from rfl,tE,key [3,4,5,6] (by rw [e];decide),sM]
  ·rw [e,show qp 7=qp 5++[5,6] from rfl,tE,key [5,6] (by rw [e];decide),sM]
  ·rw [e]
 unfold K9;by_cases bj:zY (HT p)=[0,0,0,0,0,0,0]
 ·rw [if_pos (decide_eq_true bj)];rw [bj] at f_;rw [←e1,←f_];rfl
 ·rw [if_neg (by simpa using bj),f_,e1]
theorem ZC (aB:p.1.length≤1000):LK p=some (if qY p=0 then (Je p,0) else ([],qY p)):=by
 unfold LK;rw [Tr aB,sc];by_cases h:qY p=0
 ·rw [if_pos h,if_pos h];have ad:=Jg.1 h;have ao:=ad.len;simp only;rw [qx (show 0<p.1.length∧p.1.length≤7 by omega)];have e:IA (L9 (p,())) (qV p.1.length (qp p.1.length)) [0,0,0,0,0,0,0]=some (zY (HT p)):=Vq ad (qM p) (fun _=>false) fun o aq=>Ka.1 aq;rw [e,sc,abH ad]
 ·rw [if_neg h,if_neg h];simp only;rw [if_pos (decide_eq_true h)]
theorem afQ:∀ (b:Fin 128) (v:Fin 7),w (((BitVec.ofInt IntKind.i64.bits ((b.1:Nat):Int) ||| BitVec.ofInt IntKind.i64.bits (w ((1:Int)*2 ^ (Nat.min (((v.1:Nat):Int)).toNat 64)))).toNat:Nat):Int)=((b.1 ||| 2 ^ v.1:Nat):Int):=by decide +kernel
theorem af1:∀ v:Fin 7,w ((1:Int)*2 ^ (Nat.min (((v.1:Nat):Int)).toNat 64))=((2 ^ v.1:Nat):Int):=by decide +kernel
def J2 (M:Hv) (b:Nat):Prop:=b<128∧∀ j,j<7→b.testBit j=M j
theorem Wi (h:rk p) (k:qB p.1.length o) {M:Hv} {K:Int→Option (List Int×Int)}:∀ (m i b:Nat),i≤o.length→o.length-i<m→J2 (HB p o M i) b →
  ∃ au,J2 (HB p o M o.length) au∧Ht p o (decide (r8 p o 0)) (decide (r8 p o 1)) K m (b i:Int)=K (au:Int)
 | 0,_,_,_,h,_=>absurd h (by omega)
 | m+1,i,b,hi,hm,af=>by
   have Li:=qB.Mm h k;have aI:=k.1;by_cases aR:i<o.length
   ·have ai:=rY k i aR;obtain ⟨v,ad⟩:∃ v:Nat,ix o (i:Int)=(v:Int):=⟨(ix o (i:Int)).toNat,by omega⟩;have hu:HB p o M (i+1)=fun s=>HB p o M i s || (decide (s=v) && C9 p o i):=by
     show Lz p o i (HB p o M i)=_;unfold Lz;rw [ad];rfl
    (have V2:v<7:=by omega);have same:(b.testBit v=true∨C9 p o i=false)→J2 (HB p o M (i+1)) b:=fun ak=>by
     rw [hu];refine ⟨af.1,fun j aw=>?_⟩;rw [af.2 j aw];show HB p o M i j=(HB p o M i j || (decide (j=v) && C9 p o i))
     rcases ak with ak | ak
     ·by_cases e:j=v
      ·subst e;rw [←af.2 j aw,ak];rfl
      ·rw [decide_eq_false e];simp
     ·rw [ak];simp
    have new:C9 p o i=true→J2 (HB p o M (i+1)) (b ||| 2 ^ v):=fun ak=>by
     rw [hu];refine ⟨Nat.or_lt_two_pow (n:=7) af.1 ((Nat.pow_lt_pow_iff_right (by omega)).2 V2),fun j aw=>?_⟩;rw [Nat.testBit_or,Nat.testBit_two_pow,af.2 j aw];simp only [ak,tx];congr 1;rw [Bool.eq_iff_iff,decide_eq_true_eq,decide_eq_true_eq];omega
    (have next:∀ cr:Nat,J2 (HB p o M (i+1)) cr→∃ au,J2 (HB p o M o.length) au∧Ht p o (decide (r8 p o 0)) (decide (r8 p o 1)) K m (cr:Int) ((i+1:Nat):Int)=K (au:Int):=fun cr gK=>Wi h k m (i+1) cr (by omega) (by omega) gK);rw [Ht,if_pos (decide_eq_true (by omega)),qx (by omega),ad,qx (by omega),Nf af.1 (by omega),Hr i (by omega)];cases ak:b.testBit v with
    | true =>
      rw [if_neg (by simp)];exact next b (same (.inl ak))
    | false =>
      rw [if_pos (by simp)];rw [qx (by decide),Lx];have OM:=ZX h k aR rfl;have Ra:=af1 ⟨i,by omega⟩;simp only at Ra;have Q':=afQ ⟨b,af.1⟩ ⟨v,V2⟩;simp only at Q';rcases (show i % 2=0∨i % 2=1 by omega) with a_ | a_
      ·rw [a_] at OM ⊢;(have IC:C9 p o i=(decide (r8 p o 1) && decide (H_ p o 0 i)):=by unfold C9;rw [a_]);rw [if_pos (by decide)];(have q1:¬ (decide (((0:Nat):Int)=1))=true:=by decide);by_cases aP:r8 p o 1
       ·(rw [decide_eq_true aP] at IC next ⊢);rw [if_pos rfl,qx (by omega),Ra];have Q9:H7 p o 0 ((2 ^ i:Nat):Int)=_:=OM;rw [Q9,sc];by_cases NA:H_ p o 0 i
        ·rw [decide_eq_true NA] at IC ⊢;rw [if_pos rfl,qx (by omega),qx (by omega),Q'];exact next _ (new IC)
        ·rw [decide_eq_false NA] at IC ⊢;rw [if_neg (by decide),qx (by decide),if_neg q1];exact next _ (same (.inr IC))
       ·(rw [decide_eq_false aP] at IC next ⊢);rw [if_neg (by decide),qx (by decide),if_neg q1];exact next _ (same (.inr IC))
      ·rw [a_] at OM ⊢;(have IC:C9 p o i=(decide (r8 p o 0) && decide (H_ p o 1 i)):=by unfold C9;rw [a_]);rw [if_neg (by decide),qx (by decide),if_pos (by decide)];by_cases aP:r8 p o 0
       ·(rw [decide_eq_true aP] at IC next ⊢);rw [if_pos rfl,qx (by omega),Ra];have Q9:H7 p o 1 ((2 ^ i:Nat):Int)=_:=OM;rw [Q9,sc];by_cases NA:H_ p o 1 i
        ·rw [decide_eq_true NA] at IC ⊢;rw [if_pos rfl,qx (by omega),qx (by omega),Q'];exact next _ (new IC)
        ·rw [decide_eq_false NA] at IC ⊢;rw [if_neg (by decide)];exact next _ (same (.inr IC))
       ·(rw [decide_eq_false aP] at IC next ⊢);rw [if_neg (by decide)];exact next _ (same (.inr IC))
   ·(obtain rfl:i=o.length:=by omega);refine ⟨b,af,?_⟩;rw [Ht,if_neg (by simp;omega)]
theorem Wh (h:rk p) {R:List Int×Int} {K:Int→Option (List Int×Int)} (fG:∀ b:Nat,J2 (HT p) b→K (b:Int)=some R):∀ (m j b:Nat),j≤(qM p).length→(qM p).length-j<m→J2 (allM p ((qM p).take j) fun _=>false) b →
  Ki p K m (b:Int) ((qM p)[j]?.getD [])=some R
 | 0,_,_,_,h,_=>absurd h (by omega)
 | m+1,j,b,aw,hm,af=>by
   have hlen:=h.len;have RM:=Ku h;rw [Ki];by_cases aR:j<(qM p).length
   ·rw [sm aR,tL];have al:=Ka.1 (tt aR);have f_:H7 p (qM p)[j] 0 0=_:=Tx h al (a:=0) (by omega);have e1:H7 p (qM p)[j] 1 0=_:=Tx h al (a:=1) (by omega);rw [if_pos (decide_eq_true (by rw [al.1];omega)),f_,sc,e1,sc];obtain ⟨au,bu,b9⟩:=Wi h al (M:=allM p ((qM p).take j) fun _=>false) (K:=fun yn=>(Ii (qM p)[j]).bind fun It=>Ki p K m yn It) qi 0 b (by omega) (r6 (by have:=al.1;omega)) af;refine Eq.trans b9 ?_;have aj:Ii (qM p)[j]=some ((qM p)[j+1]?.getD []):=PZ (by omega) (by omega) aR;show (Ii (qM p)[j]).bind (fun It=>Ki p K m (au:Int) It)=_;rw [aj,sc];refine Wh h fG m (j+1) au (by omega) (by omega) ?_;have dx:∀ (E:List (List Int)) (o:List Int) (M:Hv),allM p (E++[o]) M=HB p o (allM p E M) o.length:=fun E=>by
     induction E with
     | nil=>intro o M;rfl
     | cons a E a8=>intro o M;show allM p (E++[o]) _=_;rw [a8];rfl
    rw [N8 aR,dx];exact bu
   ·rw [tO (by omega),vR,if_neg (by decide)];rw [tb (by omega)] at af;exact fG b af
theorem Wj (aI:p.1.length≤7) {M:Hv} {b:Nat} (af:J2 M b) {K:List Int→Option (List Int×Int)}:∀ (m i:Nat),i≤p.1.length→p.1.length-i<m →
  Kj p (b:Int) K m ((qp i).filter fun s=>M s.toNat) (i:Int)=K ((qp p.1.length).filter fun s=>M s.toNat)
 | 0,_,_,h=>absurd h (by omega)
 | m+1,i,hi,hm=>by
   rw [Kj];by_cases aR:i<p.1.length
   ·rw [if_pos (decide_eq_true (by omega)),qx (by omega),Nf af.1 (by omega),af.2 i (by omega),Hr i (by omega)];have a8:=Wj aI af (K:=K) m (i+1) (by omega) (by omega);(have e1:qp (i+1)=qp i++[(i:Int)]:=by unfold qp;rw [vm,sR];rfl);rw [e1,tE] at a8;have aP:=uS (fun s:Int=>M s.toNat) (qp i);rw [LB] at aP;cases CA:M i with
    | true =>
      rw [if_pos (by simp),qx (by omega)];rw [show [(i:Int)].filter (fun s=>M s.toNat)=[(i:Int)] by simp [CA]] at a8;exact a8
    | false =>
      rw [if_neg (by simp)];rw [show [(i:Int)].filter (fun s=>M s.toNat)=[] by simp [CA],sM] at a8;exact a8
   ·(obtain rfl:i=p.1.length:=by omega);rw [if_neg (by simp)]
theorem aiu (aB:p.1.length≤1000):Oe p=some (if qY p=0 then (Je p,0) else ([],qY p)):=by
 unfold Oe;rw [PY aB,sc,sc];by_cases h:qY p=0
 ·rw [if_neg (show ¬ decide (qY p≠0)=true by simpa using h),if_pos h];have ad:=Jg.1 h;have ao:=ad.len;rw [Tm aB,sc];have:=Wh ad (R:=(Je p,0)) (K:=fun oS=>Kj p oS (fun Gz=>some (Gz,0)) qi [] 0) (fun b af=>Wj (by omega) af qi 0 (by omega) (r6 (by omega))) qi 0 0 (by omega) (r6 (by have:=Ku ad;omega)) ⟨by omega,fun j _=>by simp [allM]⟩;rw [QF] at this;exact this
 ·rw [if_pos (decide_eq_true h),if_neg h]
end
end Go.Proofs.YtkoioidpbbbaiaaGreat.Ab


namespace Go.Proofs.YtkoioidpbbbaiaaGreat.Ab
open Go
set_option maxRecDepth 20000
set_option maxHeartbeats 4000000
noncomputable def P':gB :=
 .loop (some (qd false [0,2,3,1,20])) (.seq (p5 [p6 11 5,p6 12 0,q2 13 12,qq 14 11 13 .lss] (.cond (.m_ 14) .skip (.exit 0))) (.seq (.block 1 (.seq (ri [p6 17 0,p6 18 5,rn 19 17 18 1,qm 20 19,p6 21 1,p6 22 5,rn 23 21 22 1,qm 24 23,qq 25 20 24 .neq]) (.cond (.m_ 25) (p5 [p3 4 [.cv (.bool false)] .mR] .ret) .skip))) (qF [p4 15 5,qW 16 15 1,p4 5 16])))
noncomputable def aae:gB :=
 p5 [p3 4 [.cv (.bool false)] .mR] (.seq (p5 [p6 6 0,q2 7 6,p6 8 1,q2 9 8,qq 10 7 9 .neq] (.cond (.m_ 10) (p5 [p3 4 [.cv (.bool false)] .mR] .ret) .skip)) (.seq (p5 [qh 5 0] (.block 0 P')) (p5 [p3 4 [.cv (.bool true)] .mR] .ret)))
theorem aeO:qu Tryz.prog QK 18=some (aae,26,[.tmp 4]):=by qb
def LI (a b:qa) (qc:Unit→Option Bool):Nat→Int→Option Bool
 | 0,_=>none
 | m+1,s1 =>
   if (decide (s1<(a.length:Int)))=true then
    qs (0≤s1∧s1<(a.length:Int)) <|
    qs (0≤s1∧s1<(b.length:Int)) <|
    if (decide ((ix a s1)≠(ix b s1)))=true then
     some false
    else
     LI a b qc m (w (s1+(1:Int)))
   else
    qc ()
def Jn (a b:qa):Option Bool :=
 if (decide ((a.length:Int)≠(b.length:Int)))=true then
  some false
 else
  LI a b (fun _ =>
    some true) qi (0:Int)
theorem aiq {a:qa} {b:qa} {qc:Unit→Option Bool} {s1:Int} {v:Bool} {Q:rS}   (jG:qL [.tmp 4] Q (fun v=>(B v)) v) (ra:∀ (qf:List I),qc ()=some v→rm 26 [] qf→Q (.exit 0) qf []) {T:List I} (bZ:eW (qd false [0,2,3,1,20]) T=qg 26 [(0,(qz a .shared)),(1,(qz b .shared)),(5,(hX s1))]) (h:LI a b qc qi s1=some v) :
  dN Tryz.prog QK 18 0 none P' T [] Q:=by
 unfold P';refine wp_loop bZ ?_;refine .intro (fun m T H=>∃ (s1:Int),T=qg 26 [(0,(qz a .shared)),(1,(qz b .shared)),(5,(hX s1))]∧H=[]∧LI a b qc m s1=some v) qi ⟨s1,rfl,rfl,h⟩ ?_;clear h bZ;rintro m T H ⟨s1,rfl,rfl,h⟩;cases m
 ·exact rA h
 rename_i m;rw [LI.eq_2] at h;conv=>whnf
 refine bs h (fun gK h=>?_) fun gK h=>?_
 ·rw [gK];conv=>whnf
  refine qE h id fun qt h=>?_;rw [rj hX a s1 qt];conv=>whnf
  refine qE h id fun qH h=>?_;rw [rj hX b s1 qH];conv=>whnf
  refine bs h (fun qX h=>?_) fun qX h=>?_
  ·rw [qX];(conv=>whnf);exact qe h jG rfl rfl
  ·rw [qX];(conv=>whnf);exact ⟨m,sg m,(w (s1+(1:Int))),rfl,rfl,h⟩
 ·rw [gK];conv=>whnf
  exact ra  _ h ⟨rfl,rfl⟩
theorem PO {a:qa} {b:qa} {v:Bool} (h:Jn a b=some v):qw 18 [(.av (a.map hX) a.length .shared),(.av (b.map hX) b.length .shared)] (B v):=by
 refine qO eD aeO rfl rfl fun Q bo=>?_;have jG:qL [.tmp 4] Q (fun v=>(B v)) v:=fun T H bD=>bo _ T H bD;unfold Jn at h;unfold aae;obtain ⟨r_,qD⟩:∃ c,P'=c:=⟨_,rfl⟩;rw [qD];conv=>whnf
 refine bs h (fun gJ h=>?_) fun gJ h=>?_
 ·rw [gJ];conv=>whnf
  exact qe h jG rfl rfl
 ·rw [gJ];conv=>whnf
  subst qD;refine aiq ?_ ?_ (by exact rfl) h
  ·exact fun T H bD=>jG T H bD
  ·intro  qf h qA;obtain ⟨rr,rfl⟩:=qA.ex;(conv=>whnf);exact qe h jG rfl rfl

noncomputable def aag:gB :=
 p5 [p3 2 [.jm 0] .box,qh 4 0,qh 5 0] (p5 [p3 9 [.Bs 2] (.zE (.str 3)),p4 10 1,p3 11 [.cv (.func 23 [] []),.m_ 9,.m_ 10] (.call 3),p4 8 11,qR 12 8 0,p3 13 [.Bs 8] (.ext 1),p4 6 12,p4 7 13] (p5 [p4 14 6,q2 15 14,p4 16 7,p4 4 15,p4 5 16] .ret))
theorem aeQ:qu Tryz.prog Uh 21=some (aag,17,[.tmp 4,.tmp 5]):=by qb
def LJ (p:(qk×(Int×Int))) (order:qa):Option (Int×Int) :=
 (KR p order).bind fun aS =>
 some ((aS.1.length:Int),aS.2)
theorem ZB {p:(qk×(Int×Int))} {order:qa} {v:(Int×Int)} (h:LJ p order=some v):qw 21 [(.agg [(.av (p.1.flatMap p_) p.1.length .shared),(hX p.2.1),(hX p.2.2)]),(.av (order.map hX) order.length .shared)] (.tuple [(hX v.1),(hX v.2)]):=by
 refine qO eD aeQ rfl (Is (p7 rfl (p7 rfl rfl))) fun Q bo=>?_;have jG:qL [.tmp 4,.tmp 5] Q (fun v=>(.tuple [(hX v.1),(hX v.2)])) v:=fun T H bD=>bo _ T H bD;unfold LJ at h;unfold aag;conv=>whnf
 obtain ⟨aS,gJ,h⟩:=p' h;refine ⟨qj.pl,_,Tj gJ,?_⟩;conv=>whnf
 exact qe h jG rfl rfl

def Js (x:(Int×Int)):List I:=[(hX x.1),(hX x.2)]
theorem QA (x:(Int×Int)):(Js x).length=2:=rfl
instance {d:Nat} {x:(Int×Int)}:qj (d+1) (Js x):=⟨(inferInstance:qj (d+1) [(hX x.1),(hX x.2)]).pl⟩
noncomputable def Qo:gB :=
 .loop (some (qd false [2,1,3,3,27])) (.seq (p5 [p6 13 8,qW 14 13 1,p6 15 2,q2 16 15,qq 17 14 16 .lss] (.cond (.m_ 17) .skip (.exit 0))) (.seq (.block 1 (ri [p3 20 [.m_ 7] (.yM 0),p3 21 [.Bs 20] .take,p6 22 2,p6 23 8,rn 24 22 23 1,qm 25 24,p6 26 2,p6 27 8,qW 28 27 1,rn 29 26 28 1,qm 30 29,p3 31 [.Bs 25,.Bs 30] (.build [.int .i64 0,.int .i64 0] [(0,1),(1,1)]),p3 32 [.Bs 31] (.yB 1 2 [.int .i64 0,.int .i64 0] [0]),p3 33 [.jm 21,.jm 32] (.app 2 16),p3 34 [.m_ 7] (.yM 0),⟨none,[.jm 34,.jm 33],none,none,.st 1⟩])) (qF [p4 18 8,qW 19 18 2,p4 8 19])))
noncomputable def aaI:gB :=
 p5 [p3 6 [] (.alloc [.av [] 0 .full,.int .i64 0,.int .i64 0])] (p5 [p4 9 0,p4 10 1,p3 11 [.Bs 9,.Bs 10] (.build [.int .i64 0,.int .i64 0] [(0,1),(1,1)]),p3 12 [.Bs 11] (.build [.av [] 0 .full,.int .i64 0,.int .i64 0] [(1,2)]),p3 7 [] (.alloc [.av [] 0 .full,.int .i64 0,.int .i64 0]),⟨none,[.m_ 7,.jm 12],none,none,.st 3⟩] (.seq (p5 [qh 8 0] (.block 0 Qo)) (p5 [p3 35 [.Bs 7] (.zE (.str 3)),⟨none,[.m_ 6,.jm 35],none,none,.st 3⟩] .ret)))
theorem afh:qu Tryz.prog QS 64=some (aaI,36,[.cell 6 (.str 3)]):=by qb
def On (x:qa) (qc:qk→Option (qk×(Int×Int))):Nat→Int→qk→Option (qk×(Int×Int))
 | 0,_,_=>none
 | m+1,s1,s2 =>
   if (decide ((w (s1+(1:Int)))<(x.length:Int)))=true then
    qs (0≤s1∧s1<(x.length:Int)) <|
    qs (0≤(w (s1+(1:Int)))∧(w (s1+(1:Int)))<(x.length:Int)) <|
    qs ((s2.length+1)*16≤140737488355328) <|
    On x qc m (w (s1+(2:Int))) (s2++[((ix x s1),(ix x (w (s1+(1:Int)))))])
   else
    qc s2
def Om (lo hi:Int) (x:qa):Option (qk×(Int×Int)) :=
 On x (fun yn =>
   some (yn,(lo,hi))) qi (0:Int) ([]:List (Int×Int))
theorem ai9 {x:qa} {qc:qk→Option (qk×(Int×Int))} {s1:Int} {s2:qk} {lo:Int} {hi:Int} {v:(qk×(Int×Int))} {Q:rS}   {Ky:hB} (ra:∀ (yn:qk) (qf:List I),qc yn=some v→rm 36 [(6,(.ptr 0 0)),(7,(.ptr 1 0))] qf→Q (.exit 0) qf [ar.cells [(.av [] 0 .full),(hX (0:Int)),(hX (0:Int))],ar.cells [(.av (yn.flatMap Js) yn.length .full),(hX lo),(hX hi)]]) (adC:∀ (yn:qk) (qf:List I),qc yn=some v→rm 36 [(6,(.ptr 0 0)),(7,(.ptr 1 0))] qf→Q (.exit 0) qf [ar.cells [(.av [] 0 .full),(hX (0:Int)),(hX (0:Int))],ar.cells [(.av (yn.flatMap Js) yn.length (.own 2)),(hX lo),(hX hi)]]) (RF:(Ky=hB.full∨Ky=(.own 2))) {T:List I} (bZ:eW (qd false [2,1,3,3,27]) T=qg 36 [(2,(qz x .shared)),(6,(.ptr 0 0)),(7,(.ptr 1 0)),(8,(hX s1))]) (h:On x qc qi s1 s2=some v) :
  dN Tryz.prog QS 64 0 none Qo T [ar.cells [(.av [] 0 .full),(hX (0:Int)),(hX (0:Int))],ar.cells [(.av (s2.flatMap Js) s2.length Ky),(hX lo),(hX hi)]] Q:=by
 unfold Qo;refine wp_loop bZ ?_;refine .intro (fun m T H=>∃ (s1:Int) (s2:qk) (Ky:hB),(Ky=hB.full∨Ky=(.own 2))∧T=qg 36 [(2,(qz x .shared)),(6,(.ptr 0 0)),(7,(.ptr 1 0)),(8,(hX s1))]∧H=[ar.cells [(.av [] 0 .full),(hX (0:Int)),(hX (0:Int))],ar.cells [(.av (s2.flatMap Js) s2.length Ky),(hX lo),(hX hi)]]∧On x qc m s1 s2=some v) qi ⟨s1,s2,_,RF,rfl,rfl,h⟩ ?_;clear h bZ;rintro m T H ⟨s1,s2,Ky,RF,rfl,rfl,h⟩;cases m
 ·exact rA h
 rename_i m;rw [On.eq_2] at h;rcases RF with rfl | rfl
 ·conv=>whnf
  refine bs h (fun gJ h=>?_) fun gJ h=>?_
  ·rw [gJ];(conv=>whnf);refine qE h id fun gK h=>?_;rw [rj hX x s1 gK];(conv=>whnf);refine qE h id fun qt h=>?_;rw [rj hX x (w (s1+(1:Int))) qt];(conv=>whnf);obtain ⟨qH,h⟩:=rW h;refine ⟨by first | rfl | (simp;done) | exact Iz Js _ QA _,by have:=qH;omega,by decide,qH,by first | rfl | (simp;done) | exact Iz Js _ QA _,?_⟩
   erw [UY Js s2 ((ix x s1),(ix x (w (s1+(1:Int)))))];(conv=>whnf);exact ⟨m,sg m,(w (s1+(2:Int))),(s2++[((ix x s1),(ix x (w (s1+(1:Int)))))]),_,(.inr rfl),rfl,rfl,h⟩
  ·rw [gJ];(conv=>whnf);exact ra _ _ h ⟨rfl,rfl⟩
 ·conv=>whnf
  refine bs h (fun gJ h=>?_) fun gJ h=>?_
  ·rw [gJ];(conv=>whnf);refine qE h id fun gK h=>?_;rw [rj hX x s1 gK];(conv=>whnf);refine qE h id fun qt h=>?_;rw [rj hX x (w (s1+(1:Int))) qt];(conv=>whnf);obtain ⟨qH,h⟩:=rW h;refine ⟨by first | rfl | (simp;done) | exact Iz Js _ QA _,by have:=qH;omega,rfl,qH,?_⟩
   erw [UY Js s2 ((ix x s1),(ix x (w (s1+(1:Int)))))];(conv=>whnf);exact ⟨m,sg m,(w (s1+(2:Int))),(s2++[((ix x s1),(ix x (w (s1+(1:Int)))))]),_,(.inr rfl),rfl,rfl,h⟩
  ·rw [gJ];(conv=>whnf);exact adC _ _ h ⟨rfl,rfl⟩
theorem TA {lo:Int} {hi:Int} {x:qa} {v:(qk×(Int×Int))} (h:Om lo hi x=some v):qw 64 [(hX lo),(hX hi),(.av (x.map hX) x.length .shared)] (.agg [(.av (v.1.flatMap p_) v.1.length .shared),(hX v.2.1),(hX v.2.2)]):=by
 refine qO eD afh rfl (H4 (p7 (HC (fun _=>(p7 rfl (p7 rfl rfl))) _ _ _) (p7 rfl (p7 rfl rfl)))) fun Q bo=>?_;have jG:qL [.cell 6 (.str 3)] Q (fun v=>(.agg [(qZ v.1 .shared),(hX v.2.1),(hX v.2.2)])) v:=fun T H bD=>bo _ T H bD;unfold Om at h;unfold aaI;obtain ⟨r_,qD⟩:∃ c,Qo=c:=⟨_,rfl⟩;rw [qD];conv=>whnf
 subst qD;refine ai9 ?_ ?_ (.inl rfl) (by exact rfl) h
 ·intro yn qf h qA;obtain ⟨rr,rfl⟩:=qA.ex;conv=>whnf
  exact qe h jG rfl rfl
 ·intro yn qf h qA;obtain ⟨rr,rfl⟩:=qA.ex;conv=>whnf
  exact qe h jG rfl rfl

noncomputable def aan:gB :=
 p5 [p3 0 [] (.alloc [.av [] 0 .full,.int .i64 0,.int .i64 0])] (p5 [p3 1 [.cv (.int .i64 10),.cv (.int .i64 1),.cv (.int .i64 5),.cv (.int .i64 0),.cv (.int .i64 10),.cv (.int .i64 1)] (.yB 6 1 [.int .i64 0] [0,1,2,3,4,5]),p3 2 [.cv (.func 64 [] []),.cv (.int .i64 0),.cv (.int .i64 4),.m_ 1] (.call 3),⟨none,[.m_ 0,.jm 2],none,none,.st 3⟩] .ret)
theorem aeX:qu Tryz.prog Um 33=some (aan,3,[.cell 0 (.str 3)]):=by qb
def PT  : Option (qk×(Int×Int)) :=
 (Om (0:Int) (4:Int) [(10:Int),(1:Int),(5:Int),(0:Int),(10:Int),(1:Int)]).bind fun aS =>
 some aS
theorem aiB  {v:(qk×(Int×Int))} (h:PT  = some v):qw 33 [] (.agg [(.av (v.1.flatMap p_) v.1.length .shared),(hX v.2.1),(hX v.2.2)]):=by
 refine qO eD aeX rfl (H4 (p7 (HC (fun _=>(p7 rfl (p7 rfl rfl))) _ _ _) (p7 rfl (p7 rfl rfl)))) fun Q bo=>?_;have jG:qL [.cell 0 (.str 3)] Q (fun v=>(.agg [(qZ v.1 .shared),(hX v.2.1),(hX v.2.2)])) v:=fun T H bD=>bo _ T H bD;unfold PT at h;unfold aan;conv=>whnf
 obtain ⟨aS,gJ,h⟩:=p' h;refine ⟨(p7 rfl (p7 rfl (p7 rfl rfl))),_,TA gJ,?_⟩;conv=>whnf
 exact qe h jG rfl rfl

noncomputable def aao:gB :=
 p5 [p3 0 [] (.alloc [.av [] 0 .full,.int .i64 0,.int .i64 0])] (p5 [p3 1 [.cv (.int .i64 3),.cv (.int .i64 0),.cv (.int .i64 5),.cv (.int .i64 0),.cv (.int .i64 8),.cv (.int .i64 0)] (.yB 6 1 [.int .i64 0] [0,1,2,3,4,5]),p3 2 [.cv (.func 64 [] []),.cv (.int .i64 0),.cv (.int .i64 0),.m_ 1] (.call 3),⟨none,[.m_ 0,.jm 2],none,none,.st 3⟩] .ret)
theorem aeY:qu Tryz.prog Un 34=some (aao,3,[.cell 0 (.str 3)]):=by qb
def PU  : Option (qk×(Int×Int)) :=
 (Om (0:Int) (0:Int) [(3:Int),(0:Int),(5:Int),(0:Int),(8:Int),(0:Int)]).bind fun aS =>
 some aS
theorem aiD  {v:(qk×(Int×Int))} (h:PU  = some v):qw 34 [] (.agg [(.av (v.1.flatMap p_) v.1.length .shared),(hX v.2.1),(hX v.2.2)]):=by
 refine qO eD aeY rfl (H4 (p7 (HC (fun _=>(p7 rfl (p7 rfl rfl))) _ _ _) (p7 rfl (p7 rfl rfl)))) fun Q bo=>?_;have jG:qL [.cell 0 (.str 3)] Q (fun v=>(.agg [(qZ v.1 .shared),(hX v.2.1),(hX v.2.2)])) v:=fun T H bD=>bo _ T H bD;unfold PU at h;unfold aao;conv=>whnf
 obtain ⟨aS,gJ,h⟩:=p' h;refine ⟨(p7 rfl (p7 rfl (p7 rfl rfl))),_,TA gJ,?_⟩;conv=>whnf
 exact qe h jG rfl rfl

noncomputable def aap:gB :=
 p5 [p3 0 [] (.alloc [.av [] 0 .full,.int .i64 0,.int .i64 0])] (p5 [p3 1 [.cv (.int .i64 4),.cv (.int .i64 0),.cv (.int .i64 6),.cv (.int .i64 0),.cv (.int .i64 1),.cv (.int .i64 0),.cv (.int .i64 6),.cv (.int .i64 0),.cv (.int .i64 4),.cv (.int .i64 0)] (.yB 10 1 [.int .i64 0] [0,1,2,3,4,5,6,7,8,9]),p3 2 [.cv (.func 64 [] []),.cv (.int .i64 0),.cv (.int .i64 9),.m_ 1] (.call 3),⟨none,[.m_ 0,.jm 2],none,none,.st 3⟩] .ret)
theorem aeZ:qu Tryz.prog Uo 35=some (aap,3,[.cell 0 (.str 3)]):=by qb
def PV  : Option (qk×(Int×Int)) :=
 (Om (0:Int) (9:Int) [(4:Int),(0:Int),(6:Int),(0:Int),(1:Int),(0:Int),(6:Int),(0:Int),(4:Int),(0:Int)]).bind fun aS =>
 some aS
theorem aiF  {v:(qk×(Int×Int))} (h:PV  = some v):qw 35 [] (.agg [(.av (v.1.flatMap p_) v.1.length .shared),(hX v.2.1),(hX v.2.2)]):=by
 refine qO eD aeZ rfl (H4 (p7 (HC (fun _=>(p7 rfl (p7 rfl rfl))) _ _ _) (p7 rfl (p7 rfl rfl)))) fun Q bo=>?_;have jG:qL [.cell 0 (.str 3)] Q (fun v=>(.agg [(qZ v.1 .shared),(hX v.2.1),(hX v.2.2)])) v:=fun T H bD=>bo _ T H bD;unfold PV at h;unfold aap;conv=>whnf
 obtain ⟨aS,gJ,h⟩:=p' h;refine ⟨(p7 rfl (p7 rfl (p7 rfl rfl))),_,TA gJ,?_⟩;conv=>whnf
 exact qe h jG rfl rfl

noncomputable def aaq:gB :=
 p5 [p3 2 [.cv (.av [] 0 .full)] (.nil 1)] (p5 [p4 3 0,p4 2 3] .ret)
theorem ae0:qu Tryz.prog Up 36=some (aaq,4,[.tmp 2]):=by qb
def IG (x:qa):Option qa :=
 some x
theorem Jo {x:qa} {v:qa} (h:IG x=some v):qw 36 [(.av (x.map hX) x.length .shared)] (.av (v.map hX) v.length .shared):=by
 refine qO eD ae0 rfl (rM (fun _=>rfl) _ _ _) fun Q bo=>?_;have jG:qL [.tmp 2] Q (fun v=>(qz v .shared)) v:=fun T H bD=>bo _ T H bD;unfold IG at h;unfold aaq;conv=>whnf
 exact qe h jG rfl rfl

noncomputable def aar:gB :=
 p5 [p3 2 [.cv (.av [] 0 .full)] (.nil 3)] (p5 [p4 3 0,p4 2 3] .ret)
theorem ae1:qu Tryz.prog Uq 37=some (aar,4,[.tmp 2]):=by qb
def MV (x:(List (Int×(Int×Int)))):Option (List (Int×(Int×Int))) :=
 some x
theorem Tp {x:(List (Int×(Int×Int)))} {v:(List (Int×(Int×Int)))} (h:MV x=some v):qw 37 [(.av (x.flatMap qy) x.length .shared)] (.av (v.flatMap qy) v.length .shared):=by
 refine qO eD ae1 rfl (HC (fun _=>(p7 rfl (p7 rfl (p7 rfl rfl)))) _ _ _) fun Q bo=>?_;have jG:qL [.tmp 2] Q (fun v=>(.av (v.flatMap qy) v.length .shared)) v:=fun T H bD=>bo _ T H bD;unfold MV at h;unfold aar;conv=>whnf
 exact qe h jG rfl rfl

noncomputable def aas:gB :=
 p5 [p3 6 [] (.alloc [.int .i64 0,.int .i64 0,.int .i64 0])] (p5 [p4 7 0,p4 8 1,p4 9 2,p3 10 [.Bs 8,.Bs 9] (.build [.int .i64 0,.int .i64 0] [(0,1),(1,1)]),p3 11 [.Bs 7,.Bs 10] (.build [.int .i64 0,.int .i64 0,.int .i64 0] [(0,1),(1,2)]),⟨none,[.m_ 6,.jm 11],none,none,.st 3⟩] .ret)
theorem ae2:qu Tryz.prog Ur 38=some (aas,12,[.cell 6 (.str 3)]):=by qb
def MW (PC pull more:Int):Option (Int×(Int×Int)) :=
 some (PC,(pull,more))
theorem Tq {PC:Int} {pull:Int} {more:Int} {v:(Int×(Int×Int))} (h:MW PC pull more=some v):qw 38 [(hX PC),(hX pull),(hX more)] (.agg [(hX v.1),(hX v.2.1),(hX v.2.2)]):=by
 refine qO eD ae2 rfl (H4 (p7 rfl (p7 rfl (p7 rfl rfl)))) fun Q bo=>?_;have jG:qL [.cell 6 (.str 3)] Q (fun v=>(.agg [(hX v.1),(hX v.2.1),(hX v.2.2)])) v:=fun T H bD=>bo _ T H bD;unfold MW at h;unfold aas;conv=>whnf
 exact qe h jG rfl rfl
end Go.Proofs.YtkoioidpbbbaiaaGreat.Ab


namespace Go.Proofs.YtkoioidpbbbaiaaGreat.Ab
open Go
set_option maxRecDepth 100000
set_option maxHeartbeats 4000000
noncomputable def Z':gB :=
 p5 [p3 0 [.cv (.bool false)] .mR] (p5 [p3 34 [.cv (.func 33 [] [])] (.call 3),p3 35 [.cv (.func 34 [] [])] (.call 3),p3 36 [.cv (.func 35 [] [])] (.call 3),p3 1 [] (.alloc [.av [] 0 .full,.int .i64 0,.int .i64 0]),p3 2 [] (.alloc [.av [] 0 .full,.int .i64 0,.int .i64 0]),p3 3 [] (.alloc [.av [] 0 .full,.int .i64 0,.int .i64 0]),⟨none,[.m_ 1,.jm 34],none,none,.st 3⟩,⟨none,[.m_ 2,.jm 35],none,none,.st 3⟩,⟨none,[.m_ 3,.jm 36],none,none,.st 3⟩] (.seq (ri [p3 38 [.m_ 3] (.zE (.str 3)),p3 39 [.cv (.int .i64 1),.cv (.int .i64 0),.cv (.int .i64 2),.cv (.int .i64 3),.cv (.int .i64 4)] (.yB 5 1 [.int .i64 0] [0,1,2,3,4]),p3 40 [.cv (.func 36 [] []),.m_ 39] (.call 3),p3 41 [.cv (.func 30 [] []),.m_ 38,.m_ 40,.cv (.int .i64 0)] (.call 3),p4 37 41,qR 42 37 0,qR 43 37 1,qR 44 37 2,p4 4 42,p4 5 43,p4 6 44]) (.seq (ri [p3 46 [.m_ 1] (.zE (.str 3)),p3 47 [.cv (.int .i64 1),.cv (.int .i64 0),.cv (.int .i64 2)] (.yB 3 1 [.int .i64 0] [0,1,2]),p3 48 [.cv (.func 36 [] []),.m_ 47] (.call 3),p3 49 [.cv (.func 30 [] []),.m_ 46,.m_ 48,.cv (.int .i64 5)] (.call 3),p4 45 49,qR 50 45 0,qR 51 45 1,qR 52 45 2,p4 7 50,p4 8 51,p4 9 52]) (.seq (ri [p3 54 [.m_ 1] (.zE (.str 3)),p3 55 [.cv (.int .i64 1),.cv (.int .i64 0),.cv (.int .i64 2)] (.yB 3 1 [.int .i64 0] [0,1,2]),p3 56 [.cv (.func 36 [] []),.m_ 55] (.call 3),p3 57 [.cv (.func 29 [] []),.m_ 54,.m_ 56] (.call 3),p4 53 57,qR 58 53 0,qR 59 53 1,p4 10 58,p4 11 59]) (.seq (ri [p3 61 [.Bs 1] (.zE (.str 3)),p3 62 [.cv (.int .i64 0),.cv (.int .i64 1),.cv (.int .i64 1)] (.yB 3 1 [.int .i64 0] [0,1,2]),p3 63 [.cv (.func 36 [] []),.m_ 62] (.call 3),p3 64 [.cv (.func 29 [] []),.m_ 61,.m_ 63] (.call 3),p4 60 64,qR 65 60 0,qR 66 60 1,p4 12 65,p4 13 66]) (p5 [p3 68 [.m_ 2] (.zE (.str 3)),p3 69 [.cv (.func 12 [] []),.m_ 68] (.call 3),p4 67 69,qR 70 67 0,p3 71 [.Bs 67] (.ext 1),p4 14 70,p4 15 71] (p5 [p3 73 [.m_ 2] (.zE (.str 3)),p3 74 [.cv (.func 14 [] []),.m_ 73] (.call 3),p4 72 74,qR 75 72 0,p3 76 [.Bs 72] (.ext 1),p4 16 75,p4 17 76] (p5 [p3 78 [.m_ 3] (.zE (.str 3)),p3 79 [.cv (.func 16 [] []),.m_ 78] (.call 3),p4 77 79,qR 80 77 0,p3 81 [.Bs 77] (.ext 1),p4 18 80,p4 19 81] (.seq (ri [p3 83 [.m_ 2] (.zE (.str 3)),p3 84 [.cv (.int .i64 0),.cv (.int .i64 2),.cv (.int .i64 1)] (.yB 3 1 [.int .i64 0] [0,1,2]),p3 85 [.cv (.func 36 [] []),.m_ 84] (.call 3),p3 86 [.cv (.func 38 [] []),.cv (.int .i64 0),.cv (.int .i64 5),.cv (.int .i64 0)] (.call 3),p3 87 [.Bs 86] (.yB 1 3 [.int .i64 0,.int .i64 0,.int .i64 0] [0]),p3 88 [.cv (.func 37 [] []),.m_ 87] (.call 3),p3 89 [.cv (.func 19 [] []),.m_ 83,.m_ 85,.m_ 88] (.call 3),p4 82 89,qR 90 82 0,qR 91 82 1,p4 20 90,p4 21 91]) (.seq (ri [p3 93 [.m_ 2] (.zE (.str 3)),p3 94 [.cv (.int .i64 0),.cv (.int .i64 2),.cv (.int .i64 1)] (.yB 3 1 [.int .i64 0] [0,1,2]),p3 95 [.cv (.func 36 [] []),.m_ 94] (.call 3),p3 96 [.cv (.func 38 [] []),.cv (.int .i64 2),.cv (.int .i64 1),.cv (.int .i64 0)] (.call 3),p3 97 [.Bs 96] (.yB 1 3 [.int .i64 0,.int .i64 0,.int .i64 0] [0]),p3 98 [.cv (.func 37 [] []),.m_ 97] (.call 3),p3 99 [.cv (.func 19 [] []),.m_ 93,.m_ 95,.m_ 98] (.call 3),p4 92 99,qR 100 92 0,qR 101 92 1,p4 22 100,p4 23 101]) (.seq (ri [p3 103 [.m_ 2] (.zE (.str 3)),p3 104 [.cv (.int .i64 0),.cv (.int .i64 2),.cv (.int .i64 1)] (.yB 3 1 [.int .i64 0] [0,1,2]),p3 105 [.cv (.func 36 [] []),.m_ 104] (.call 3),p3 106 [.cv (.func 38 [] []),.cv (.int .i64 0),.cv (.int .i64 101),.cv (.int .i64 0)] (.call 3),p3 107 [.Bs 106] (.yB 1 3 [.int .i64 0,.int .i64 0,.int .i64 0] [0]),p3 108 [.cv (.func 37 [] []),.m_ 107] (.call 3),p3 109 [.cv (.func 19 [] []),.m_ 103,.m_ 105,.m_ 108] (.call 3),p4 102 109,qR 110 102 0,qR 111 102 1,p4 24 110,p4 25 111]) (.seq (ri [p3 113 [.Bs 3] (.zE (.str 3)),p3 114 [.cv (.int .i64 1),.cv (.int .i64 0),.cv (.int .i64 2),.cv (.int .i64 3),.cv (.int .i64 4)] (.yB 5 1 [.int .i64 0] [0,1,2,3,4]),p3 115 [.cv (.func 36 [] []),.m_ 114] (.call 3),p3 116 [.cv (.func 21 [] []),.m_ 113,.m_ 115] (.call 3),p4 112 116,qR 117 112 0,qR 118 112 1,p4 26 117,p4 27 118]) (.seq (ri [p3 120 [.m_ 2] (.zE (.str 3)),p3 121 [.cv (.int .i64 0),.cv (.int .i64 2),.cv (.int .i64 1)] (.yB 3 1 [.int .i64 0] [0,1,2]),p3 122 [.cv (.func 36 [] []),.m_ 121] (.call 3),p3 123 [.cv (.func 23 [] []),.m_ 120,.m_ 122] (.call 3),p4 119 123,qR 124 119 0,qR 125 119 1,p4 28 124,p4 29 125]) (p5 [p3 127 [.m_ 2] (.zE (.str 3)),p3 128 [.cv (.func 24 [] []),.m_ 127] (.call 3),p4 126 128,qR 129 126 0,p3 130 [.Bs 126] (.ext 1),p4 30 129,p4 31 130] (.seq (p5 [p4 131 6,qv 132 131 0 .neq,p4 133 132,ch 134 [.jm 9] 133 false .mR,ch 135 [.Bs 134,.cv (.int .i64 3)] 133 false (.bin .neq),p3 136 [.Bs 133,.cv (.bool true),.Bs 135] .pick,p4 137 136,ch 138 [.jm 11] 137 false .mR,ch 139 [.Bs 138,.cv (.int .i64 0)] 137 false (.bin .neq),p3 140 [.Bs 137,.cv (.bool true),.Bs 139] .pick,p4 141 140,ch 142 [.jm 13] 141 false .mR,ch 143 [.Bs 142,.cv (.int .i64 16)] 141 false (.bin .neq),p3 144 [.Bs 141,.cv (.bool true),.Bs 143] .pick,p4 145 144,ch 146 [.jm 15] 145 false .mR,ch 147 [.Bs 146,.cv (.int .i64 0)] 145 false (.bin .neq),p3 148 [.Bs 145,.cv (.bool true),.Bs 147] .pick,p4 149 148,ch 150 [.jm 17] 149 false .mR,ch 151 [.Bs 150,.cv (.int .i64 0)] 149 false (.bin .neq),p3 152 [.Bs 149,.cv (.bool true),.Bs 151] .pick,p4 153 152,ch 154 [.jm 19] 153 false .mR,ch 155 [.Bs 154,.cv (.int .i64 0)] 153 false (.bin .neq),p3 156 [.Bs 153,.cv (.bool true),.Bs 155] .pick,p4 157 156,ch 158 [.jm 21] 157 false .mR,ch 159 [.Bs 158,.cv (.int .i64 0)] 157 false (.bin .neq),p3 160 [.Bs 157,.cv (.bool true),.Bs 159] .pick,p4 161 160,ch 162 [.jm 23] 161 false .mR,ch 163 [.Bs 162,.cv (.int .i64 23)] 161 false (.bin .neq),p3 164 [.Bs 161,.cv (.bool true),.Bs 163] .pick,p4 165 164,ch 166 [.jm 25] 165 false .mR,ch 167 [.Bs 166,.cv (.int .i64 3)] 165 false (.bin .neq),p3 168 [.Bs 165,.cv (.bool true),.Bs 167] .pick,p4 169 168,ch 170 [.jm 27] 169 false .mR,ch 171 [.Bs 170,.cv (.int .i64 0)] 169 false (.bin .neq),p3 172 [.Bs 169,.cv (.bool true),.Bs 171] .pick,p4 173 172,ch 174 [.jm 29] 173 false .mR,ch 175 [.Bs 174,.cv (.int .i64 0)] 173 false (.bin .neq),p3 176 [.Bs 173,.cv (.bool true),.Bs 175] .pick,p4 177 176,ch 178 [.jm 31] 177 false .mR,ch 179 [.Bs 178,.cv (.int .i64 0)] 177 false (.bin .neq),p3 180 [.Bs 177,.cv (.bool true),.Bs 179] .pick] (.cond (.m_ 180) (p5 [p3 0 [.cv (.bool false)] .mR] .ret) .skip)) (.seq (ri [p3 182 [.Bs 2] (.zE (.str 3)),p3 183 [.cv (.int .i64 0),.cv (.int .i64 2),.cv (.int .i64 1)] (.yB 3 1 [.int .i64 0] [0,1,2]),p3 184 [.cv (.func 36 [] []),.m_ 183] (.call 3),p4 185 28,p3 186 [.cv (.func 20 [] []),.m_ 182,.m_ 184,.m_ 185] (.call 3),p4 181 186,qR 187 181 0,qR 188 181 1,p4 32 187,p4 33 188]) (p5 [p4 189 4,qv 190 189 (-4) .eql,p4 191 190,ch 192 [.jm 5] 191 true .mR,ch 193 [.Bs 192,.cv (.int .i64 2)] 191 true (.bin .eql),p3 194 [.Bs 191,.Bs 193,.cv (.bool false)] .pick,p4 195 194,ch 196 [.jm 10] 195 true .mR,ch 197 [.Bs 196,.cv (.int .i64 9)] 195 true (.bin .eql),p3 198 [.Bs 195,.Bs 197,.cv (.bool false)] .pick,p4 199 198,ch 200 [.jm 14] 199 true .mR,ch 201 [.Bs 200,.cv (.int .i64 2)] 199 true (.bin .eql),p3 202 [.Bs 199,.Bs 201,.cv (.bool false)] .pick,p4 203 202,ch 204 [.jm 16] 203 true .mR,⟨some 205,[.cv (.int .i64 0),.cv (.int .i64 2),.cv (.int .i64 1)],some (203,true),none,.yB 3 1 [.int .i64 0] [0,1,2]⟩,⟨some 206,[.cv (.func 36 [] []),.m_ 205],some (203,true),none,.call 3⟩,⟨some 207,[.cv (.func 18 [] []),.m_ 204,.m_ 206],some (203,true),none,.call 3⟩,p3 208 [.Bs 203,.Bs 207,.cv (.bool false)] .pick,p4 209 208,ch 210 [.jm 18] 209 true .mR,ch 211 [.Bs 210,.cv (.int .i64 8)] 209 true (.bin .eql),p3 212 [.Bs 209,.Bs 211,.cv (.bool false)] .pick,p4 213 212,ch 214 [.jm 20] 213 true .mR,ch 215 [.Bs 214,.cv (.int .i64 1)] 213 true (.bin .eql),p3 216 [.Bs 213,.Bs 215,.cv (.bool false)] .pick,p4 217 216,ch 218 [.jm 26] 217 true .mR,ch 219 [.Bs 218,.cv (.int .i64 2)] 217 true (.bin .eql),p3 220 [.Bs 217,.Bs 219,.cv (.bool false)] .pick,p4 221 220,ch 222 [.jm 33] 221 true .mR,ch 223 [.Bs 222,.cv (.int .i64 0)] 221 true (.bin .eql),p3 224 [.Bs 221,.Bs 223,.cv (.bool false)] .pick,p4 225 224,ch 226 [.jm 32] 225 true .mR,ch 227 [.Bs 226,.cv (.int .i64 1)] 225 true (.bin .eql),p3 228 [.Bs 225,.Bs 227,.cv (.bool false)] .pick,p4 229 228,ch 230 [.jm 30] 229 true .mR,⟨some 231,[.cv (.int .i64 0),.cv (.int .i64 1),.cv (.int .i64 2)],some (229,true),none,.yB 3 1 [.int .i64 0] [0,1,2]⟩,⟨some 232,[.cv (.func 36 [] []),.m_ 231],some (229,true),none,.call 3⟩,⟨some 233,[.cv (.func 18 [] []),.m_ 230,.m_ 232],some (229,true),none,.call 3⟩,p3 234 [.Bs 229,.Bs 233,.cv (.bool false)] .pick,p4 0 234] .ret)))))))))))))))))
theorem aeJ:qu Tryz.prog T' 11=some (Z',235,[.tmp 0]):=by qb
def Ja  : Option Bool :=
 (PT).bind fun aS =>
 (PU).bind fun bh =>
 (PV).bind fun eH =>
 (IG [(1:Int),(0:Int),(2:Int),(3:Int),(4:Int)]).bind fun qQ =>
 (KS eH qQ (0:Int)).bind fun q4 =>
 (IG [(1:Int),(0:Int),(2:Int)]).bind fun rQ =>
 (KS aS rQ (5:Int)).bind fun H5 =>
 (IG [(1:Int),(0:Int),(2:Int)]).bind fun HD =>
 (Kk aS HD).bind fun Ig =>
 (IG [(0:Int),(1:Int),(1:Int)]).bind fun It =>
 (Kk aS It).bind fun MC =>
 (LG bh).bind fun MD =>
 (KN bh).bind fun Sa =>
 (LH eH).bind fun Sb =>
 (IG [(0:Int),(2:Int),(1:Int)]).bind fun Xr =>
 (MW (0:Int) (5:Int) (0:Int)).bind fun Xs =>
 (MV [Xs]).bind fun Xt =>
 (JL bh Xr Xt).bind fun Sc =>
 (IG [(0:Int),(2:Int),(1:Int)]).bind fun Xu =>
 (MW (2:Int) (1:Int) (0:Int)).bind fun Xv =>
 (MV [Xv]).bind fun Xw =>
 (JL bh Xu Xw).bind fun Xx =>
 (IG [(0:Int),(2:Int),(1:Int)]).bind fun Xy =>
 (MW (0:Int) (101:Int) (0:Int)).bind fun Xz =>
 (MV [Xz]).bind fun XA =>
 (JL bh Xy XA).bind fun XB =>
 (IG [(1:Int),(0:Int),(2:Int),(3:Int),(4:Int)]).bind fun XC =>
 (LJ eH XC).bind fun Sd =>
 (IG [(0:Int),(2:Int),(1:Int)]).bind fun XD =>
 (KR bh XD).bind fun Se =>
 (LK bh).bind fun Sf =>
 if (decide (q4.2.2≠(0:Int)))=true then
  some false
 else
  if (decide (H5.2.2≠(3:Int)))=true then
   some false
  else
   if (decide (Ig.2≠(0:Int)))=true then
    some false
   else
    if (decide (MC.2≠(16:Int)))=true then
     some false
    else
     if (decide (MD.2≠(0:Int)))=true then
      some false
     else
      if (decide (Sa.2≠(0:Int)))=true then
       some false
      else
       if (decide (Sb.2≠(0:Int)))=true then
        some false
       else
        if (decide (Sc.2≠(0:Int)))=true then
         some false
        else
         if (decide (Xx.2≠(23:Int)))=true then
          some false
         else
          if (decide (XB.2≠(3:Int)))=true then
           some false
          else
           if (decide (Sd.2≠(0:Int)))=true then
            some false
           else
            if (decide (Se.2≠(0:Int)))=true then
             some false
            else
             if (decide (Sf.2≠(0:Int)))=true then
              some false
             else
              (IG [(0:Int),(2:Int),(1:Int)]).bind fun XE =>
              (KQ bh XE Se.1).bind fun Sg =>
              if (decide (q4.1=(-4:Int)))=true then
               if (decide (q4.2.1=(2:Int)))=true then
                if (decide (Ig.1=(9:Int)))=true then
                 if (decide (MD.1=(2:Int)))=true then
                  (IG [(0:Int),(2:Int),(1:Int)]).bind fun XF =>
                  (Jn Sa.1 XF).bind fun Sh =>
                  if Sh=true then
                   if (decide (Sb.1=(8:Int)))=true then
                    if (decide (Sc.1=(1:Int)))=true then
                     if (decide (Sd.1=(2:Int)))=true then
                      if (decide (Sg.2=(0:Int)))=true then
                       if (decide (Sg.1=(1:Int)))=true then
                        (IG [(0:Int),(1:Int),(2:Int)]).bind fun XG =>
                        (Jn Sf.1 XG).bind fun XH =>
                        some XH
                       else
                        some false
                      else
                       some false
                     else
                      some false
                    else
                     some false
                   else
                    some false
                  else
                   some false
                 else
                  some false
                else
                 some false
               else
                some false
              else
               some false
theorem Kg  {v:Bool} (h:Ja  = some v):qw 11 [] (B v):=by
 refine qO eD aeJ rfl rfl fun Q bo=>?_;have jG:qL [.tmp 0] Q (fun v=>(B v)) v:=fun T H bD=>bo _ T H bD;unfold Ja at h;unfold Z';conv=>whnf
 obtain ⟨aS,gJ,h⟩:=p' h;refine ⟨rfl,_,aiB gJ,?_⟩;conv=>whnf
 obtain ⟨bh,gK,h⟩:=p' h;refine ⟨rfl,_,aiD gK,?_⟩;conv=>whnf
 obtain ⟨eH,qt,h⟩:=p' h;refine ⟨rfl,_,aiF qt,?_⟩;conv=>whnf
 obtain ⟨qQ,qH,h⟩:=p' h;refine ⟨(p7 rfl rfl),_,Jo qH,rC,?_⟩;conv=>whnf
 obtain ⟨q4,qX,h⟩:=p' h;refine ⟨qj.pl,_,ZF qX,Io rfl,?_⟩;conv=>whnf
 obtain ⟨rQ,q9,h⟩:=p' h;refine ⟨(p7 rfl rfl),_,Jo q9,rC,?_⟩;conv=>whnf
 obtain ⟨H5,qS,h⟩:=p' h;refine ⟨qj.pl,_,ZF qS,Io rfl,?_⟩;conv=>whnf
 obtain ⟨HD,re,h⟩:=p' h;refine ⟨(p7 rfl rfl),_,Jo re,rC,?_⟩;conv=>whnf
 obtain ⟨Ig,q_,h⟩:=p' h;refine ⟨qj.pl,_,Tl q_,Io rfl,?_⟩;conv=>whnf
 obtain ⟨It,ry,h⟩:=p' h;refine ⟨(p7 rfl rfl),_,Jo ry,rC,?_⟩;conv=>whnf
 obtain ⟨MC,Hj,h⟩:=p' h;refine ⟨qj.pl,_,Tl Hj,Io rfl,?_⟩;conv=>whnf
 obtain ⟨MD,Hq,h⟩:=p' h;refine ⟨qj.pl,_,Zw Hq,?_⟩;conv=>whnf
 obtain ⟨Sa,Hw,h⟩:=p' h;refine ⟨qj.pl,_,Tf Hw,?_⟩;conv=>whnf
 obtain ⟨Sb,H0,h⟩:=p' h;refine ⟨qj.pl,_,ZA H0,?_⟩;conv=>whnf
 obtain ⟨Xr,HI,h⟩:=p' h;refine ⟨(p7 rfl rfl),_,Jo HI,rC,?_⟩;conv=>whnf
 obtain ⟨Xs,Jh,h⟩:=p' h;refine ⟨(p7 rfl (p7 rfl (p7 rfl rfl))),_,Tq Jh,Io rfl,?_⟩;conv=>whnf
 obtain ⟨Xt,Iq,h⟩:=p' h;refine ⟨(p7 rfl rfl),_,Tp Iq,Io rfl,?_⟩;conv=>whnf
 obtain ⟨Sc,Ji,h⟩:=p' h;refine ⟨qj.pl,_,PS Ji,Io rfl,?_⟩;conv=>whnf
 obtain ⟨Xu,IB,h⟩:=p' h;refine ⟨(p7 rfl rfl),_,Jo IB,rC,?_⟩;conv=>whnf
 obtain ⟨Xv,OX,h⟩:=p' h;refine ⟨(p7 rfl (p7 rfl (p7 rfl rfl))),_,Tq OX,Io rfl,?_⟩;conv=>whnf
 obtain ⟨Xw,Nu,h⟩:=p' h;refine ⟨(p7 rfl rfl),_,Tp Nu,Io rfl,?_⟩;conv=>whnf
 obtain ⟨Xx,Le,h⟩:=p' h;refine ⟨qj.pl,_,PS Le,Io rfl,?_⟩;conv=>whnf
 obtain ⟨Xy,Mg,h⟩:=p' h;refine ⟨(p7 rfl rfl),_,Jo Mg,rC,?_⟩;conv=>whnf
 obtain ⟨Xz,OY,h⟩:=p' h;refine ⟨(p7 rfl (p7 rfl (p7 rfl rfl))),_,Tq OY,Io rfl,?_⟩;conv=>whnf
 obtain ⟨XA,Nv,h⟩:=p' h;refine ⟨(p7 rfl rfl),_,Tp Nv,Io rfl,?_⟩;conv=>whnf
 obtain ⟨XB,VR,h⟩:=p' h;refine ⟨qj.pl,_,PS VR,Io rfl,?_⟩;conv=>whnf
 obtain ⟨XC,Ro,h⟩:=p' h;refine ⟨(p7 rfl rfl),_,Jo Ro,rC,?_⟩;conv=>whnf
 obtain ⟨Sd,Rp,h⟩:=p' h;refine ⟨qj.pl,_,ZB Rp,Io rfl,?_⟩;conv=>whnf
 obtain ⟨XD,VS,h⟩:=p' h;refine ⟨(p7 rfl rfl),_,Jo VS,rC,?_⟩;conv=>whnf
 obtain ⟨Se,VT,h⟩:=p' h;refine ⟨qj.pl,_,Tj VT,Io rfl,?_⟩;conv=>whnf
 obtain ⟨Sf,Nw,h⟩:=p' h;refine ⟨qj.pl,_,ZD Nw,?_⟩;conv=>whnf
 refine bs h (fun OZ h=>?_) fun OZ h=>?_
 ·rw [OZ];conv=>whnf
  exact qe h jG rfl rfl
 ·rw [OZ];conv=>whnf
  refine bs h (fun Nx h=>?_) fun Nx h=>?_
  ·rw [Nx];(conv=>whnf);exact qe h jG rfl rfl
  ·rw [Nx];(conv=>whnf);refine bs h (fun Ny h=>?_) fun Ny h=>?_
   ·rw [Ny];(conv=>whnf);exact qe h jG rfl rfl
   ·rw [Ny];(conv=>whnf);refine bs h (fun O0 h=>?_) fun O0 h=>?_
    ·rw [O0];(conv=>whnf);exact qe h jG rfl rfl
    ·rw [O0];(conv=>whnf);refine bs h (fun Nz h=>?_) fun Nz h=>?_
     ·rw [Nz];(conv=>whnf);exact qe h jG rfl rfl
     ·rw [Nz];(conv=>whnf);refine bs h (fun Lf h=>?_) fun Lf h=>?_
      ·rw [Lf];(conv=>whnf);exact qe h jG rfl rfl
      ·rw [Lf];(conv=>whnf);refine bs h (fun O1 h=>?_) fun O1 h=>?_
       ·rw [O1];(conv=>whnf);exact qe h jG rfl rfl
       ·rw [O1];(conv=>whnf);refine bs h (fun Lg h=>?_) fun Lg h=>?_
        ·rw [Lg];(conv=>whnf);exact qe h jG rfl rfl
        ·rw [Lg];(conv=>whnf);refine bs h (fun Mh h=>?_) fun Mh h=>?_
         ·rw [Mh];(conv=>whnf);exact qe h jG rfl rfl
         ·rw [Mh];(conv=>whnf);refine bs h (fun Rq h=>?_) fun Rq h=>?_
          ·rw [Rq];(conv=>whnf);exact qe h jG rfl rfl
          ·rw [Rq];(conv=>whnf);refine bs h (fun Rr h=>?_) fun Rr h=>?_
           ·rw [Rr];(conv=>whnf);exact qe h jG rfl rfl
           ·rw [Rr];(conv=>whnf);refine bs h (fun Rs h=>?_) fun Rs h=>?_
            ·rw [Rs];(conv=>whnf);exact qe h jG rfl rfl
            ·rw [Rs];(conv=>whnf);refine bs h (fun Rt h=>?_) fun Rt h=>?_
             ·rw [Rt];(conv=>whnf);exact qe h jG rfl rfl
             ·rw [Rt];(conv=>whnf);obtain ⟨XE,adg,h⟩:=p' h;refine ⟨(p7 rfl rfl),_,Jo adg,rC,?_⟩;(conv=>whnf);obtain ⟨Sg,adh,h⟩:=p' h;refine ⟨qj.pl,_,Th adh,Io rfl,?_⟩;(conv=>whnf);refine bs h (fun Ru h=>?_) fun Ru h=>?_
              ·rw [Ru];(conv=>whnf);refine bs h (fun Rv h=>?_) fun Rv h=>?_
               ·rw [Rv];(conv=>whnf);refine bs h (fun Rw h=>?_) fun Rw h=>?_
                ·rw [Rw];(conv=>whnf);refine bs h (fun Rx h=>?_) fun Rx h=>?_
                 ·rw [Rx];(conv=>whnf);obtain ⟨XF,adi,h⟩:=p' h;refine ⟨(p7 rfl rfl),_,Jo adi,?_⟩;(conv=>whnf);obtain ⟨Sh,adj,h⟩:=p' h;refine ⟨qj.pl,_,PO adj,?_⟩;(conv=>whnf);cases Sh
                  ·(conv=>whnf);replace h:=rq rfl h;exact qe h jG rfl rfl
                  ·(conv=>whnf);replace h:=rp rfl h;refine bs h (fun Ry h=>?_) fun Ry h=>?_
                   ·rw [Ry];(conv=>whnf);refine bs h (fun Rz h=>?_) fun Rz h=>?_
                    ·rw [Rz];(conv=>whnf);refine bs h (fun RA h=>?_) fun RA h=>?_
                     ·rw [RA];(conv=>whnf);refine bs h (fun RB h=>?_) fun RB h=>?_
                      ·rw [RB];(conv=>whnf);refine bs h (fun RC h=>?_) fun RC h=>?_
                       ·rw [RC];(conv=>whnf);obtain ⟨XG,adk,h⟩:=p' h;refine ⟨(p7 rfl rfl),_,Jo adk,?_⟩;(conv=>whnf);obtain ⟨XH,adl,h⟩:=p' h;refine ⟨qj.pl,_,PO adl,?_⟩;(conv=>whnf);exact qe h jG rfl rfl
                       ·rw [RC];(conv=>whnf);exact qe h jG rfl rfl
                      ·rw [RB];(conv=>whnf);exact qe h jG rfl rfl
                     ·rw [RA];(conv=>whnf);exact qe h jG rfl rfl
                    ·rw [Rz];(conv=>whnf);exact qe h jG rfl rfl
                   ·rw [Ry];(conv=>whnf);exact qe h jG rfl rfl
                 ·rw [Rx];(conv=>whnf);exact qe h jG rfl rfl
                ·rw [Rw];(conv=>whnf);exact qe h jG rfl rfl
               ·rw [Rv];(conv=>whnf);exact qe h jG rfl rfl
              ·rw [Ru];(conv=>whnf);exact qe h jG rfl rfl
end Go.Proofs.YtkoioidpbbbaiaaGreat.Ab


namespace Go.Proofs.YtkoioidpbbbaiaaGreat.Ab
open Go
set_option maxRecDepth 20000
set_option maxHeartbeats 1000000
def Pd:qn:=([(10,1),(5,0),(10,1)],(0,4))
def HW:qn:=([(3,0),(5,0),(8,0)],(0,0))
def Mq:qn:=([(4,0),(6,0),(1,0),(6,0),(4,0)],(0,9))
theorem aiA:PT=some Pd:=by decide +kernel
theorem aiC:PU=some HW:=by decide +kernel
theorem aiE:PV=some Mq:=by decide +kernel
theorem aia:KS Mq [1,0,2,3,4] 0=some (-4,2,0):=by
 rw [ZE (by decide) (by decide)];decide +kernel
theorem aib:KS Pd [1,0,2] 5=some (0,0,3):=by
 rw [ZE (by decide) (by decide)];decide +kernel
theorem ah9:Kk Pd [1,0,2]=some (9,0):=by
 rw [Tk (by decide) (by decide)];decide +kernel
theorem ah_:Kk Pd [0,1,1]=some (0,16):=by
 rw [Tk (by decide) (by decide)];decide +kernel
theorem ahY:LG HW=some (2,0):=by
 rw [Zv (by decide)];decide +kernel
theorem ahZ:KN HW=some ([0,2,1],0):=by
 rw [Te (by decide)];decide +kernel
theorem ah0:LH Mq=some (8,0):=by
 rw [Zz (by decide)];decide +kernel
theorem ah3:JL HW [0,2,1] [(0,(5,0))]=some (1,0):=by
 rw [PR (by decide) (by decide) (by decide)];decide +kernel
theorem ah4:JL HW [0,2,1] [(2,(1,0))]=some (0,23):=by
 rw [PR (by decide) (by decide) (by decide)];decide +kernel
theorem ah5:JL HW [0,2,1] [(0,(101,0))]=some (0,3):=by
 rw [PR (by decide) (by decide) (by decide)];decide +kernel
theorem Rd {p:qn} {o:List Int} {a i t:Nat} (ab:¬ r8 p o a) (ae:i<o.length) (aF:i % 2=a) (ba:t<2121) (bO:I1 p o a i (Jl t)):HZ p o a=1:=by
 unfold HZ;rw [if_neg ab,if_pos ⟨i,ae,aF,t,ba,bO⟩]
theorem acL {p:qn} {o:List Int} {a:Nat} (ab:r8 p o a):HZ p o a=0:=by
 unfold HZ;rw [if_pos ab]
theorem ah6:LJ Mq [1,0,2,3,4]=some (2,0):=by
 unfold LJ;obtain ⟨l,ab,ae⟩:=Ti (p:=Mq) (o:=[1,0,2,3,4]) (by decide) (by decide);have r7:rV Mq [1,0,2,3,4]=0:=by decide +kernel
 rw [if_pos r7] at ab;rw [ab,sc,(ae r7).1];rw [Rd (i:=0) (t:=1014) (by decide +kernel) (by decide) (by decide) (by decide) (by decide +kernel),Rd (i:=1) (t:=1016) (by decide +kernel) (by decide) (by decide) (by decide) (by decide +kernel)];rfl
theorem ah7:∃ l,KR HW [0,2,1]=some (l,0)∧KQ HW [0,2,1] l=some (1,0):=by
 obtain ⟨l,ab,ae⟩:=Ti (p:=HW) (o:=[0,2,1]) (by decide) (by decide);have r7:rV HW [0,2,1]=0:=by decide +kernel
 rw [if_pos r7] at ab;obtain ⟨aF,ba,bO⟩:=ae r7;have ao:l.length=1:=by
  rw [aF,Rd (i:=0) (t:=1015) (by decide +kernel) (by decide) (by decide) (by decide) (by decide +kernel),acL (by decide +kernel)]
 refine ⟨l,ab,?_⟩;rw [Tg (by decide) (by decide) (by omega),if_pos r7,if_pos ba,if_neg (by omega),ao];rfl
theorem ah8:LK HW=some ([0,1,2],0):=by
 have af:∀ (s t:Nat) (o:List Int),qB 3 o→s=(ix o 0).toNat→t<2121→I1 HW o 0 0 (Jl t)→r8 HW o 1→o.length=3→HT HW s=true:=fun s t o ab ae aF ba bO bP =>
  U2.2 ⟨o,ab,0,by omega,ae,by
   unfold C9;rw [su,decide_eq_true_eq,decide_eq_true_eq]
   exact ⟨bO,t,aF,ba⟩⟩
 have db:HT HW 0=true:=af 0 1018 [0,1,2] (by decide) (by decide) (by decide) (by decide +kernel) (by decide +kernel) rfl;have bl:HT HW 1=true:=af 1 1018 [1,0,2] (by decide) (by decide) (by decide) (by decide +kernel) (by decide +kernel) rfl;have cr:HT HW 2=true:=af 2 1015 [2,0,1] (by decide) (by decide) (by decide) (by decide +kernel) (by decide +kernel) rfl;have e:Je HW=[0,1,2]:=by
  unfold Je;show List.filter (fun s:Int=>HT HW s.toNat) [0,1,2]=[0,1,2];refine List.filter_eq_self.2 fun s ah=>?_;simp only [sy,uc,or_false] at ah;rcases ah with rfl | rfl | rfl
  ·exact db
  ·exact bl
  ·exact cr
 rw [ZC (by decide),e,if_pos (by decide +kernel)]
theorem ah1:Jn [0,2,1] [0,2,1]=some true:=by decide +kernel
theorem ah2:Jn [0,1,2] [0,1,2]=some true:=by decide +kernel
theorem works:Ja=some true:=by
 obtain ⟨l,ab,ae⟩:=ah7;unfold Ja;simp only [aiA,aiC,aiE,IG,MV,MW,sc,aia,aib,ah9,ah_,ahY,ahZ,ah0,ah3,ah4,ah5,ah6,ah8,ab,ae,ah1,ah2];simp only [decide_eq_true_eq,ne_eq,not_true_eq_false,if_false,if_true]
end Go.Proofs.YtkoioidpbbbaiaaGreat.Ab


namespace Go.Proofs.YtkoioidpbbbaiaaGreat.Ab
open Go
set_option maxRecDepth 20000
set_option maxHeartbeats 4000000
noncomputable def Z7:gB :=
 p5 [p3 1 [.jm 0] .box,p3 2 [.cv (.bool false)] .mR] (p5 [qK 3 1 0,qm 4 3,q2 5 4,qv 6 5 10 .gtr,p4 2 6] .ret)
theorem aeF:qu Tryz.prog T8 10=some (Z7,7,[.tmp 2]):=by qb
def KL (p:(qk×(Int×Int))):Option Bool :=
 some (decide ((10:Int)<(p.1.length:Int)))
theorem Td {p:(qk×(Int×Int))} {v:Bool} (h:KL p=some v):qw 10 [(.agg [(.av (p.1.flatMap p_) p.1.length .shared),(hX p.2.1),(hX p.2.2)])] (B v):=by
 refine qO eD aeF rfl rfl fun Q bo=>?_;have jG:qL [.tmp 2] Q (fun v=>(B v)) v:=fun T H bD=>bo _ T H bD;unfold KL at h;unfold Z7;conv=>whnf
 exact qe h jG rfl rfl
end Go.Proofs.YtkoioidpbbbaiaaGreat.Ab
