
import Derived.Test.YtkoioidpbbbaiaaGreatJa7
import Derived.KernelRfl
import Derived.Test.YtkoioidpbbbaiaaGreatJa5
import Derived.Test.YtkoioidpbbbaiaaGreatJa6
import Derived.Test.YtkoioidpbbbaiaaGreatProg
set_option linter.unusedSimpArgs false
set_option linter.unusedVariables false
set_option linter.unusedSectionVars false

open Bool renaming and_true→tx,or_false→vS
open Int renaming le_refl→sY,toNat_natCast→tD
open List renaming append_assoc→sC,append_nil→sM,drop_eq_getElem_cons→sV,drop_of_length_le→uR,drop_zero→tu,exists_cons_of_ne_nil→tY,filter_append→tE,filter_congr→uq,getD_eq_getElem?_getD→sB,getElem?_append_left→sk,getElem?_eq_getElem→sm,getElem?_eq_none→tO,getElem?_eq_some_iff→sd,getElem?_map→sq,getElem?_set→tK,getElem?_set_ne→sf,getElem?_set_self→sn,getElem_map→tX,getElem_mem→tt,length_append→sD,length_eq_zero_iff→sT,length_erase_of_mem→tR,length_filter_le→uS,length_map→sZ,length_take→s9,map_append→sR,map_set→tQ,mem_append→sU,mem_cons→sy,mem_filter→tc,mem_flatMap→tW,mem_map→sH,mem_of_mem_drop→uC,mem_singleton→sK,nodup_append→tZ,nodup_cons→tU,not_mem_nil→uc,pairwise_cons→th,pairwise_iff_getElem→vN,range_succ→vm,take_of_length_le→tb,take_succ_eq_append_getElem→uP
open Nat renaming le_refl→se,lt_succ_self→sg,mul_one→tz,zero_add→sG,zero_le→sE
open Option renaming bind_some→sc,getD_none→vR,getD_some→tL
namespace Go.Proofs.YtkoioidpbbbaiaaGreat.Ab
open Go
set_option maxRecDepth 20000
set_option maxHeartbeats 4000000
def KP (p:qm) (order:List Int):Option (List qB×Int) :=
 (rW p [order]).bind fun r=>match r with
 | (none,q)=>if decide (q≠0)=true then some ([],q) else none
 | (some b,_)=>(KY b order 0).bind fun l1=>(KY b order 1).bind fun l2=>qq (l1.length+l2.length≤12) <| some (Hf (l1++l2),0)
theorem acS (b:r_):HW b 0 [.map [] 0]:=⟨[],0,rfl,fun e he=>absurd he (by simp)⟩
theorem V5:∀ (m i:Nat) (S:List qB),(IK m i S).length=S.length
 | 0,_,_=>rfl
 | m+1,i,S=>by unfold IK;rw [V5 m,V3]
theorem YV (S:List qB):(Hf S).length=S.length:=V5 _ _ _
theorem ahf (n:Nat) {a b c:I}:(e7 n [a,b,c]).length=n*3:=by
 induction n with
 | zero=>rfl
 | succ n a8=>show ([a,b,c]++e7 n [a,b,c]).length=_;rw [sD,a8];simp;omega
theorem YD {S:List qB} {H:List ar} {id n:Nat} {cap:Option Nat} (ag:H[id]?=some (IH S)) (aI:S.length=n):rowOf H (.ref id 0 n cap 3)=some (S.flatMap qx):=by
 have ao:(S.flatMap qx).length=S.length*3:=Iy qx 3 (fun _=>rfl) S;simp only [rowOf,ag,sG,tu];rw [if_pos (by omega),tb (by omega),R2 (Zp (f:=qx) (fun _=>N_ rfl (N_ rfl (N_ rfl Zq))) S)]
theorem ahx {vs cs:List I} (h:vs.length=cs.length):setCells 0 vs cs=vs:=by
 apply List.ext_getElem?;intro j;rw [m8 _ _ _ _ (by omega)];by_cases aw:j<vs.length
 ·rw [if_pos ⟨by omega,by omega⟩];simp
 ·rw [if_neg (by omega),tO (by omega),tO (by omega)]
theorem acy {P:Program} {lo a b n:Nat} {H:List ar} {S:List qB} {cells:List I} {cap:Option Nat} {e:TypeId} {ts:Array TypeId} (e1:(ts[0]?).bind P.underlying=some (.slice e)) (b9:bE P e=some 3) (bC:lo≤a)
  (af:H[b]?=some (IH S)) (aI:S.length=n) (cq:H[a]?=some (.cells cells)) (ak:cells.length=n*3):j7 P lo ts H [.ref a 0 n (some n) 3,.ref b 0 n cap 3]=some (.int .i64 (n:Int),H.set a (IH S)):=by
 have ao:(S.flatMap qx).length=S.length*3:=Iy qx 3 (fun _=>rfl) S;have cF:=YD (cap:=cap) af aI;unfold j7;simp only [e1,b9,lenOf,cF,fP,cq,if_pos bC];rw [if_pos ⟨trivial,by omega⟩,if_pos (by omega),Nat.min_self,tb (by omega),ahx (by omega)];rfl
theorem Vr {S:List qB} {H:List ar} {id n d:Nat} {cap:Option Nat} (aE:id<H.length) (ag:H[id]?=some (IH S)) (aI:S.length=n):bL H 0 H.length 0 (d+2) (.ref id 0 n cap 3)=some (.av (S.flatMap qx) n (eZ cap n)):=by
 show (if id<0 then some (I.ref id 0 n cap 3) else if id=H.length then some (.ref 0 0 n cap 3) else match rowOf H (.ref id 0 n cap 3) with | some row=>(dZ (bL H 0 H.length 0 (d+1)) row).map fun cs=>.av cs n (eZ cap n) | none=>none)=_;rw [if_neg (by omega),if_neg (by omega),YD ag aI];have lX:dZ (bL H 0 H.length 0 (d+1)) (S.flatMap qx)=some (S.flatMap qx):=zU fun u hu=>by
  obtain ⟨x,_,aj⟩:=tW.1 hu;simp only [qx,sy,uc,or_false] at aj;rcases aj with rfl | rfl | rfl <;> rfl
 simp only [lX,Option.map_some]
theorem ahO {H2:List ar} {L:List qB} (fm:L.length≤12) {Tc:I} {Q:cN→List I→List ar→Prop}
  (bo:∀ T H,HX [.tmp 4,.tmp 5] (.tuple [.av ((Hf L).flatMap qx) (Hf L).length .shared,hX 0]) .ret T H→Q .ret T H) :
  dN Tryz.prog OC 23 0 none Lp (qf 37 [(4,.av [] 0 (.uniq 3)),(5,hX 0),(7,hX 0),(8,.ref H2.length 0 L.length none 3),(18,Tc),(27,.ref H2.length 0 L.length none 3)]) (H2++[IH L]) Q:=by
 have DG:(Hf L).length=L.length:=YV L;unfold Lp;obtain ⟨a9,b_⟩:∃ c,NS=c:=⟨_,rfl⟩;rw [b_];conv=>whnf
 refine ⟨_,_,rG (ahA (sE _) rfl fm (I2 _ _)),?_⟩;rw [HJ];conv=>whnf
 subst b_;unfold NS Sr;conv=>whnf
 refine ⟨by omega,sY _,by omega,?_⟩;conv=>whnf
 rw [tD];refine ⟨_,_,fun C=>(Xb rfl).trans (acy (e:=62) (S:=Hf L) (by kernel_rfl) (by kernel_rfl) (sE _) (by exact VI (I2 _ _)) DG (I2 _ _) (ahf _)),?_⟩;conv=>whnf
 rw [HJ];refine bo _ _ ⟨.inr rfl,[.ref (H2++[IH (Hf L)]).length 0 L.length (some L.length) 3,hX 0],rfl,_,Nh (rM (Vr (S:=Hf L) (by simp) (I2 _ _) DG) (rM (yW rfl) IP)),?_⟩;have e1:eZ (some L.length) L.length=.full:=by simp [eZ]
 rw [e1,DG];rfl
theorem acz {P:Program} {lo a:Nat} {H:List ar} {cap:Option Nat} {c:hB} {e:TypeId} {ts:Array TypeId} (e1:(ts[0]?).bind P.underlying=some (.slice e)) (b9:bE P e=some 3) (bC:lo≤a) (cq:H[a]?=some (.cells [])):j7 P lo ts H [.ref a 0 0 cap 3,.av [] 0 c]=some (.int .i64 0,H.set a (.cells [])):=by
 unfold j7;simp only [e1,b9,lenOf,rowOf,fP,cq,if_pos bC];rfl
theorem ahP {H2:List ar} {Tc:I} {Q:cN→List I→List ar→Prop}
  (bo:∀ T H,HX [.tmp 4,.tmp 5] (.tuple [.av (([]:List qB).flatMap qx) ([]:List qB).length .shared,hX 0]) .ret T H→Q .ret T H) :
  dN Tryz.prog OC 23 0 none Lp (qf 37 [(4,.av [] 0 (.uniq 3)),(5,hX 0),(7,hX 0),(8,.av [] 0 (.uniq 3)),(18,Tc),(27,.av [] 0 .shared)]) H2 Q:=by
 unfold Lp;obtain ⟨a9,b_⟩:∃ c,NS=c:=⟨_,rfl⟩;rw [b_];conv=>whnf
 refine ⟨_,_,rG ahB,?_⟩;conv=>whnf
 subst b_;unfold NS Sr;conv=>whnf
 refine ⟨by omega,sY _,by omega,?_⟩;conv=>whnf
 refine ⟨_,_,fun C=>(Xb rfl).trans (acz (e:=62) (a:=H2.length) (by kernel_rfl) (by kernel_rfl) (sE _) (I2 _ _)),?_⟩;conv=>whnf
 rw [HJ];refine bo _ _ ⟨.inr rfl,[.ref H2.length 0 0 (some 0) 3,hX 0],rfl,_,Nh (rM (Vr (S:=[]) (by simp) (I2 _ _) rfl) (rM (yW rfl) IP)),rfl⟩
theorem Tj {p:qm} {order:List Int} {v:List qB×Int} (h:KP p order=some v):qv 23 [.agg [.av (p.1.flatMap p_) p.1.length .shared,hX p.2.1,hX p.2.2],.av (order.map hX) order.length .shared] (.tuple [.av (v.1.flatMap qx) v.1.length .shared,hX v.2]):=by
 unfold KP at h;obtain ⟨⟨aS,bh⟩,ai,h⟩:=p' h;refine qN eD aei rfl (Ir (p9 (HB (fun _=>p9 rfl (p9 rfl (p9 rfl rfl))) _ _ _) (p9 rfl rfl))) fun Q bo=>?_;have jG:∀ T H,HX [.tmp 4,.tmp 5] (.tuple [.av (v.1.flatMap qx) v.1.length .shared,hX v.2]) .ret T H→Q .ret T H:=fun T H bD=>bo _ T H bD;unfold X0 X2 X1;obtain ⟨br,eP⟩:∃ c,Ss=c:=⟨_,rfl⟩;rw [eP];conv=>whnf
 refine ⟨rfl,?_⟩;conv=>whnf
 rcases aS with _ | b
 ·refine ⟨_,_,ab_ ai,?_⟩;conv=>whnf
  refine bs h (fun af h=>?_) fun af h=>?_
  ·rw [af];(conv=>whnf);obtain rfl:=Option.some.inj h;exact jG _ _ (It rfl rfl)
  ·cases h
 ·obtain ⟨rfl,rfl,_⟩:=Of ai;refine ⟨_,_,acb ai,?_⟩;obtain ⟨l1,ab,h⟩:=p' h;obtain ⟨l2,ae,h⟩:=p' h;obtain ⟨aI,h⟩:=rV h;obtain rfl:=Option.some.inj h;obtain ⟨H1,aJ,Da,f1,e1,s1⟩:=ZR ab (m:=0) (lo:=0) (se 0) (acS (p,()));obtain ⟨H2,aN,pN,f2,b9,s2⟩:=ZR ae (m:=0) (lo:=0) (se 0) f1;have bm:=acw (l1:=l1) (l2:=l2) (H:=H2) (lo:=0) (by omega);subst eP;unfold Ss;by_cases he:(l1++l2).length≠0
  ·rcases Da with rfl | rfl | rfl <;> rcases pN with rfl | rfl | rfl
   all_goals
    obtain ⟨a9,b_⟩:∃ c,Lp=c:=⟨_,rfl⟩;rw [b_];(conv=>whnf);refine ⟨_,_,rG s1,?_⟩;(conv=>whnf);refine ⟨_,_,rG s2,?_⟩;(conv=>whnf);refine ⟨_,_,rG bm,?_⟩;(conv=>whnf);refine .inl ⟨he,?_⟩;(conv=>whnf);subst b_;exact ahO (H2:=H2) (L:=l1++l2) (by simp;omega) jG
  ·(have aj0:l1.length+l2.length=0:=by simp at he;simp [he]);obtain rfl:=sT.1 (show l1.length=0 by omega);obtain rfl:=sT.1 (show l2.length=0 by omega);rcases Da with rfl | rfl | rfl <;> rcases pN with rfl | rfl | rfl
   all_goals
    obtain ⟨a9,b_⟩:∃ c,Lp=c:=⟨_,rfl⟩;rw [b_];(conv=>whnf);refine ⟨_,_,rG s1,?_⟩;(conv=>whnf);refine ⟨_,_,rG s2,?_⟩;(conv=>whnf);refine ⟨_,_,rG bm,?_⟩;(conv=>whnf);refine .inr ⟨rfl,?_⟩;(conv=>whnf);subst b_;exact ahP (H2:=H2) jG
end Go.Proofs.YtkoioidpbbbaiaaGreat.Ab


namespace Go.Proofs.YtkoioidpbbbaiaaGreat.Ab
open Go
set_option maxRecDepth 20000
set_option maxHeartbeats 1000000
theorem VA (S:List qB) (j k:Nat) (c:qB) (aw:j<S.length):q7 (S.set j c) k=if k=j then c else q7 S k:=by
 unfold q7 ix;rw [tD,sB,tK,sB];by_cases e:j=k
 ·subst e;simp [aw]
 ·rw [if_neg e,if_neg (Ne.symm e)]
theorem acW {S:List qB} {j:Nat} (aw:j+1<S.length) (k:Nat):q7 (Kd S j) k=if k=j then q7 S (j+1) else if k=j+1 then q7 S j else q7 S k:=by
 unfold Kd;rw [VA _ _ _ _ (by simp;omega),VA _ _ _ _ aw]
theorem ahM {S:List qB} {j:Nat} (aw:j+1<S.length):(Kd S j).Perm S:=by
 have:=Sort.perm_set_set S (j+1) j aw (by omega);unfold Kd;have e1:q7 S j=S[j]:=rH (by omega);have b9:q7 S (j+1)=S[j+1]:=rH aw;rw [e1,b9];exact this
theorem V4:∀ (j:Nat) (S:List qB),j<S.length→(∀ c∈S,0≤c.1∧c.1≤1000)→(∀ a b,a<b→b<j→(q7 S a).1≤(q7 S b).1) →
  (Ib j S).Perm S∧(∀ k,j<k→q7 (Ib j S) k=q7 S k)∧(∀ a b,a<b→b≤j→(q7 (Ib j S) a).1≤(q7 (Ib j S) b).1)∧∀ a,a≤j→∃ b,b≤j∧q7 (Ib j S) a=q7 S b
 | 0,S,_,_,_=>⟨.refl _,fun _ _=>rfl,fun a b ab ae=>by omega,fun a cq=>⟨a,cq,rfl⟩⟩
 | j+1,S,aw,ak,ah=>by
   have hm:∀ k,k<S.length→0≤(q7 S k).1∧(q7 S k).1≤1000:=fun k al=>ak _ (J8 (by omega));have c9:=hm j (by omega);have c_:=hm (j+1) aw;unfold Ib NF;rw [qF (by omega)];by_cases aR:(q7 S (j+1)).1-(q7 S j).1<0
   ·rw [if_pos (decide_eq_true aR)];have aO:=acW aw;have aB:=ahM aw
    obtain ⟨i1,i2,i3,i4⟩:=V4 j (Kd S j) (by rw [Y7];omega) (fun c h=>ak c (aB.mem_iff.1 h)) (fun a b ab ae=>by
     rw [aO,aO,if_neg (by omega),if_neg (by omega),if_neg (by omega),if_neg (by omega)]
     exact ah a b ab (by omega))
    refine ⟨i1.trans aB,fun k al=>?_,fun a b ab ae=>?_,fun a cq=>?_⟩
    ·rw [i2 k (by omega),aO,if_neg (by omega),if_neg (by omega)]
    ·by_cases e:b=j+1
     ·subst e;rw [i2 (j+1) (by omega),aO (j+1),if_neg (by omega),if_pos rfl];obtain ⟨c,aF,ba⟩:=i4 a (by omega);rw [ba,aO c];by_cases b9:c=j
      ·rw [if_pos b9];omega
      ·rw [if_neg b9,if_neg (by omega)];exact ah c j (by omega) (by omega)
     ·exact i3 a b ab (by omega)
    ·by_cases e:a=j+1
     ·subst e;rw [i2 (j+1) (by omega),aO (j+1),if_neg (by omega),if_pos rfl];exact ⟨j,by omega,rfl⟩
     ·obtain ⟨c,aF,ba⟩:=i4 a (by omega);rw [ba,aO c];by_cases b9:c=j
      ·rw [if_pos b9];exact ⟨j+1,by omega,rfl⟩
      ·rw [if_neg b9,if_neg (by omega)];exact ⟨c,by omega,rfl⟩
   ·rw [if_neg (by simpa using aR)];refine ⟨.refl _,fun _ _=>rfl,fun a b ab ae=>?_,fun a cq=>⟨a,cq,rfl⟩⟩;by_cases e:b=j+1
    ·subst e;by_cases b9:a=j
     ·subst b9;omega
     ·have:=ah a j (by omega) (by omega);omega
    ·exact ah a b ab (by omega)
theorem V6:∀ (m i:Nat) (S:List qB),i+m=S.length→(∀ c∈S,0≤c.1∧c.1≤1000)→(∀ a b,a<b→b<i→(q7 S a).1≤(q7 S b).1) →
  (IK m i S).Perm S∧∀ a b,a<b→b<S.length→(q7 (IK m i S) a).1≤(q7 (IK m i S) b).1
 | 0,i,S,h,_,ah=>⟨.refl _,fun a b ab ae=>ah a b ab (by omega)⟩
 | m+1,i,S,h,ak,ah=>by
   obtain ⟨i1,_,i3,_⟩:=V4 i S (by omega) ak ah;have ao:=i1.length_eq;obtain ⟨dA,dq⟩:=V6 m (i+1) (Ib i S) (by omega) (fun c h=>ak c (i1.mem_iff.1 h)) (fun a b ab ae=>i3 a b ab (by omega));unfold IK;exact ⟨dA.trans i1,fun a b ab ae=>dq a b ab (by omega)⟩
theorem ahC {S:List qB} (ak:∀ c∈S,0≤c.1∧c.1≤1000):(Hf S).Perm S∧(Hf S).Pairwise fun a b=>a.1≤b.1:=by
 unfold Hf;by_cases aQ:S.length=0
 ·obtain rfl:=sT.1 aQ;exact ⟨.refl _,.nil⟩
 ·obtain ⟨ab,ae⟩:=V6 (S.length-1) 1 S (by omega) ak (fun a b ab ae=>by omega);refine ⟨ab,vN.2 fun i j hi aw h7=>?_⟩;have:=ae i j h7 (by rw [←ab.length_eq];exact aw);have e1:∀ k (al:k<(IK (S.length-1) 1 S).length),q7 (IK (S.length-1) 1 S) k=(IK (S.length-1) 1 S)[k]:=fun k al=>rH al;rw [e1 i hi,e1 j aw] at this;exact this
theorem W_ {n:Int}:∀ {l:List qB} {m:Int},l.Pairwise (fun a b=>a.1<b.1)→(∀ c∈l,m≤c.1∧c.1<n∧q2 c.2)→Hz n l m
 | [],_,_,_=>trivial
 | c::r,m,aB,ak=>by
   obtain ⟨ab,ae⟩:=th.1 aB;have aF:=ak c (by simp)
   exact ⟨aF.1,aF.2.1,aF.2.2,W_ ae fun dR aX=>by
    have:=ab dR aX;have ba:=ak dR (by simp [aX])
    exact ⟨by omega,ba.2⟩⟩
theorem W9 {n:Int}:∀ {l:List qB} {m:Int},Hz n l m→∀ c∈l,m≤c.1
 | [],_,_,c,ak=>absurd ak (by simp)
 | c::r,m,h,dR,ak=>by
   rcases sy.1 ak with rfl | aX
   ·exact h.1
   ·have:=W9 h.2.2.2 dR aX;have:=h.1;omega
theorem V9 {α:Type} [Inhabited α] {S:List α} {j k:Int} {c:α} (aw:0≤j∧j<(S.length:Int)) (al:0≤k):ix (S.set j.toNat c) k=if k=j then c else ix S k:=by
 unfold ix;rw [sB,tK,sB];by_cases e:k=j
 ·subst e;rw [if_pos rfl,if_pos rfl,if_pos (by omega)];rfl
 ·rw [if_neg (by omega),if_neg e]
theorem S4 {n:Int}:∀ {l:List qB} {S:List qM} {m:Int},Hz n l m→0≤m→(S.length:Int)=n→∀ {j:Int},0≤j→(∀ c∈l,c.1≠j)→ix (r3 l S) j=ix S j
 | [],_,_,_,_,_,_,_,_=>rfl
 | c::r,S,m,h,hm,cl,j,aw,ak=>by
   have ab:=h.1;have ae:=h.2.1;unfold r3;rw [S4 h.2.2.2 (by omega) (by simpa using cl) aw fun dR aX=>ak dR (by simp [aX]),V9 (by omega) aw,if_neg fun e=>ak c (by simp) e.symm]
theorem YL {n:Int}:∀ {l:List qB} {S:List qM} {m:Int},Hz n l m→0≤m→(S.length:Int)=n→∀ {c:qB},c∈l→ix (r3 l S) c.1=c.2
 | [],_,_,_,_,_,_,ak=>absurd ak (by simp)
 | c::r,S,m,h,hm,cl,dR,ak=>by
   have ab:=h.1;have ae:=h.2.1;unfold r3;rcases sy.1 ak with rfl | aX
   ·rw [S4 h.2.2.2 (by omega) (by simpa using cl) (by omega) fun a9 ae=>by have:=W9 h.2.2.2 a9 ae;omega,V9 (by omega) (by omega),if_pos rfl]
   ·exact YL h.2.2.2 (by omega) (by simpa using cl) aX
section
variable {p:qm} {o:List Int}
def I4 (n a:Nat):Nat→List Int
 | 0=>[]
 | i+1=>if i % 2=a∧0<qH n i then I4 n a i++[(i:Int)] else I4 n a i
theorem Q8 (h:rj p) (k:qA p.1.length o) {a:Nat}:∀ (m i:Nat),i≤o.length→o.length-i=m→(∀ j,j<i→j % 2=a→¬ H9 p o a j) →
  (∃ (j:Nat) (s:qM),Jt (p,()) o (a:Int) ((qo o.length).drop i) i (I4 o.length a i)=some (j+1,.inl [(ix o (j:Int),s)])∧j<o.length∧j % 2=a∧q2 s∧I0 p o a j s) ∨
  (Jt (p,()) o (a:Int) ((qo o.length).drop i) i (I4 o.length a i)=some (o.length,.inr (I4 o.length a o.length))∧∀ j,j<o.length→j % 2=a→¬ H9 p o a j)
 | 0,i,hi,hm,fp=>by
   (obtain rfl:i=o.length:=by omega);refine .inr ⟨?_,fp⟩;rw [uR (by rw [LA];omega)];rfl
 | m+1,i,hi,hm,fp=>by
   (have aR:i<o.length:=by omega);have e1:(qo o.length).drop i=(i:Int)::(qo o.length).drop (i+1):=by
    rw [sV (by rw [LA];omega)];congr 1;rw [←rH,RQ aR]
   rw [e1,Jt,Lw];by_cases a_:i % 2=a
   ·rw [if_neg (by omega)];rcases ZT h k (a:=a) aR with ⟨s,ab,ae,aF⟩ | ⟨ab,ae⟩
    ·refine .inl ⟨i,s,?_,aR,a_,ae,aF⟩;rw [ab,sc,if_pos rfl]
    ·rw [ab,sc,if_neg (by decide),P4 (b:=(p,())) (qA.len h k) k.1.symm aR,sc];have b9:(if 0<qH o.length i then I4 o.length a i++[(i:Int)] else I4 o.length a i)=I4 o.length a (i+1):=by
      rw [I4];by_cases aB:0<qH o.length i
      ·rw [if_pos aB,if_pos ⟨a_,aB⟩]
      ·rw [if_neg aB,if_neg fun k=>aB k.2]
     rw [b9];refine Q8 h k m (i+1) (by omega) (by omega) fun j aw O2=>?_;by_cases e:j=i
     ·subst e;exact ae
     ·exact fp j (by omega) O2
   ·rw [if_pos (by omega)];(have b9:I4 o.length a (i+1)=I4 o.length a i:=by rw [I4,if_neg fun k=>a_ k.1]);rw [←b9];refine Q8 h k m (i+1) (by omega) (by omega) fun j aw O2=>?_;by_cases e:j=i
    ·subst e;exact absurd O2 a_
    ·exact fp j (by omega) O2
structure aaY (p:qm) (o:List Int) (a:Nat) (l:List qB):Prop where
 len:l.length=HY p o a
 own:∀ c∈l,q2 c.2∧∃ i:Nat,i<o.length∧i % 2=a∧c.1=ix o (i:Int)
 W3:(l.map (·.1)).Nodup
 flat:∀ S':List qM,(∀ i:Nat,i<o.length→i % 2=a→(∀ c∈l,c.1=ix o (i:Int)→qO S' o i=c.2)∧((∀ c∈l,c.1≠ix o (i:Int))→qO S' o i=qO p.1 o i))→∀ d,d=p.2.1∨d=p.2.2→r1 S' o a (re d)=0
theorem Ll {o:List Int} (h:o.Nodup) {i j:Nat} (hi:i<o.length) (aw:j<o.length) (e:ix o (i:Int)=ix o (j:Int)):i=j:=by
 rw [rH hi,rH aw] at e;exact (List.getElem_inj h).1 e
theorem afJ (S:List qM) (o:List Int) {a i:Nat} (f:qM→Int) (hi:i<o.length) (cq:i % 2=a):r1 S o a f=qI S o a [(i:Int)] f+qH o.length i*f (qO S o i):=by
 unfold r1 qI;have key:∀ m,q5 m (fun j=>if j % 2=a then qH o.length j*f (qO S o j) else 0)=q5 m (fun j=>if j % 2=a∧(j:Int) ∉ [(i:Int)] then qH o.length j*f (qO S o j) else 0)+if i<m then qH o.length i*f (qO S o i) else 0:=by
  intro m
  induction m with
  | zero=>simp [q5]
  | succ m a8 =>
    simp only [q5];rw [a8];by_cases e:m=i
    ·subst e;rw [if_neg (show ¬ m<m by omega),if_pos cq,if_neg (by simp),if_pos (show m<m+1 by omega)]
    ·have dx:(m % 2=a∧(m:Int) ∉ [(i:Int)])↔m % 2=a:=⟨fun h=>h.1,fun h=>⟨h,by simp;omega⟩⟩;(have lX:i<m+1↔i<m:=by omega);simp only [dx,lX];omega
 rw [key,if_pos hi]
theorem afF {S S':List qM} {o:List Int} {a i:Nat} {f:qM→Int} (h:∀ j,j<o.length→j % 2=a→j≠i→qO S' o j=qO S o j):qI S' o a [(i:Int)] f=qI S o a [(i:Int)] f:=by
 unfold qI;refine N7 fun j aw=>?_;by_cases a_:j % 2=a∧(j:Int) ∉ [(i:Int)]
 ·rw [if_pos a_,if_pos a_,h j aw a_.1 fun e=>a_.2 (by rw [e];simp)]
 ·rw [if_neg a_,if_neg a_]
theorem afH {S S':List qM} {o:List Int} {a:Nat} {f:qM→Int} (h:∀ j,j<o.length→j % 2=a→qO S' o j=qO S o j):r1 S' o a f=r1 S o a f:=by
 unfold r1;refine N7 fun j aw=>?_;by_cases a_:j % 2=a
 ·rw [if_pos a_,if_pos a_,h j aw a_]
 ·rw [if_neg a_,if_neg a_]
theorem afE {S:List qM} {o:List Int} {f:qM→Int} (aI:o.length=7):r1 S o 0 f=-3*f (qO S o 0)-f (qO S o 2)+f (qO S o 4)+3*f (qO S o 6):=by
 unfold r1;rw [aI];simp [q5,qH];omega
theorem WY {S:List qM} {o:List Int} {f:qM→Int} (aI:o.length=3):r1 S o 1 f=0:=by
 unfold r1;rw [aI];simp [q5,qH]
theorem WW {S:List qM} {o:List Int} {a i:Nat} {f:qM→Int} (h:(o.length=3∧a=0∧i=2)∨(o.length=5∧a=0∧i=4)∨(o.length=5∧a=1∧i=3)∨(o.length=7∧a=1∧i=5)) :
  qI S o a [(i:Int)] f+qH o.length i*f (qO S o (o.length-1-i))=0:=by
 rcases h with ⟨aI,rfl,rfl⟩ | ⟨aI,rfl,rfl⟩ | ⟨aI,rfl,rfl⟩ | ⟨aI,rfl,rfl⟩
 ·unfold qI;rw [aI];simp [q5,qH];try omega
 ·unfold qI;rw [aI];simp [q5,qH];try omega
 ·unfold qI;rw [aI];simp [q5,qH];try omega
 ·unfold qI;rw [aI];simp [q5,qH];try omega
theorem afB (h:rj p) (k:qA p.1.length o) {a i:Nat} (hi:(o.length=3∧a=0∧i=2)∨(o.length=5∧a=0∧i=4)∨(o.length=5∧a=1∧i=3)∨(o.length=7∧a=1∧i=5)):i<o.length∧i % 2=a∧H9 p o a i :=
 ⟨by omega,by omega,L9.2 ⟨_,Iu h.s (rX k) (i:=o.length-1-i) (by omega),WW hi,WW hi⟩⟩
theorem ZQ (h:rj p) (k:qA p.1.length o) {a:Nat} (cq:a<2):∃ l,KY (p,()) o (a:Int)=some l∧aaY p o a l:=by
 have Lg:=qA.Ml h k;have aI:=h.n;rw [←k.1] at aI;unfold KY;rw [qw (by omega),ZU h k,sc];by_cases aP:r7 p o a
 ·rw [if_pos (decide_eq_true aP)];refine ⟨[],rfl,⟨by unfold HY;rw [if_pos aP];rfl,fun c ak=>absurd ak (by simp),by simp,fun S' pj d a1=>?_⟩⟩;rw [afH fun j aw a_=>(pj j aw a_).2 (by simp)];rcases a1 with rfl | rfl
  ·exact aP.1
  ·exact aP.2
 ·rw [if_neg (by simpa using aP)];rcases Q8 h k (a:=a) o.length 0 (by omega) rfl (fun j aw=>absurd aw (by omega)) with ⟨i,s,ab,ae,aF,ba,bO⟩ | ⟨ab,ae⟩
  ·have iO:Jt (p,()) o (a:Int) (qo o.length) 0 []=_:=ab;rw [iO,sc];refine ⟨_,rfl,⟨?_,?_,by simp,?_⟩⟩
   ·unfold HY;rw [if_neg aP,if_pos ⟨i,ae,aF,L9.2 ⟨s,ba,bO⟩⟩];rfl
   ·intro c ak;obtain rfl:=sK.1 ak;exact ⟨ba,i,ae,aF,rfl⟩
   ·intro S' pj d a1
    rw [afJ S' o _ ae aF,(pj i ae aF).1 (ix o (i:Int),s) (by simp) rfl,afF fun j aw a_ bI=>(pj j aw a_).2 fun c ak=>by
     obtain rfl:=sK.1 ak
     exact fun e=>bI (Ll k.2.1 ae aw e).symm]
    rcases a1 with rfl | rfl
    ·exact bO.1
    ·exact bO.2
  ·have iO:Jt (p,()) o (a:Int) (qo o.length) 0 []=_:=ab;rw [iO,sc];simp only;have cL:o.length=7∧a=0:=by
    by_cases e:o.length=7∧a=0
    ·exact e
    ·exfalso;have fp:∀ i,¬ ((o.length=3∧a=0∧i=2)∨(o.length=5∧a=0∧i=4)∨(o.length=5∧a=1∧i=3)∨(o.length=7∧a=1∧i=5)):=fun i hi=>by
      obtain ⟨aJ,aN,b'⟩:=afB h k hi;exact ae i aJ aN b'
     rcases (show a=0∨a=1 by omega) with rfl | rfl <;> rcases aI with aI | aI | aI
     ·exact fp 2 (.inl ⟨aI,rfl,rfl⟩)
     ·exact fp 4 (.inr (.inl ⟨aI,rfl,rfl⟩))
     ·exact e ⟨aI,rfl⟩
     ·exact aP ⟨WY aI,WY aI⟩
     ·exact fp 3 (.inr (.inr (.inl ⟨aI,rfl,rfl⟩)))
     ·exact fp 5 (.inr (.inr (.inr ⟨aI,rfl,rfl⟩)))
   obtain ⟨cL,rfl⟩:=cL;have jG:=rX k;(have ad:I4 o.length 0 o.length=[4,6]:=by rw [cL];decide);(have aj3:p.1.length=7:=by rw [←k.1];exact cL);have pY:Jj (p,()) o [4,6] []=some [(ix o ((4:Nat):Int),qO p.1 o 2),(ix o ((6:Nat):Int),qO p.1 o 0)]:=by
    have hQ:=jG 0 (by omega);have bh:=jG 2 (by omega);(have ahY:w (w (((7:Nat):Int)-1)-4)=((2:Nat):Int):=by rw [qF (n:=((7:Nat):Int)-1) (by omega),qF (by omega)];omega);(have w0:w (w (((7:Nat):Int)-1)-6)=((0:Nat):Int):=by rw [qF (n:=((7:Nat):Int)-1) (by omega),qF (by omega)];omega);have s1:∀ out,Jj (p,()) o [4,6] out=Jj (p,()) o [6] (out++[(ix o ((4:Nat):Int),qO p.1 o 2)]):=fun out=>by
     rw [Jj,cL,qw (by omega),ahY,qw (by omega),qw bh];rfl
    have s2:∀ out,Jj (p,()) o [6] out=some (out++[(ix o ((6:Nat):Int),qO p.1 o 0)]):=fun out=>by
     rw [Jj.eq_2,cL,qw (by omega),w0,qw (by omega),qw hQ];rfl
    rw [s1,s2];rfl
   rw [ad,pY];have adL:ix o ((4:Nat):Int)≠ix o ((6:Nat):Int):=fun e=>absurd (Ll k.2.1 (by omega) (by omega) e) (by decide);refine ⟨_,rfl,⟨?_,?_,?_,?_⟩⟩
   ·unfold HY;rw [if_neg aP,if_neg (by rintro ⟨i,aJ,aN,b'⟩;exact ae i aJ aN b')];rfl
   ·intro c ak;rcases sy.1 ak with rfl | ak
    ·exact ⟨Iu h.s jG (by omega),4,by omega,rfl,rfl⟩
    ·obtain rfl:=sK.1 ak;exact ⟨Iu h.s jG (by omega),6,by omega,rfl,rfl⟩
   ·simp only [List.map_cons,List.map_nil,tU,sK,uc,not_false_eq_true,List.nodup_nil,and_true];exact adL
   ·intro S' pj d _;rw [afE cL];rw [(pj 4 (by omega) rfl).1 (ix o ((4:Nat):Int),qO p.1 o 2) (by simp) rfl,(pj 6 (by omega) rfl).1 (ix o ((6:Nat):Int),qO p.1 o 0) (by simp) rfl];have fp:∀ j:Nat,j<7→j≠4→j≠6→∀ c∈[(ix o ((4:Nat):Int),qO p.1 o 2),(ix o ((6:Nat):Int),qO p.1 o 0)],c.1≠ix o (j:Int):=by
     intro j aw ba bP c ak e;rcases sy.1 ak with rfl | ak
     ·exact ba (Ll k.2.1 (by omega) (by omega) e).symm
     ·obtain rfl:=sK.1 ak;exact bP (Ll k.2.1 (by omega) (by omega) e).symm
    rw [(pj 0 (by omega) rfl).2 (fp 0 (by omega) (by omega) (by omega)),(pj 2 (by omega) rfl).2 (fp 2 (by omega) (by omega) (by omega))];simp only;omega
theorem acB {q:qm} {o:List Int}:q_ q o=0↔r7 q o 0∧r7 q o 1:=by
 unfold q_ IZ r7;generalize ru q o 0 q.2.1=a;generalize ru q o 0 q.2.2=b;generalize ru q o 1 q.2.1=c;generalize ru q o 1 q.2.2=d;omega
theorem Ti (aB:p.1.length≤1000) (ao:o.length≤12):∃ l,KP p o=some (if rU p o=0 then (l,0) else ([],rU p o))∧(rU p o=0→l.length=HY p o 0+HY p o 1∧Hz p.1.length l 0∧q_ (r3 l p.1,p.2) o=0):=by
 unfold KP;rw [PX aB ao,sc];by_cases r6:rU p o=0
 ·rw [if_pos r6];obtain ⟨h,k⟩:=Ln.1 r6;obtain ⟨cu,f_,g6⟩:=ZQ h k (a:=0) (by omega);obtain ⟨l1,e1,a7⟩:=ZQ h k (a:=1) (by omega);have acI:KY (p,()) o 0=some cu:=f_;have acJ:KY (p,()) o 1=some l1:=e1;have db:=Mb p o 0;have bl:=Mb p o 1;have aj8:=g6.len;have n1:=a7.len;have J6:=h.len;simp only;rw [acI,sc,acJ,sc,qw (by omega)];refine ⟨Hf (cu++l1),by rw [if_pos r6],fun _=>?_⟩;have nO:∀ c∈cu++l1,q2 c.2∧0≤c.1∧c.1<(p.1.length:Int):=by
   intro c ak;rcases sU.1 ak with ak | ak
   ·obtain ⟨aJ,i,aN,_,hn⟩:=g6.own c ak;rw [hn];exact ⟨aJ,rX k i aN⟩
   ·obtain ⟨aJ,i,aN,_,hn⟩:=a7.own c ak;rw [hn];exact ⟨aJ,rX k i aN⟩
  obtain ⟨s1,s2⟩:=ahC (S:=cu++l1) fun c ak=>by have:=nO c ak;omega
  have adv:∀ c∈cu,∀ dR∈l1,c.1≠dR.1:=by
   intro c ak dR J5 e;obtain ⟨_,i,aN,b',hn⟩:=g6.own c ak;obtain ⟨_,j,c_,j1,k2⟩:=a7.own dR J5;have:=Ll k.2.1 aN c_ (by rw [←hn,←k2];exact e);omega
  have jS:((Hf (cu++l1)).map (·.1)).Nodup:=by
   refine ((s1.map (·.1)).nodup_iff).2 ?_;rw [sR,tZ];refine ⟨g6.W3,a7.W3,fun x aj y aY e=>?_⟩;obtain ⟨c,ak,rfl⟩:=sH.1 aj;obtain ⟨dR,J5,rfl⟩:=sH.1 aY;exact adv c ak dR J5 e
  have RN:Hz p.1.length (Hf (cu++l1)) 0:=by
   (refine W_ ?_ fun c ak=>by have:=nO c (s1.mem_iff.1 ak);exact ⟨this.2.1,this.2.2,this.1⟩);have adK:=List.pairwise_map.1 jS;exact (s2.and adK).imp fun h=>by omega
  refine ⟨by rw [YV,sD];omega,RN,?_⟩;rw [acB];have pY:∀ i:Nat,i<o.length→(∀ c∈Hf (cu++l1),c.1≠ix o (i:Int))→qO (r3 (Hf (cu++l1)) p.1) o i=qO p.1 o i:=fun i hi ak =>
   S4 RN (sY _) rfl (rX k i hi).1 ak
  have hc:∀ i:Nat,∀ c∈Hf (cu++l1),c.1=ix o (i:Int)→qO (r3 (Hf (cu++l1)) p.1) o i=c.2:=fun i c ak e=>by
   have:=YL RN (sY _) (S:=p.1) rfl ak;rw [e] at this;exact this
  have f0:=g6.flat (r3 (Hf (cu++l1)) p.1) fun i hi a_=>⟨fun c ak=>hc i c (s1.mem_iff.2 (sU.2 (.inl ak))),fun fp=>pY i hi fun c ak=>by
   rcases sU.1 (s1.mem_iff.1 ak) with ak | ak
   ·exact fp c ak
   ·obtain ⟨_,j,c_,j1,k2⟩:=a7.own c ak;intro e;have:=Ll k.2.1 c_ hi (by rw [←k2];exact e)
    omega⟩
  have f1:=a7.flat (r3 (Hf (cu++l1)) p.1) fun i hi a_=>⟨fun c ak=>hc i c (s1.mem_iff.2 (sU.2 (.inr ak))),fun fp=>pY i hi fun c ak=>by
   rcases sU.1 (s1.mem_iff.1 ak) with ak | ak
   ·obtain ⟨_,j,c_,j1,k2⟩:=g6.own c ak;intro e;have:=Ll k.2.1 c_ hi (by rw [←k2];exact e);omega
   ·exact fp c ak⟩
  exact ⟨⟨f0 _ (.inl rfl),f0 _ (.inr rfl)⟩,f1 _ (.inl rfl),f1 _ (.inr rfl)⟩
 ·rw [if_neg r6];simp only;rw [if_pos (by simpa using r6)];exact ⟨[],by rw [if_neg r6],fun h=>absurd h r6⟩
end
end Go.Proofs.YtkoioidpbbbaiaaGreat.Ab


namespace Go.Proofs.YtkoioidpbbbaiaaGreat.Ab
open Go
set_option maxRecDepth 20000
set_option maxHeartbeats 4000000
noncomputable def Qe:gB :=
 .loop (some (qb false [0,1,2,2,10])) (.seq (p5 [p6 5 4,p6 6 0,qp 7 5 6 .lss] (.cond (.m_ 7) .skip (.exit 0))) (.seq (.block 1 (qE [p4 10 3,p6 11 4,p3 12 [.Bs 11] (.yB 1 1 [.int .i64 0] [0]),p3 13 [.jm 10,.jm 12] (.app 1 8),p4 3 13])) (qE [p4 8 4,qV 9 8 1,p4 4 9])))
noncomputable def aam:gB :=
 p5 [p3 2 [.cv (.av [] 0 .full)] (.nil 1)] (p5 [p3 3 [.cv (.av [] 0 .full)] (.nil 1)] (.seq (p5 [qg 4 0] (.block 0 Qe)) (p5 [p4 14 3,p4 2 14] .ret)))
theorem aeZ:qt Tryz.prog QM 32=some (aam,15,[.tmp 2]):=by kernel_rfl
def LK (Jl:Int) (qc:qa→Option qa):Nat→qa→Int→Option qa
 | 0,_,_=>none
 | m+1,s1,s2 =>
   if (decide (s2<Jl))=true then
    qq ((s1.length+1)*8≤140737488355328) <|
    LK Jl qc m (s1++[s2]) (w (s2+(1:Int)))
   else
    qc s1
def MT (Jl:Int):Option qa :=
 LK Jl (fun yn =>
   some yn) qh ([]:List Int) (0:Int)
theorem aiC {Jl:Int} {qc:qa→Option qa} {s1:qa} {s2:Int} {v:qa} {Q:rR}   (q':∀ (yn:qa) (qe:List I),qc yn=some v→rk 15 [(3,(qy yn (.uniq 1)))] qe→Q (.exit 0) qe []) {T:List I} (bZ:eW (qb false [0,1,2,2,10]) T=qf 15 [(0,(hX Jl)),(3,(qy s1 (.uniq 1))),(4,(hX s2))]) (h:LK Jl qc qh s1 s2=some v) :
  dN Tryz.prog QM 32 0 none Qe T [] Q:=by
 unfold Qe;refine wp_loop bZ ?_;refine .intro (fun m T H=>∃ (s1:qa) (s2:Int),T=qf 15 [(0,(hX Jl)),(3,(qy s1 (.uniq 1))),(4,(hX s2))]∧H=[]∧LK Jl qc m s1 s2=some v) qh ⟨s1,s2,rfl,rfl,h⟩ ?_;clear h bZ;rintro m T H ⟨s1,s2,rfl,rfl,h⟩;cases m
 ·exact rz h
 rename_i m;rw [LK.eq_2] at h;conv=>whnf
 refine bs h (fun gJ h=>?_) fun gJ h=>?_
 ·rw [gJ];conv=>whnf
  obtain ⟨gK,h⟩:=rV h;refine ⟨by first | rfl | simp,by have:=gK;omega,rfl,gK,?_⟩
  erw [L6 hX s1 s2];conv=>whnf
  exact ⟨m,sg m,(s1++[s2]),(w (s2+(1:Int))),rfl,rfl,h⟩
 ·rw [gJ];conv=>whnf
  exact q' _ _ h ⟨rfl,rfl⟩
theorem Tn {Jl:Int} {v:qa} (h:MT Jl=some v):qv 32 [(hX Jl)] (.av (v.map hX) v.length .shared):=by
 refine qN eD aeZ rfl (rL (fun _=>rfl) _ _ _) fun Q bo=>?_;have jG:qK [.tmp 2] Q (fun v=>(qy v .shared)) v:=fun T H bD=>bo _ T H bD;unfold MT at h;unfold aam;obtain ⟨r9,qC⟩:∃ c,Qe=c:=⟨_,rfl⟩;rw [qC];conv=>whnf
 subst qC;refine aiC ?_ (by exact rfl) h;intro yn qe h qz;obtain ⟨rq,rfl⟩:=qz.ex;conv=>whnf
 exact qd h jG rfl rfl

noncomputable def Qj:gB :=
 .loop (some (qb false [0,1,2,4,74])) (.seq (p5 [p6 29 6,p6 30 3,qp 31 29 30 .lss] (.cond (.m_ 31) .skip (.exit 2))) (.seq (.block 3 (.seq (rh [p6 34 0,p6 35 6,rm 36 34 35 1,ql 37 36,p6 38 0,p6 39 4,rm 40 38 39 1,ql 41 40,qp 42 37 41 .gtr,p4 43 42,ch 44 [.m_ 5] 43 true .mR,ch 45 [.Bs 44,.cv (.int .i64 0)] 43 true (.bin .lss),ch 46 [.jm 45] 43 true .mR,ch 47 [.m_ 0] 46 false .mR,ch 48 [.m_ 6] 46 false .mR,ch 49 [.Bs 47,.Bs 48] 46 false (.kV 1),ch 50 [.Bs 49] 46 false (.zE .one),ch 51 [.m_ 5] 46 false .mR,ch 52 [.Bs 50,.Bs 51] 46 false (.bin .lss),ch 53 [.m_ 46,.cv (.bool true),.Bs 52] 43 true .pick,p3 54 [.m_ 43,.Bs 53,.cv (.bool false)] .pick]) (.cond (.m_ 54) (qE [p6 55 0,p6 56 6,rm 57 55 56 1,ql 58 57,p4 5 58]) .skip))) (qE [p4 32 6,qV 33 32 1,p4 6 33])))
noncomputable def Qk:gB :=
 .loop (some (qb false [3,1,3,2,72])) (.seq (p5 [p6 67 8,p6 68 3,qp 69 67 68 .lss] (.cond (.m_ 69) .skip (.exit 4))) (.seq (.block 5 (p5 [p6 72 7,p6 73 8,p3 74 [.cv (.func 72 [] []),.m_ 72,.m_ 73] (.call 3),p3 75 [.Bs 74] (.un .not)] (.cond (.m_ 75) (qE [p4 76 7,p6 77 8,p3 78 [.Bs 77] (.yB 1 1 [.int .i64 0] [0]),p3 79 [.jm 76,.jm 78] (.app 1 8),p4 7 79]) .skip))) (qE [p4 70 8,qV 71 70 1,p4 8 71])))
noncomputable def Ql:gB :=
 .loop (some (qb false [0,1,2,2,76])) (.seq (p5 [p6 13 4,qu 14 13 0 .geq] (.cond (.m_ 14) .skip (.exit 0))) (.seq (.block 1 (.seq (.seq (rh [p6 17 0,p6 18 4,rm 19 17 18 1,ql 20 19,p6 21 0,p6 22 4,qV 23 22 1,rm 24 21 23 1,ql 25 24,qp 26 20 25 .gtr]) (.cond (.m_ 26) (.exit 1) .skip)) (p5 [qg 5 (-1)] (.seq (p5 [p6 27 4,qV 28 27 1,p4 6 28] (.block 2 Qj)) (p5 [p3 59 [] (.yB 0 1 [.int .i64 0] []),p4 60 0,p4 61 4,p3 62 [.jm 60,.jm 61] (.Bh 1 false true false),p3 63 [.jm 59,.jm 62] (.app 1 8),p4 64 5,p3 65 [.Bs 64] (.yB 1 1 [.int .i64 0] [0]),p3 66 [.jm 63,.jm 65] (.app 1 8),p4 7 66] (.seq (p5 [qg 8 0] (.block 4 Qk)) (p5 [p4 80 7,p4 2 80] .ret))))))) (qE [p4 15 4,qu 16 15 1 .sub,p4 4 16])))
noncomputable def aaz:gB :=
 p5 [p3 2 [.cv (.av [] 0 .full)] (.nil 1)] (p5 [p6 9 0,qZ 10 9,p4 3 10] (.seq (p5 [p6 11 3,qu 12 11 2 .sub,p4 4 12] (.block 0 Ql)) (p5 [p3 2 [.cv (.av [] 0 .full)] (.nil 1)] .ret)))
theorem afb:qt Tryz.prog Nb 48=some (aaz,81,[.tmp 2]):=by kernel_rfl
def JL (order:qa) (s1:Int) (qT:Int→Option qa):Nat→Int→Int→Option qa
 | 0,_,_=>none
 | m+1,s2,dh =>
   if (decide (dh<(order.length:Int)))=true then
    qq (0≤dh∧dh<(order.length:Int)) <|
    qq (0≤s1∧s1<(order.length:Int)) <|
    if (decide ((ix order s1)<(ix order dh)))=true then
     if (decide (s2<(0:Int)))=true then
      qq (0≤dh∧dh<(order.length:Int)) <|
      JL order s1 qT m (ix order dh) (w (dh+(1:Int)))
     else
      qq (0≤dh∧dh<(order.length:Int)) <|
      if (decide ((ix order dh)<s2))=true then
       qq (0≤dh∧dh<(order.length:Int)) <|
       JL order s1 qT m (ix order dh) (w (dh+(1:Int)))
      else
       JL order s1 qT m s2 (w (dh+(1:Int)))
    else
     JL order s1 qT m s2 (w (dh+(1:Int)))
   else
    qT s2
def Kk (order:qa) (sa:qa→Option qa):Nat→qa→Int→Option qa
 | 0,_,_=>none
 | m+1,G',rA =>
   if (decide (rA<(order.length:Int)))=true then
    (M3 G' rA).bind fun aS =>
    if aS=true then
     Kk order sa m G' (w (rA+(1:Int)))
    else
     qq ((G'.length+1)*8≤140737488355328) <|
     Kk order sa m (G'++[rA]) (w (rA+(1:Int)))
   else
    sa G'
def KU (order:qa) (qc:Unit→Option qa):Nat→Int→Option qa
 | 0,_=>none
 | m+1,s1 =>
   if (decide ((0:Int)≤s1))=true then
    qq (0≤s1∧s1<(order.length:Int)) <|
    qq (0≤(w (s1+(1:Int)))∧(w (s1+(1:Int)))<(order.length:Int)) <|
    if (decide ((ix order (w (s1+(1:Int))))<(ix order s1)))=true then
     KU order qc m (w (s1-(1:Int)))
    else
     JL order s1 (fun yn =>
       qq (0≤s1∧s1≤(order.length:Int)) <|
       qq ((([]:List Int).length+(order.take s1.toNat).length)*8≤140737488355328) <|
       qq (((([]:List Int)++(order.take s1.toNat)).length+1)*8≤140737488355328) <|
       Kk order (fun oS =>
         some oS) qh ((([]:List Int)++(order.take s1.toNat))++[yn]) (0:Int)) qh (-1:Int) (w (s1+(1:Int)))
   else
    qc ()
def Ih (order:qa):Option qa :=
 KU order (fun _ =>
   some []) qh (w ((order.length:Int)-(2:Int)))
theorem aiZ {order:qa} {s1:Int} {qT:Int→Option qa} {s2:Int} {dh:Int} {v:qa} {Q:rR}   (I3:∀ (yn:Int) (qe:List I),qT yn=some v→rk 81 [(0,(qy order .shared)),(3,(hX (order.length:Int))),(4,(hX s1)),(5,(hX yn))] qe→Q (.exit 2) qe []) {T:List I} (bZ:eW (qb false [0,1,2,4,74]) T=qf 81 [(0,(qy order .shared)),(3,(hX (order.length:Int))),(4,(hX s1)),(5,(hX s2)),(6,(hX dh))]) (h:JL order s1 qT qh s2 dh=some v) :
  dN Tryz.prog Nb 48 0 none Qj T [] Q:=by
 unfold Qj;refine wp_loop bZ ?_;refine .intro (fun m T H=>∃ (s2 dh:Int),T=qf 81 [(0,(qy order .shared)),(3,(hX (order.length:Int))),(4,(hX s1)),(5,(hX s2)),(6,(hX dh))]∧H=[]∧JL order s1 qT m s2 dh=some v) qh ⟨s2,dh,rfl,rfl,h⟩ ?_;clear h bZ;rintro m T H ⟨s2,dh,rfl,rfl,h⟩;cases m
 ·exact rz h
 rename_i m;rw [JL.eq_2] at h;conv=>whnf
 refine bs h (fun qW h=>?_) fun qW h=>?_
 ·rw [qW];conv=>whnf
  refine qD h id fun q8 h=>?_;rw [ri hX order dh q8];conv=>whnf
  refine qD h id fun qR h=>?_;rw [ri hX order s1 qR];conv=>whnf
  refine bs h (fun rb h=>?_) fun rb h=>?_
  ·rw [rb];(conv=>whnf);refine bs h (fun q9 h=>?_) fun q9 h=>?_
   ·rw [q9];(conv=>whnf);refine qD h id fun rv h=>?_;rw [ri hX order dh rv];(conv=>whnf);exact ⟨m,sg m,(ix order dh),(w (dh+(1:Int))),rfl,rfl,h⟩
   ·rw [q9];(conv=>whnf);refine qD h id fun Hi h=>?_;rw [ri hX order dh Hi];(conv=>whnf);refine bs h (fun Hp h=>?_) fun Hp h=>?_
    ·rw [Hp];(conv=>whnf);refine qD h id fun Hv h=>?_;rw [ri hX order dh Hv];(conv=>whnf);exact ⟨m,sg m,(ix order dh),(w (dh+(1:Int))),rfl,rfl,h⟩
    ·rw [Hp];(conv=>whnf);exact ⟨m,sg m,s2,(w (dh+(1:Int))),rfl,rfl,h⟩
  ·rw [rb];(conv=>whnf);exact ⟨m,sg m,s2,(w (dh+(1:Int))),rfl,rfl,h⟩
 ·rw [qW];conv=>whnf
  exact I3 _ _ h ⟨rfl,rfl⟩
theorem ai0 {order:qa} {sa:qa→Option qa} {G':qa} {rA:Int} {v:qa} {Q:rR}   {Kv:hB} (NA:∀ (oS:qa) (qe:List I),sa oS=some v→rk 81 [(7,(qy oS (.uniq 1)))] qe→Q (.exit 4) qe []) (adG:∀ (oS:qa) (qe:List I),sa oS=some v→rk 81 [(7,(qy oS (.own 1)))] qe→Q (.exit 4) qe []) (RE:(Kv=(.uniq 1)∨Kv=(.own 1))) {T:List I} (bZ:eW (qb false [3,1,3,2,72]) T=qf 81 [(3,(hX (order.length:Int))),(7,(.av (G'.map hX) G'.length Kv)),(8,(hX rA))]) (h:Kk order sa qh G' rA=some v) :
  dN Tryz.prog Nb 48 0 none Qk T [] Q:=by
 unfold Qk;refine wp_loop bZ ?_;refine .intro (fun m T H=>∃ (G':qa) (rA:Int) (Kv:hB),(Kv=(.uniq 1)∨Kv=(.own 1))∧T=qf 81 [(3,(hX (order.length:Int))),(7,(.av (G'.map hX) G'.length Kv)),(8,(hX rA))]∧H=[]∧Kk order sa m G' rA=some v) qh ⟨G',rA,_,RE,rfl,rfl,h⟩ ?_;clear h bZ;rintro m T H ⟨G',rA,Kv,RE,rfl,rfl,h⟩;cases m
 ·exact rz h
 rename_i m;rw [Kk.eq_2] at h;rcases RE with rfl | rfl
 ·conv=>whnf
  refine bs h (fun Ip h=>?_) fun Ip h=>?_
  ·rw [Ip];(conv=>whnf);obtain ⟨aS,Jh,h⟩:=p' h;refine ⟨qi.pl,_,TD Jh,?_⟩;(conv=>whnf);cases aS
   ·(conv=>whnf);replace h:=rp rfl h;obtain ⟨IA,h⟩:=rV h;refine ⟨by first | rfl | simp,by have:=IA;omega,rfl,IA,?_⟩
    erw [L6 hX G' rA];(conv=>whnf);exact ⟨m,sg m,(G'++[rA]),(w (rA+(1:Int))),_,(.inr rfl),rfl,rfl,h⟩
   ·(conv=>whnf);replace h:=rn rfl h;exact ⟨m,sg m,G',(w (rA+(1:Int))),_,(.inr rfl),rfl,rfl,h⟩
  ·rw [Ip];(conv=>whnf);exact NA _ _ h ⟨rfl,rfl⟩
 ·conv=>whnf
  refine bs h (fun Ip h=>?_) fun Ip h=>?_
  ·rw [Ip];(conv=>whnf);obtain ⟨aS,Jh,h⟩:=p' h;refine ⟨qi.pl,_,TD Jh,?_⟩;(conv=>whnf);cases aS
   ·(conv=>whnf);replace h:=rp rfl h;obtain ⟨IA,h⟩:=rV h;refine ⟨by first | rfl | simp,by have:=IA;omega,rfl,IA,?_⟩
    erw [L6 hX G' rA];(conv=>whnf);exact ⟨m,sg m,(G'++[rA]),(w (rA+(1:Int))),_,(.inr rfl),rfl,rfl,h⟩
   ·(conv=>whnf);replace h:=rn rfl h;exact ⟨m,sg m,G',(w (rA+(1:Int))),_,(.inr rfl),rfl,rfl,h⟩
  ·rw [Ip];(conv=>whnf);exact adG _ _ h ⟨rfl,rfl⟩
theorem aiY {order:qa} {qc:Unit→Option qa} {s1:Int} {v:qa} {Q:rR}   (jG:qK [.tmp 2] Q (fun v=>(qy v .shared)) v) (q':∀ (qe:List I),qc ()=some v→rk 81 [] qe→Q (.exit 0) qe []) {T:List I} (bZ:eW (qb false [0,1,2,2,76]) T=qf 81 [(0,(qy order .shared)),(3,(hX (order.length:Int))),(4,(hX s1))]) (h:KU order qc qh s1=some v) :
  dN Tryz.prog Nb 48 0 none Ql T [] Q:=by
 unfold Ql;obtain ⟨r9,qC⟩:∃ c,Qj=c:=⟨_,rfl⟩;rw [qC];obtain ⟨J2,rN⟩:∃ c,Qk=c:=⟨_,rfl⟩;rw [rN];refine wp_loop bZ ?_;refine .intro (fun m T H=>∃ (s1:Int),T=qf 81 [(0,(qy order .shared)),(3,(hX (order.length:Int))),(4,(hX s1))]∧H=[]∧KU order qc m s1=some v) qh ⟨s1,rfl,rfl,h⟩ ?_;clear h bZ;rintro m T H ⟨s1,rfl,rfl,h⟩;cases m
 ·exact rz h
 rename_i m;rw [KU.eq_2] at h;conv=>whnf
 refine bs h (fun gJ h=>?_) fun gJ h=>?_
 ·rw [gJ];conv=>whnf
  refine qD h id fun gK h=>?_;rw [ri hX order s1 gK];conv=>whnf
  refine qD h id fun qs h=>?_;rw [ri hX order (w (s1+(1:Int))) qs];conv=>whnf
  refine bs h (fun qG h=>?_) fun qG h=>?_
  ·rw [qG];(conv=>whnf);exact ⟨m,sg m,(w (s1-(1:Int))),rfl,rfl,h⟩
  ·rw [qG];(conv=>whnf);subst qC;refine aiZ ?_ (by exact rfl) h;intro yn qe h qz;obtain ⟨rq,rfl⟩:=qz.ex;(conv=>whnf);refine qD h id fun HZ h=>?_;erw [YS hX order s1 HZ];(conv=>whnf);obtain ⟨HH,h⟩:=rV h;refine ⟨by first | rfl | simp,by have:=HH;omega,rfl,HH,?_⟩
   erw [abL hX ([]:List Int) (order.take s1.toNat)];(conv=>whnf);obtain ⟨Jg,h⟩:=rV h;refine ⟨by first | rfl | simp,by have:=Jg;omega,rfl,Jg,?_⟩
   erw [L6 hX (([]:List Int)++(order.take s1.toNat)) yn];(conv=>whnf);subst rN;refine ai0 ?_ ?_ (.inl rfl) (by exact rfl) h
   ·intro oS qe h qz;obtain ⟨rq,rfl⟩:=qz.ex;(conv=>whnf);exact qd h jG rfl rfl
   ·intro oS qe h qz;obtain ⟨rq,rfl⟩:=qz.ex;(conv=>whnf);exact qd h jG rfl rfl
 ·rw [gJ];conv=>whnf
  exact q'  _ h ⟨rfl,rfl⟩
theorem MX {order:qa} {v:qa} (h:Ih order=some v):qv 48 [(.av (order.map hX) order.length .shared)] (.av (v.map hX) v.length .shared):=by
 refine qN eD afb rfl (rL (fun _=>rfl) _ _ _) fun Q bo=>?_;have jG:qK [.tmp 2] Q (fun v=>(qy v .shared)) v:=fun T H bD=>bo _ T H bD;unfold Ih at h;unfold aaz;obtain ⟨Q4,Jw⟩:∃ c,Ql=c:=⟨_,rfl⟩;rw [Jw];conv=>whnf
 subst Jw;refine aiY ?_ ?_ (by exact rfl) h
 ·exact fun T H bD=>jG T H bD
 ·intro  qe h qz;obtain ⟨rq,rfl⟩:=qz.ex;conv=>whnf
  exact qd h jG rfl rfl
end Go.Proofs.YtkoioidpbbbaiaaGreat.Ab


namespace Go.Proofs.YtkoioidpbbbaiaaGreat.Ab
open Go
set_option maxRecDepth 20000
set_option maxHeartbeats 1000000
theorem Y_ (n:Nat):qo (n+1)=qo n++[(n:Int)]:=by simp [qo,vm]
theorem Ta (n:Nat):(qo n).length=n:=by simp [qo]
theorem Wk {n:Nat} (aI:n≤1000):∀ (m i:Nat),i≤n→n-i<m→LK (n:Int) (fun z=>some z) m (qo i) (i:Int)=some (qo n)
 | 0,_,_,h=>absurd h (by omega)
 | m+1,i,hi,hm=>by
   rw [LK];by_cases aR:i<n
   ·rw [if_pos (decide_eq_true (by omega)),qw (by rw [Ta];omega),Hq i (by omega),←Y_];exact Wk aI m (i+1) (by omega) (by omega)
   ·(obtain rfl:i=n:=by omega);rw [if_neg (by simp)]
theorem Tm {n:Nat} (aI:n≤1000):MT (n:Int)=some (qo n):=Wk aI qh 0 (by omega) (r5 (by omega))
def Hx (n:Nat) (pre:List Int):List Int:=(qo n).filter fun x=>decide (x ∉ pre)
theorem RZ (n:Nat) (pre:List Int):(Hx n pre).Pairwise (·<·):=(PH n).filter _
theorem WH (n:Nat) (pre:List Int) (y:Int):(Hx n pre).erase y=Hx n (pre++[y]):=by
 rw [(S1 (RZ n pre)).erase_eq_filter];unfold Hx;rw [List.filter_filter];refine uq fun x _=>?_;simp only [sU,sK,bne];by_cases ab:x=y
 ·subst ab;simp
 ·by_cases ae:x∈pre <;> simp [ab,ae]
theorem W5 {n:Nat}:∀ (q pre t r:List Int),I6 (Hx n (pre++q)) t=some r→I6 (Hx n pre) (q++t)=some (q++r)
 | [],pre,t,r,h=>by simpa using h
 | a::q,pre,t,r,h=>by
   have:=W5 q (pre++[a]) t r (by simpa using h)
   show (match I6 ((Hx n pre).erase a) (q++t) with
    | some r'=>some (a::r')
    | none=>match (Hx n pre).find? (fun y=>decide (a<y)) with
      | some y=>some (y::(Hx n pre).erase y)
      | none=>none)=_
   rw [WH,this];rfl
theorem R8:∀ (s left:List Int),s.Pairwise (· > ·)→s.Perm left→I6 left s=none
 | [],left,_,_=>rfl
 | x::r,left,a1,aB=>by
   obtain ⟨ab,ae⟩:=th.1 a1;have jW:r.Perm (left.erase x):=by
    have:=aB.erase x;simpa using this
   show (match I6 (left.erase x) r with
    | some r'=>some (x::r')
    | none=>match left.find? (fun y=>decide (x<y)) with
      | some y=>some (y::left.erase y)
      | none=>none)=_
   rw [R8 r _ ae jW]
   have:left.find? (fun y=>decide (x<y))=none:=by
    rw [List.find?_eq_none];intro y aY;rcases sy.1 (aB.mem_iff.2 aY) with rfl | aY
    ·simp
    ·have:=ab y aY;simp;omega
   rw [this]
def Mm (x:Int) (l:List Int) (y:Int):Prop:=y∈l∧x<y∧∀ z∈l,x<z→y≤z
theorem aeH {x:Int} {l:List Int} (ao:l.Pairwise (·<·)) {y:Int} (h:Mm x l y):l.find? (fun y=>decide (x<y))=some y:=by
 induction l with
 | nil=>exact absurd h.1 (by simp)
 | cons a l a8 =>
   obtain ⟨ab,ae⟩:=th.1 ao;by_cases O7:x<a
   ·rw [List.find?_cons_of_pos (by simpa using O7)];rcases sy.1 h.1 with e | aY
    ·rw [e]
    ·have:=h.2.2 a (by simp) O7;have:=ab y aY;omega
   ·rw [List.find?_cons_of_neg (by simpa using O7)];refine a8 ae ⟨?_,h.2.1,fun z bj=>h.2.2 z (by simp [bj])⟩;rcases sy.1 h.1 with e | aY
    ·subst e;exact absurd h.2.1 O7
    ·exact aY
theorem afO {x y:Int} {r L:List Int} (fm:L.Pairwise (·<·)) (aB:(x::r).Perm L) (a1:r.Pairwise (· > ·)) (aY:Mm x r y):I6 L (x::r)=some (y::L.erase y):=by
 have jW:r.Perm (L.erase x):=by
  have:=aB.erase x;simpa using this
 show (match I6 (L.erase x) r with
  | some r'=>some (x::r')
  | none=>match L.find? (fun y=>decide (x<y)) with
    | some y=>some (y::L.erase y)
    | none=>none)=_
 rw [R8 r _ a1 jW,aeH fm ⟨aB.mem_iff.1 (by simp [aY.1]),aY.2.1,fun z bj JA=>?_⟩];rcases sy.1 (aB.mem_iff.2 bj) with rfl | bj
 ·omega
 ·exact aY.2.2 z bj JA
theorem W4:∀ {a b:List Int},a.Nodup→(∀ x∈a,x∈b)→a.length≤b.length
 | [],b,_,_=>by simp
 | x::a,b,aI,ah=>by
   have aj:x∈b:=ah x (by simp);obtain ⟨ab,ae⟩:=tU.1 aI;have:=W4 (b:=b.erase x) ae fun y aY=>(List.mem_erase_of_ne (fun e=>ab (by rw [←e];exact aY))).2 (ah y (by simp [aY]));rw [tR aj] at this
   have:0<b.length:=List.length_pos_of_mem aj
   simp;omega
section
variable {o:List Int}
theorem Wt (ao:o.length≤1000) {i:Nat} (hi:i<o.length) (zc:∀ x∈o,0≤x) {kl:Int→Option (List Int)}:∀ (m k:Nat) (s:Int),i<k→k≤o.length→o.length-k<m →
  ((s=-1∧∀ z∈(o.take k).drop (i+1),¬ ix o (i:Int)<z)∨Mm (ix o (i:Int)) ((o.take k).drop (i+1)) s)→(∃ z∈o.drop (i+1),ix o (i:Int)<z) →
  ∃ y,Mm (ix o (i:Int)) (o.drop (i+1)) y∧JL o (i:Int) kl m s (k:Int)=kl y
 | 0,_,_,_,_,h,_,_=>absurd h (by omega)
 | m+1,k,s,hK,al,hm,ah,hex=>by
   rw [JL];by_cases aR:k<o.length
   ·rw [if_pos (decide_eq_true (by omega)),qw (by omega),qw (by omega),Hq k (by omega)];have iK:(o.take (k+1)).drop (i+1)=(o.take k).drop (i+1)++[ix o (k:Int)]:=by
     rw [uP aR,List.drop_append_of_le_length (by rw [s9];omega),rH aR]
    have aQ:0≤ix o (k:Int):=zc _ (J8 (by omega));have jS:∀ (aD:Int),(((aD=-1∧∀ z∈(o.take (k+1)).drop (i+1),¬ ix o (i:Int)<z)∨Mm (ix o (i:Int)) ((o.take (k+1)).drop (i+1)) aD))→∃ y,Mm (ix o (i:Int)) (o.drop (i+1)) y∧JL o (i:Int) kl m aD ((k+1:Nat):Int)=kl y :=
     fun aD aX=>Wt ao hi zc m (k+1) aD (by omega) (by omega) (by omega) aX hex
    by_cases aO:ix o (i:Int)<ix o (k:Int)
    ·rw [if_pos (decide_eq_true aO)];rcases ah with ⟨rfl,ah⟩ | ah
     ·rw [if_pos (by decide),qw (by omega)];refine jS _ (.inr ?_);rw [iK];refine ⟨by simp,aO,fun z bj JA=>?_⟩;rcases sU.1 bj with bj | bj
      ·exact absurd JA (ah z bj)
      ·rw [sK] at bj;omega
     ·have aj5:0≤s:=zc s (List.mem_of_mem_take (uC ah.1));rw [if_neg (by simpa using by omega),qw (by omega)];by_cases af:ix o (k:Int)<s
      ·rw [if_pos (decide_eq_true af),qw (by omega)];refine jS _ (.inr ?_);rw [iK];refine ⟨by simp,aO,fun z bj JA=>?_⟩;rcases sU.1 bj with bj | bj
       ·have:=ah.2.2 z bj JA;omega
       ·rw [sK] at bj;omega
      ·rw [if_neg (by simpa using by omega)];refine jS _ (.inr ?_);rw [iK];refine ⟨by simp [ah.1],ah.2.1,fun z bj JA=>?_⟩;rcases sU.1 bj with bj | bj
       ·exact ah.2.2 z bj JA
       ·rw [sK] at bj;omega
    ·rw [if_neg (by simpa using by omega)];refine jS _ ?_;rw [iK];rcases ah with ⟨rfl,ah⟩ | ah
     ·refine .inl ⟨rfl,fun z bj=>?_⟩;rcases sU.1 bj with bj | bj
      ·exact ah z bj
      ·rw [sK] at bj;omega
     ·refine .inr ⟨by simp [ah.1],ah.2.1,fun z bj JA=>?_⟩;rcases sU.1 bj with bj | bj
      ·exact ah.2.2 z bj JA
      ·rw [sK] at bj;omega
   ·(obtain rfl:k=o.length:=by omega);rw [if_neg (by simp)];rw [List.take_length] at ah;rcases ah with ⟨_,ah⟩ | ah
    ·obtain ⟨z,bj,JA⟩:=hex;exact absurd JA (ah z bj)
    ·exact ⟨s,ah,rfl⟩
theorem Ws (ao:o.length≤100) {q:List Int} (a_:q.length≤200):∀ (m i:Nat),i≤o.length→o.length-i<m →
  Kk o (fun z=>some z) m (q++Hx i q) (i:Int)=some (q++Hx o.length q)
 | 0,_,_,h=>absurd h (by omega)
 | m+1,i,hi,hm=>by
   rw [Kk];have GV:(Hx i q).length≤i:=by
    have:=uS (fun x=>decide (x ∉ q)) (qo i);rw [Ta] at this;exact this
   by_cases aR:i<o.length
   ·rw [if_pos (decide_eq_true (by omega)),Z1 (by rw [sD];omega),sc,Hq i (by omega)];have adM:(i:Int) ∉ Hx i q:=fun h=>by
     have:=NI.1 (tc.1 h).1;omega
    have a8:=Ws ao a_ m (i+1) (by omega) (by omega);have e1:Hx (i+1) q=Hx i q++if (i:Int)∈q then [] else [(i:Int)]:=by
     unfold Hx;rw [Y_,tE];by_cases h:(i:Int)∈q <;> simp [h]
    rw [e1] at a8;by_cases h:(i:Int)∈q
    ·rw [if_pos (by simp [h])];rw [if_pos h,sM] at a8;exact a8
    ·rw [if_neg (by simp [h,adM]),qw (by rw [sD];omega),sC];rw [if_neg h] at a8;exact a8
   ·(obtain rfl:i=o.length:=by omega);rw [if_neg (by simp)]
theorem Wr (al:qA o.length o) (ao:o.length≤100):∀ (m i:Nat),i<o.length→i<m→(o.drop i).Pairwise (· > ·) →
  KU o (fun _=>some []) m ((i:Int)-1)=some ((I6 (qo o.length) o).getD [])
 | 0,_,_,h,_=>absurd h (by omega)
 | m+1,0,hi,hm,a1=>by
   rw [KU,if_neg (by decide)];rw [tu] at a1;rw [R8 o _ a1 (Lm.1 al)];rfl
 | m+1,i+1,hi,hm,a1=>by
   rw [KU,show ((i+1:Nat):Int)-1=(i:Int) by omega,if_pos (decide_eq_true (by omega)),qw (by omega),Hq i (by omega),qw (by omega)];by_cases ak:ix o ((i+1:Nat):Int)<ix o (i:Int)
   ·rw [if_pos (decide_eq_true ak),qF (by omega)];refine Wr al ao m i (by omega) (by omega) ?_;rw [sV (by omega),th];refine ⟨fun z bj=>?_,a1⟩;rw [rH hi,rH (by omega)] at ak;rw [sV hi] at bj a1;rcases sy.1 bj with rfl | bj
    ·exact ak
    ·have:=(th.1 a1).1 z bj;omega
   ·rw [if_neg (by rw [decide_eq_true_eq];exact ak)];have bI:ix o (i:Int)≠ix o ((i+1:Nat):Int):=by
     rw [rH (by omega),rH hi];exact vN.1 al.2.1 i (i+1) (by omega) hi (by omega)
    obtain ⟨y,aY,aj⟩:=Wt (by omega) (i:=i) (by omega) (fun x aj=>(al.2.2 x aj).1) (kl:=fun yn =>
       qq (0≤(i:Int)∧(i:Int)≤(o.length:Int)) <|
       qq ((([]:List Int).length+(o.take (i:Int).toNat).length)*8≤140737488355328) <|
       qq (((([]:List Int)++(o.take (i:Int).toNat)).length+1)*8≤140737488355328) <|
       Kk o (fun oS=>some oS) qh ((([]:List Int)++(o.take (i:Int).toNat))++[yn]) (0:Int)) qh (i+1) (-1) (by omega) (by omega) (r5 (by omega)) (.inl ⟨rfl,by
        rw [uR (by rw [s9];omega)];simp⟩) ⟨ix o ((i+1:Nat):Int),by rw [rH hi,sV hi];exact List.mem_cons_self,by omega⟩
    rw [aj,qw (by omega),qw (by simp;omega),qw (by simp;omega),List.nil_append,tD];have aF:=Ws (o:=o) ao (q:=o.take i++[y]) (by simp;omega) qh 0 (by omega) (r5 (by omega));have f_:Hx 0 (o.take i++[y])=[]:=rfl;rw [f_,sM] at aF;rw [show (0:Int)=((0:Nat):Int) from rfl,aF];have NB:o=o.take i++(ix o (i:Int)::o.drop (i+1)):=by
     rw [rH (by omega)];conv=>lhs;rw [←List.take_append_drop i o,sV (show i<o.length by omega)]
    have fm:(ix o (i:Int)::o.drop (i+1)).Perm (Hx o.length (o.take i)):=by
     refine R7 ?_ ?_ ?_
     ·have:=al.2.1;rw [NB] at this;exact (tZ.1 this).2.1
     ·intro z bj;unfold Hx;refine tc.2 ⟨NI.2 (al.2.2 z (by rw [NB];exact List.mem_append_right _ bj)),?_⟩;have:=al.2.1;rw [NB] at this;exact decide_eq_true fun nL=>(tZ.1 this).2.2 z nL z bj rfl
     ·refine W4 (S1 (RZ _ _)) fun z bj=>?_;obtain ⟨yn,oS⟩:=tc.1 bj;have Gz:z∈o:=(Lm.1 al).mem_iff.2 yn;rw [NB] at Gz;rcases sU.1 Gz with TR | TR
      ·exact absurd TR (of_decide_eq_true oS)
      ·exact TR
    have aI:=afO (RZ _ _) fm a1 aY;rw [WH] at aI;have:=W5 (n:=o.length) (o.take i) [] _ _ (by simpa using aI);rw [←NB] at this;(have e1:Hx o.length []=qo o.length:=by unfold Hx;simp);rw [e1] at this;rw [this];simp
theorem aiX (al:qA o.length o) (aQ:o≠[]) (ao:o.length≤100):Ih o=some ((I6 (qo o.length) o).getD []):=by
 have aB:0<o.length:=List.length_pos_iff.2 aQ;unfold Ih
 have:=Wr al ao qh (o.length-1) (by omega) (r5 (by omega)) (by
  rw [sV (by omega),show o.length-1+1=o.length by omega,List.drop_length]
  exact List.pairwise_singleton _ _)
 rw [qF (by omega),show (o.length:Int)-2=((o.length-1:Nat):Int)-1 by omega];exact this
end
theorem PZ {n:Nat} (aQ:0<n) (aI:n≤100) {j:Nat} (aw:j<(qU n (qo n)).length):Ih (qU n (qo n))[j]=some ((qU n (qo n))[j+1]?.getD []):=by
 have al:=W'.2 (tt aw);have ao:=al.1;rw [aiX (by rw [ao];exact al) (fun e=>by rw [e] at ao;simp at ao;omega) (by omega),ao,WG n _ (PH n) (by simp [qo])]
end Go.Proofs.YtkoioidpbbbaiaaGreat.Ab


namespace Go.Proofs.YtkoioidpbbbaiaaGreat.Ab
open Go
set_option maxRecDepth 20000
set_option maxHeartbeats 4000000
noncomputable def Yu:gB :=
 .ou false [p3 7 [.jm 18] .mR]
theorem aew:eu Tryz.prog JQ (rC Tryz.prog 16 0) 0=some Yu:=by kernel_rfl
noncomputable def Yy:gB :=
 .block 1 (.seq (.ou false [p3 19 [.Bs 4] (.zE .one),p3 20 [.jm 7] .mR,p3 21 [.cv (.func 41 [] []),.m_ 19,.m_ 20] (.call 3),p3 22 [.Bs 21,.cv (.int .i64 0)] (.bin .eql)]) (.cond (.m_ 22) (.ou false [p3 23 [.m_ 6] (.zE .one),p3 24 [.Bs 23,.cv (.int .i64 1)] (.bin .add),⟨none,[.jm 6,.jm 24],none,none,.st 1⟩]) .skip))
theorem aeA:eu Tryz.prog JQ (rD Tryz.prog 16 0) 0=some Yy:=by kernel_rfl
def J3 (b:qm×Unit) (s:Int) (o:List Int):Option Int:=(Kj b o).bind fun c=>some (if decide (c=0)=true then w (s+1) else s)
def LG (p:qm):Option (Int×Int) :=
 (rW p []).bind fun r=>match r with
 | (none,q)=>if decide (q≠0)=true then some (0,q) else none
 | (some b,q)=>if decide (q≠0)=true then some (0,q) else
   qq (0<b.1.1.length∧b.1.1.length≤7) <|
   (Iz (J3 b) (qU b.1.1.length (qo b.1.1.length)) 0).bind fun n=>some (n,0)
theorem ahh {b:qm×Unit} {o:List Int} {g6:ar} {s t:Int} (ah:J3 b s o=some t) {yh fx gq Gi r2 HO u8 HP HL HM HN MF MG MH u16 MI MJ MK ML MN MO I9 MP MQ:I} (he:o≠[]) (Y:List ar) :
  ∃ Z,Sem Tryz.prog (.yield [g6,ar.cells [lj b],ar.cells [hX s]].length) [Hh o] (([g6,ar.cells [lj b],ar.cells [hX s]]++[ar.loop .ready none 16 [yh,fx,gq,Gi,.ptr 1 0,r2,.ptr 2 0,HO,u8,HP,HL,HM,HN,MF,MG,MH,u16,MI,MJ,MK,ML,MN,MO,I9,MP,MQ] [18] (rC Tryz.prog 16 0) (rD Tryz.prog 16 0) JQ])++Y) 0 (.bool true) (([g6,ar.cells [lj b],ar.cells [hX t]]++[ar.loop .ready none 16 [yh,fx,gq,Gi,.ptr 1 0,r2,.ptr 2 0,HO,u8,HP,HL,HM,HN,MF,MG,MH,u16,MI,MJ,MK,ML,MN,MO,I9,MP,MQ] [18] (rC Tryz.prog 16 0) (rD Tryz.prog 16 0) JQ])++(Y++Z)):=by
 refine ⟨[],?_⟩;rw [sM];obtain ⟨f_,e,rfl⟩:=tY he;unfold J3 at ah;obtain ⟨c,ak,ah⟩:=p' ah;obtain rfl:=Option.some.inj ah;refine PB eD aew aeA (IJ _ _ _) rfl (IM (by simp)) ?_;unfold Yu;conv=>whnf
 refine ⟨rfl,IJ _ _ _,?_⟩;rw [JG];unfold Yy;conv=>whnf
 refine ⟨p9 (Ic b) (p9 (rL (fun _=>rfl) _ _ _) rfl),_,af_ (Oh ak),?_⟩;conv=>whnf
 cases a1:decide (c=0)
 ·conv=>whnf
  show _∧(([g6,ar.cells [lj b],ar.cells [hX s]]++[ar.loop .busy none 16 [yh,fx,gq,Gi,.ptr 1 0,r2,.ptr 2 0,HO,u8,HP,HL,HM,HN,MF,MG,MH,u16,MI,MJ,MK,ML,MN,MO,I9,MP,MQ] [18] (rC Tryz.prog 16 0) (rD Tryz.prog 16 0) JQ])++Y)[[g6,ar.cells [lj b],ar.cells [hX s]].length]?=_∧lF ((([g6,ar.cells [lj b],ar.cells [hX s]]++[ar.loop .busy none 16 [yh,fx,gq,Gi,.ptr 1 0,r2,.ptr 2 0,HO,u8,HP,HL,HM,HN,MF,MG,MH,u16,MI,MJ,MK,ML,MN,MO,I9,MP,MQ] [18] (rC Tryz.prog 16 0) (rD Tryz.prog 16 0) JQ])++Y).set [g6,ar.cells [lj b],ar.cells [hX s]].length _) _;exact ⟨rfl,IJ _ _ _,by rw [JG];exact lF.refl _⟩
 ·conv=>whnf
  show _∧(([g6,ar.cells [lj b],ar.cells [hX (w (s+1))]]++[ar.loop .busy none 16 [yh,fx,gq,Gi,.ptr 1 0,r2,.ptr 2 0,HO,u8,HP,HL,HM,HN,MF,MG,MH,u16,MI,MJ,MK,ML,MN,MO,I9,MP,MQ] [18] (rC Tryz.prog 16 0) (rD Tryz.prog 16 0) JQ])++Y)[[g6,ar.cells [lj b],ar.cells [hX (w (s+1))]].length]?=_∧lF ((([g6,ar.cells [lj b],ar.cells [hX (w (s+1))]]++[ar.loop .busy none 16 [yh,fx,gq,Gi,.ptr 1 0,r2,.ptr 2 0,HO,u8,HP,HL,HM,HN,MF,MG,MH,u16,MI,MJ,MK,ML,MN,MO,I9,MP,MQ] [18] (rC Tryz.prog 16 0) (rD Tryz.prog 16 0) JQ])++Y).set [g6,ar.cells [lj b],ar.cells [hX (w (s+1))]].length _) _;exact ⟨rfl,IJ _ _ _,by rw [JG];exact lF.refl _⟩
theorem ZA {p:qm} {v:Int×Int} (h:LG p=some v):qv 16 [.agg [.av (p.1.flatMap p_) p.1.length .shared,hX p.2.1,hX p.2.2]] (.tuple [hX v.1,hX v.2]):=by
 unfold LG at h;obtain ⟨⟨aS,bh⟩,ai,h⟩:=p' h;refine qN eD aeg rfl (Ir (p9 rfl (p9 rfl rfl))) fun Q bo=>?_;have jG:∀ T H,HX [.tmp 2,.tmp 3] (.tuple [hX v.1,hX v.2]) .ret T H→Q .ret T H:=fun T H bD=>bo _ T H bD;unfold XR XT XS;obtain ⟨a7,cc⟩:∃ c,Sm=c:=⟨_,rfl⟩;rw [cc];conv=>whnf
 refine ⟨qi.pl,_,MW ai,?_⟩;rcases aS with _ | b
 ·conv=>whnf
  refine bs h (fun af h=>?_) fun af h=>?_
  ·rw [af];(conv=>whnf);obtain rfl:=Option.some.inj h;exact jG _ _ (It rfl rfl)
  ·cases h
 ·conv=>whnf
  refine bs h (fun af h=>?_) fun af h=>?_
  ·rw [af];(conv=>whnf);obtain rfl:=Option.some.inj h;exact jG _ _ (It rfl rfl)
  ·rw [af];(conv=>whnf);subst cc;unfold Sm;obtain ⟨⟨Di,Mi⟩,h⟩:=rV h;obtain ⟨n,ao,h⟩:=p' h;obtain rfl:=Option.some.inj h;obtain ⟨F,Nq,La,bF⟩:=OT ao;obtain ⟨a9,b_⟩:∃ c,gB.AM (.m_ 17) [18] (rC Tryz.prog 16 0) (rD Tryz.prog 16 0)=c:=⟨_,rfl⟩;rw [b_];(conv=>whnf);refine ⟨p9 (Ic b) rfl,_,Ts (b:=b) (v:=()) rfl,?_⟩;(conv=>whnf);subst b_;have pv:[I.bR [lj b]].all (cn 7)=true:=p9 (Iq (p9 (Ic b) rfl)) rfl;refine YC (f:=Hh) (YH (b:=b) Mi Di) (fun i=>[ar.cells [.av (p.1.flatMap p_) p.1.length .shared,hX p.2.1,hX p.2.2],ar.cells [lj b],ar.cells [hX (F i)]]) (by exact rfl) (by rw [Nq];exact rfl) (fun _=>rfl) ?_ (rl:=none) (by exact rfl) (Hn:=[ar.cells [.av (p.1.flatMap p_) p.1.length .shared,hX p.2.1,hX p.2.2],ar.cells [lj b],ar.cells [hX n]]) (by rw [La]) ?_
   ·intro i hi Y;exact ahh (bF i hi) (RY Di _ (tt hi)) Y
   ·intro qS;(conv=>whnf);exact jG _ _ (It rfl rfl)

noncomputable def aaa:gB :=
 p5 [p3 1 [.jm 0] .box,qg 2 0,qg 3 0] (p5 [p3 7 [.m_ 1] (.zE (.str 3)),p3 8 [.cv (.func 14 [] []),.m_ 7] (.call 3),p4 6 8,qQ 9 6 0,p3 10 [.Bs 6] (.ext 1),p4 4 9,p4 5 10] (.seq (p5 [p6 11 5,qu 12 11 0 .neq] (.cond (.m_ 12) (p5 [p4 13 5,qg 2 0,p4 3 13] .ret) .skip)) (p5 [p3 14 [.Bs 1] (.zE (.str 3)),p4 15 4,p3 16 [.cv (.func 29 [] []),.m_ 14,.m_ 15] (.call 3),qQ 17 16 0,p3 18 [.Bs 16] (.ext 1),p4 2 17,p4 3 18] .ret)))
theorem aeN:qt Tryz.prog Uc 12=some (aaa,19,[.tmp 2,.tmp 3]):=by kernel_rfl
def LF (p:(qj×(Int×Int))):Option (Int×Int) :=
 (KL p).bind fun aS =>
 if (decide (aS.2≠(0:Int)))=true then
  some ((0:Int),aS.2)
 else
  (Ki p aS.1).bind fun bh =>
  some (bh.1,bh.2)
theorem Zw {p:(qj×(Int×Int))} {v:(Int×Int)} (h:LF p=some v):qv 12 [(.agg [(.av (p.1.flatMap p_) p.1.length .shared),(hX p.2.1),(hX p.2.2)])] (.tuple [(hX v.1),(hX v.2)]):=by
 refine qN eD aeN rfl (Ir (p9 rfl (p9 rfl rfl))) fun Q bo=>?_;have jG:qK [.tmp 2,.tmp 3] Q (fun v=>(.tuple [(hX v.1),(hX v.2)])) v:=fun T H bD=>bo _ T H bD;unfold LF at h;unfold aaa;conv=>whnf
 obtain ⟨aS,gJ,h⟩:=p' h;refine ⟨qi.pl,_,Tf gJ,?_⟩;conv=>whnf
 refine bs h (fun gK h=>?_) fun gK h=>?_
 ·rw [gK];conv=>whnf
  exact qd h jG rfl rfl
 ·rw [gK];conv=>whnf
  obtain ⟨bh,qs,h⟩:=p' h;refine ⟨qi.pl,_,Tl qs,?_⟩;conv=>whnf
  exact qd h jG rfl rfl

noncomputable def P9:gB :=
 .loop (some (qb false [1,1,2,3,29])) (.seq (p5 [p6 22 6,qZ 23 22,qu 24 23 0 .gtr] (.cond (.m_ 24) .skip (.exit 0))) (.seq (.block 1 (p5 [p3 27 [.m_ 1] (.zE (.str 3)),p6 28 6,p3 29 [.cv (.func 47 [] []),.m_ 27,.m_ 28] (.call 3),p4 7 29] (p5 [p6 30 7,p6 31 5,qp 32 30 31 .lss] (.cond (.m_ 32) (qE [p6 33 6,p4 34 7,p4 4 33,p4 5 34]) .skip)))) (qE [p4 25 6,p3 26 [.cv (.func 48 [] []),.m_ 25] (.call 3),p4 6 26])))
noncomputable def aac:gB :=
 p5 [p3 1 [.jm 0] .box,p3 2 [.cv (.av [] 0 .full)] (.nil 1),qg 3 0] (.seq (p5 [p3 8 [.m_ 1] (.zE (.str 3)),p3 9 [.cv (.func 46 [] []),.m_ 8] (.call 3),qu 10 9 0 .neq] (.cond (.m_ 10) (p5 [p3 11 [.Bs 1] (.zE (.str 3)),p3 12 [.cv (.func 46 [] []),.m_ 11] (.call 3),p3 2 [.cv (.av [] 0 .full)] (.nil 1),p4 3 12] .ret) .skip)) (p5 [p3 13 [.m_ 1] (.yM 0),ql 14 13,qZ 15 14,p3 16 [.cv (.func 32 [] []),.m_ 15] (.call 3),p4 4 16] (p5 [p3 17 [.m_ 1] (.zE (.str 3)),p6 18 4,p3 19 [.cv (.func 47 [] []),.m_ 17,.m_ 18] (.call 3),p4 5 19] (.seq (p5 [p6 20 4,p3 21 [.cv (.func 48 [] []),.m_ 20] (.call 3),p4 6 21] (.block 0 P9)) (p5 [p4 35 4,p4 2 35,qg 3 0] .ret)))))
theorem aeP:qt Tryz.prog QI 15=some (aac,36,[.tmp 2,.tmp 3]):=by kernel_rfl
def KM (p:(qj×(Int×Int))) (qc:qa→Option (qa×Int)):Nat→qa→Int→qa→Option (qa×Int)
 | 0,_,_,_=>none
 | m+1,s1,s2,dh =>
   if (decide ((0:Int)<(dh.length:Int)))=true then
    (LP p dh).bind fun rP =>
    if (decide (rP<s2))=true then
     (Ih dh).bind fun H4 =>
     KM p qc m dh rP H4
    else
     (Ih dh).bind fun HC =>
     KM p qc m s1 s2 HC
   else
    qc s1
def MS (p:(qj×(Int×Int))):Option (qa×Int) :=
 (Jo p).bind fun aS =>
 if (decide (aS≠(0:Int)))=true then
  (Jo p).bind fun bh =>
  some ([],bh)
 else
  (MT (p.1.length:Int)).bind fun eH =>
  (LP p eH).bind fun qP =>
  (Ih eH).bind fun q3 =>
  KM p (fun yn =>
    some (yn,(0:Int))) qh eH qP q3
theorem aip {p:(qj×(Int×Int))} {qc:qa→Option (qa×Int)} {s1:qa} {s2:Int} {dh:qa} {v:(qa×Int)} {Q:rR}   (q':∀ (yn:qa) (bw:ar) (qe:List I),qc yn=some v→rk 36 [(4,(qy yn .shared))] qe→Q (.exit 0) qe [bw]) {T:List I} (bZ:eW (qb false [1,1,2,3,29]) T=qf 36 [(1,(.ptr 0 0)),(4,(qy s1 .shared)),(5,(hX s2)),(6,(qy dh .shared))]) (h:KM p qc qh s1 s2 dh=some v) :
  dN Tryz.prog QI 15 0 none P9 T [ar.cells [(qY p.1 .shared),(hX p.2.1),(hX p.2.2)]] Q:=by
 unfold P9;refine wp_loop bZ ?_;refine .intro (fun m T H=>∃ (s1:qa) (s2:Int) (dh:qa),T=qf 36 [(1,(.ptr 0 0)),(4,(qy s1 .shared)),(5,(hX s2)),(6,(qy dh .shared))]∧H=[ar.cells [(qY p.1 .shared),(hX p.2.1),(hX p.2.2)]]∧KM p qc m s1 s2 dh=some v) qh ⟨s1,s2,dh,rfl,rfl,h⟩ ?_;clear h bZ;rintro m T H ⟨s1,s2,dh,rfl,rfl,h⟩;cases m
 ·exact rz h
 rename_i m;rw [KM.eq_2] at h;conv=>whnf
 refine bs h (fun qR h=>?_) fun qR h=>?_
 ·rw [qR];conv=>whnf
  obtain ⟨rP,rb,h⟩:=p' h;refine ⟨qi.pl,_,Tv rb,?_⟩;conv=>whnf
  refine bs h (fun q9 h=>?_) fun q9 h=>?_
  ·rw [q9];(conv=>whnf);obtain ⟨H4,rv,h⟩:=p' h;refine ⟨qi.pl,_,MX rv,?_⟩;(conv=>whnf);exact ⟨m,sg m,dh,rP,H4,rfl,rfl,h⟩
  ·rw [q9];(conv=>whnf);obtain ⟨HC,Hi,h⟩:=p' h;refine ⟨qi.pl,_,MX Hi,?_⟩;(conv=>whnf);exact ⟨m,sg m,s1,s2,HC,rfl,rfl,h⟩
 ·rw [qR];conv=>whnf
  exact q' _ _ _ h ⟨rfl,rfl⟩
theorem Zy {p:(qj×(Int×Int))} {v:(qa×Int)} (h:MS p=some v):qv 15 [(.agg [(.av (p.1.flatMap p_) p.1.length .shared),(hX p.2.1),(hX p.2.2)])] (.tuple [(.av (v.1.map hX) v.1.length .shared),(hX v.2)]):=by
 refine qN eD aeP rfl (Ir (p9 (rL (fun _=>rfl) _ _ _) (p9 rfl rfl))) fun Q bo=>?_;have jG:qK [.tmp 2,.tmp 3] Q (fun v=>(.tuple [(qy v.1 .shared),(hX v.2)])) v:=fun T H bD=>bo _ T H bD;unfold MS at h;unfold aac;obtain ⟨r9,qC⟩:∃ c,P9=c:=⟨_,rfl⟩;rw [qC];conv=>whnf
 obtain ⟨aS,gJ,h⟩:=p' h;refine ⟨qi.pl,_,KT gJ,?_⟩;conv=>whnf
 refine bs h (fun gK h=>?_) fun gK h=>?_
 ·rw [gK];conv=>whnf
  obtain ⟨bh,qs,h⟩:=p' h;refine ⟨qi.pl,_,KT qs,?_⟩;conv=>whnf
  exact qd h jG rfl rfl
 ·rw [gK];conv=>whnf
  obtain ⟨eH,qG,h⟩:=p' h;refine ⟨(p9 rfl rfl),_,Tn qG,?_⟩;conv=>whnf
  obtain ⟨qP,qW,h⟩:=p' h;refine ⟨qi.pl,_,Tv qW,?_⟩;conv=>whnf
  obtain ⟨q3,q8,h⟩:=p' h;refine ⟨qi.pl,_,MX q8,?_⟩;conv=>whnf
  subst qC;refine aip ?_ (by exact rfl) h;intro yn bw qe h qz;obtain ⟨rq,rfl⟩:=qz.ex;conv=>whnf
  exact qd h jG rfl rfl

noncomputable def aab:gB :=
 p5 [p3 1 [.jm 0] .box,qg 2 0,qg 3 0] (p5 [p3 7 [.m_ 1] (.zE (.str 3)),p3 8 [.cv (.func 15 [] []),.m_ 7] (.call 3),p4 6 8,qQ 9 6 0,p3 10 [.Bs 6] (.ext 1),p4 4 9,p4 5 10] (.seq (p5 [p6 11 5,qu 12 11 0 .neq] (.cond (.m_ 12) (p5 [p4 13 5,qg 2 0,p4 3 13] .ret) .skip)) (p5 [p3 14 [.Bs 1] (.zE (.str 3)),p4 15 4,p3 16 [.cv (.func 39 [] []),.m_ 14,.m_ 15] (.call 3),p4 2 16,qg 3 0] .ret)))
theorem aeO:qt Tryz.prog Ue 13=some (aab,17,[.tmp 2,.tmp 3]):=by kernel_rfl
def Ob (p:(qj×(Int×Int))):Option (Int×Int) :=
 (MS p).bind fun aS =>
 if (decide (aS.2≠(0:Int)))=true then
  some ((0:Int),aS.2)
 else
  (LL p aS.1).bind fun bh =>
  some (bh,(0:Int))
theorem aio {p:(qj×(Int×Int))} {v:(Int×Int)} (h:Ob p=some v):qv 13 [(.agg [(.av (p.1.flatMap p_) p.1.length .shared),(hX p.2.1),(hX p.2.2)])] (.tuple [(hX v.1),(hX v.2)]):=by
 refine qN eD aeO rfl (Ir (p9 rfl (p9 rfl rfl))) fun Q bo=>?_;have jG:qK [.tmp 2,.tmp 3] Q (fun v=>(.tuple [(hX v.1),(hX v.2)])) v:=fun T H bD=>bo _ T H bD;unfold Ob at h;unfold aab;conv=>whnf
 obtain ⟨aS,gJ,h⟩:=p' h;refine ⟨qi.pl,_,Zy gJ,?_⟩;conv=>whnf
 refine bs h (fun gK h=>?_) fun gK h=>?_
 ·rw [gK];conv=>whnf
  exact qd h jG rfl rfl
 ·rw [gK];conv=>whnf
  obtain ⟨bh,qs,h⟩:=p' h;refine ⟨qi.pl,_,ZH qs,?_⟩;conv=>whnf
  exact qd h jG rfl rfl

noncomputable def P_:gB :=
 .loop (some (qb false [1,1,2,2,21])) (.seq (p5 [p6 15 5,qZ 16 15,qu 17 16 0 .gtr] (.cond (.m_ 17) .skip (.exit 0))) (.seq (.block 1 (p5 [p3 20 [.m_ 1] (.zE (.str 3)),p6 21 5,p3 22 [.cv (.func 47 [] []),.m_ 20,.m_ 21] (.call 3),qu 23 22 0 .eql] (.cond (.m_ 23) (qE [p4 24 4,qV 25 24 1,p4 4 25]) .skip))) (qE [p4 18 5,p3 19 [.cv (.func 48 [] []),.m_ 18] (.call 3),p4 5 19])))
noncomputable def aad:gB :=
 p5 [p3 1 [.jm 0] .box,qg 2 0,qg 3 0] (.seq (p5 [p3 6 [.m_ 1] (.zE (.str 3)),p3 7 [.cv (.func 46 [] []),.m_ 6] (.call 3),qu 8 7 0 .neq] (.cond (.m_ 8) (p5 [p3 9 [.Bs 1] (.zE (.str 3)),p3 10 [.cv (.func 46 [] []),.m_ 9] (.call 3),qg 2 0,p4 3 10] .ret) .skip)) (p5 [qg 4 0] (.seq (p5 [p3 11 [.m_ 1] (.yM 0),ql 12 11,qZ 13 12,p3 14 [.cv (.func 32 [] []),.m_ 13] (.call 3),p4 5 14] (.block 0 P_)) (p5 [p4 26 4,p4 2 26,qg 3 0] .ret))))
theorem aeQ:qt Tryz.prog QJ 17=some (aad,27,[.tmp 2,.tmp 3]):=by kernel_rfl
def KN (p:(qj×(Int×Int))) (qc:Int→Option (Int×Int)):Nat→Int→qa→Option (Int×Int)
 | 0,_,_=>none
 | m+1,s1,s2 =>
   if (decide ((0:Int)<(s2.length:Int)))=true then
    (LP p s2).bind fun qP =>
    if (decide (qP=(0:Int)))=true then
     (Ih s2).bind fun q3 =>
     KN p qc m (w (s1+(1:Int))) q3
    else
     (Ih s2).bind fun rP =>
     KN p qc m s1 rP
   else
    qc s1
def Oc (p:(qj×(Int×Int))):Option (Int×Int) :=
 (Jo p).bind fun aS =>
 if (decide (aS≠(0:Int)))=true then
  (Jo p).bind fun bh =>
  some ((0:Int),bh)
 else
  (MT (p.1.length:Int)).bind fun eH =>
  KN p (fun yn =>
    some (yn,(0:Int))) qh (0:Int) eH
theorem air {p:(qj×(Int×Int))} {qc:Int→Option (Int×Int)} {s1:Int} {s2:qa} {v:(Int×Int)} {Q:rR}   (q':∀ (yn:Int) (bw:ar) (qe:List I),qc yn=some v→rk 27 [(4,(hX yn))] qe→Q (.exit 0) qe [bw]) {T:List I} (bZ:eW (qb false [1,1,2,2,21]) T=qf 27 [(1,(.ptr 0 0)),(4,(hX s1)),(5,(qy s2 .shared))]) (h:KN p qc qh s1 s2=some v) :
  dN Tryz.prog QJ 17 0 none P_ T [ar.cells [(qY p.1 .shared),(hX p.2.1),(hX p.2.2)]] Q:=by
 unfold P_;refine wp_loop bZ ?_;refine .intro (fun m T H=>∃ (s1:Int) (s2:qa),T=qf 27 [(1,(.ptr 0 0)),(4,(hX s1)),(5,(qy s2 .shared))]∧H=[ar.cells [(qY p.1 .shared),(hX p.2.1),(hX p.2.2)]]∧KN p qc m s1 s2=some v) qh ⟨s1,s2,rfl,rfl,h⟩ ?_;clear h bZ;rintro m T H ⟨s1,s2,rfl,rfl,h⟩;cases m
 ·exact rz h
 rename_i m;rw [KN.eq_2] at h;conv=>whnf
 refine bs h (fun qW h=>?_) fun qW h=>?_
 ·rw [qW];conv=>whnf
  obtain ⟨qP,q8,h⟩:=p' h;refine ⟨qi.pl,_,Tv q8,?_⟩;conv=>whnf
  refine bs h (fun qR h=>?_) fun qR h=>?_
  ·rw [qR];(conv=>whnf);obtain ⟨q3,rb,h⟩:=p' h;refine ⟨qi.pl,_,MX rb,?_⟩;(conv=>whnf);exact ⟨m,sg m,(w (s1+(1:Int))),q3,rfl,rfl,h⟩
  ·rw [qR];(conv=>whnf);obtain ⟨rP,q9,h⟩:=p' h;refine ⟨qi.pl,_,MX q9,?_⟩;(conv=>whnf);exact ⟨m,sg m,s1,rP,rfl,rfl,h⟩
 ·rw [qW];conv=>whnf
  exact q' _ _ _ h ⟨rfl,rfl⟩
theorem ais {p:(qj×(Int×Int))} {v:(Int×Int)} (h:Oc p=some v):qv 17 [(.agg [(.av (p.1.flatMap p_) p.1.length .shared),(hX p.2.1),(hX p.2.2)])] (.tuple [(hX v.1),(hX v.2)]):=by
 refine qN eD aeQ rfl (Ir (p9 rfl (p9 rfl rfl))) fun Q bo=>?_;have jG:qK [.tmp 2,.tmp 3] Q (fun v=>(.tuple [(hX v.1),(hX v.2)])) v:=fun T H bD=>bo _ T H bD;unfold Oc at h;unfold aad;obtain ⟨r9,qC⟩:∃ c,P_=c:=⟨_,rfl⟩;rw [qC];conv=>whnf
 obtain ⟨aS,gJ,h⟩:=p' h;refine ⟨qi.pl,_,KT gJ,?_⟩;conv=>whnf
 refine bs h (fun gK h=>?_) fun gK h=>?_
 ·rw [gK];conv=>whnf
  obtain ⟨bh,qs,h⟩:=p' h;refine ⟨qi.pl,_,KT qs,?_⟩;conv=>whnf
  exact qd h jG rfl rfl
 ·rw [gK];conv=>whnf
  obtain ⟨eH,qG,h⟩:=p' h;refine ⟨(p9 rfl rfl),_,Tn qG,?_⟩;conv=>whnf
  subst qC;refine air ?_ (by exact rfl) h;intro yn bw qe h qz;obtain ⟨rq,rfl⟩:=qz.ex;conv=>whnf
  exact qd h jG rfl rfl
end Go.Proofs.YtkoioidpbbbaiaaGreat.Ab


namespace Go.Proofs.YtkoioidpbbbaiaaGreat.Ab
open Go
set_option maxRecDepth 20000
set_option maxHeartbeats 1000000
def qL (p:qm):List (List Int):=qU p.1.length (qo p.1.length)
theorem J' {p:qm} {o:List Int}:o∈qL p↔qA p.1.length o:=W'.symm
theorem Ks {p:qm} (h:rj p):(qL p).length≤100000:=WE h.len.2
theorem QF {p:qm}:(qL p)[0]?=some (qo p.1.length):=RW _ _ (Ta _)
theorem all_cons {p:qm}:∃ r,qL p=qo p.1.length::r:=by
 have:=QF (p:=p);cases h:qL p with
 | nil=>rw [h] at this;cases this
 | cons a r=>rw [h] at this;exact ⟨r,by rw [Option.some.inj this]⟩
def r4 (p:qm) (b o:List Int):List Int:=if q_ p o<q_ p b then o else b
def Je (p:qm):List Int:=((qL p).drop 1).foldl (r4 p) (qo p.1.length)
def Ng (p:qm):Nat:=((qL p).filter fun o=>decide (q_ p o=0)).length
section
variable {p:qm}
theorem N8 {α:Type} {l:List α} {j:Nat} (aw:j<l.length):l.take (j+1)=l.take j++[l[j]]:=uP aw
theorem U4:(qL p).foldl (r4 p) (qo p.1.length)=Je p:=by
 unfold Je;obtain ⟨r,ai⟩:=all_cons (p:=p);rw [ai];show List.foldl _ (r4 p _ _) r=_;rw [show r4 p (qo p.1.length) (qo p.1.length)=qo p.1.length by unfold r4;split <;> rfl];rfl
theorem RR (h:rj p):∀ (m j:Nat) (b:List Int),1≤j→j≤(qL p).length→(qL p).length-j<m→b=((qL p).take j).foldl (r4 p) (qo p.1.length) →
  KM p (fun z=>some (z,0)) m b (q_ p b) ((qL p)[j]?.getD [])=some (Je p,0)
 | 0,_,_,_,_,h,_=>absurd h (by omega)
 | m+1,j,b,ab,aw,hm,af=>by
   have hlen:=h.len;rw [KM];by_cases aR:j<(qL p).length
   ·rw [sm aR,tL];have al:=J'.1 (tt aR);rw [if_pos (decide_eq_true (by rw [al.1];omega)),Tu h al,sc];have aj:Ih (qL p)[j]=some ((qL p)[j+1]?.getD []):=PZ (by omega) (by omega) aR;have bu:r4 p b (qL p)[j]=((qL p).take (j+1)).foldl (r4 p) (qo p.1.length):=by
     rw [N8 aR,List.foldl_append,←af];rfl
    by_cases ak:q_ p (qL p)[j]<q_ p b
    ·rw [if_pos (decide_eq_true ak),aj,sc];refine RR h m (j+1) _ (by omega) (by omega) (by omega) ?_;rw [←bu];unfold r4;rw [if_pos ak]
    ·rw [if_neg (by simpa using ak),aj,sc];refine RR h m (j+1) _ (by omega) (by omega) (by omega) ?_;rw [←bu];unfold r4;rw [if_neg ak]
   ·rw [tO (by omega),vR,if_neg (by decide)];rw [tb (by omega),U4] at af;rw [af]
theorem Tb (n:Nat):qA n (qo n):=Lm.2 (.refl _)
theorem Zx (aB:p.1.length≤1000):MS p=some (if qX p=0 then (Je p,0) else ([],qX p)):=by
 unfold MS;rw [PY aB,sc,sc];by_cases h:qX p=0
 ·rw [if_neg (show ¬ decide (qX p≠0)=true by simpa using h),if_pos h];have ad:=Jf.1 h;have ao:=ad.len;rw [Tm aB,sc,Tu ad (Tb _),sc];obtain ⟨r,ai⟩:=all_cons (p:=p);have aQ:0<(qL p).length:=by rw [ai];simp
  have f_:(qL p)[0]=qo p.1.length:=by simp [ai]
  have aj:Ih (qL p)[0]=some ((qL p)[0+1]?.getD []):=PZ (by omega) (by omega) aQ;rw [f_] at aj;rw [aj,sc];refine RR ad qh 1 _ (by omega) (by omega) (r5 (by have:=Ks ad;omega)) ?_;rw [N8 (j:=0) aQ,f_];show _=r4 p _ _;unfold r4;split <;> rfl
 ·rw [if_pos (decide_eq_true h),if_neg h]
theorem aiU (h:rj p) {x y:List Int} (aj:qA p.1.length x) (aY:qA p.1.length y):KS (p,()) x y=some (decide (q_ p x<q_ p y)):=by
 unfold KS;rw [Og h aj,sc,Og h aY,sc]
theorem RS (h:rj p):∀ (m j:Nat) (b:List Int),1+j≤(qL p).length→(qL p).length-(1+j)<m→b=(((qL p).drop 1).take j).foldl (r4 p) (qo p.1.length)→qA p.1.length b →
  KR (qL p) (KS (p,())) (fun z=>some z) m b (j:Int)=some (Je p)
 | 0,_,_,_,h,_,_=>absurd h (by omega)
 | m+1,j,b,aw,hm,af,bS=>by
   have RM:=Ks h;rw [KR];have e1:((1:Int)).toNat=1:=rfl;rw [e1];(have el:((qL p).drop 1).length=(qL p).length-1:=by simp);by_cases aR:j<((qL p).drop 1).length
   ·rw [if_pos (decide_eq_true (by omega)),qw (by omega),rH aR];have kI:((qL p).drop 1)[j]∈qL p:=uC (tt aR);have al:=J'.1 kI;rw [aiU h al bS,sc,Hq j (by omega)];have bu:r4 p b ((qL p).drop 1)[j]=(((qL p).drop 1).take (j+1)).foldl (r4 p) (qo p.1.length):=by
     rw [N8 aR,List.foldl_append,←af];rfl
    by_cases ak:q_ p ((qL p).drop 1)[j]<q_ p b
    ·rw [if_pos (decide_eq_true ak)];refine RS h m (j+1) _ (by omega) (by omega) ?_ al;rw [←bu];unfold r4;rw [if_pos ak]
    ·rw [if_neg (by simpa using ak)];refine RS h m (j+1) _ (by omega) (by omega) ?_ bS;rw [←bu];unfold r4;rw [if_neg ak]
   ·rw [if_neg (by simpa using by omega)];rw [tb (by omega)] at af;rw [af];rfl
theorem Te (aB:p.1.length≤1000):KL p=some (if qX p=0 then (Je p,0) else ([],qX p)):=by
 unfold KL;rw [Tr aB,sc];by_cases h:qX p=0
 ·rw [if_pos h,if_pos h];have ad:=Jf.1 h;have ao:=ad.len;simp only;rw [if_neg (by decide),qw (show 0<p.1.length∧p.1.length≤7 by omega)];show (Oi (qL p) (KS (p,()))).bind _=_;obtain ⟨r,ai⟩:=all_cons (p:=p);have aQ:0<(qL p).length:=by rw [ai];simp
  unfold Oi;rw [qw (by omega),qw (by omega)];have f_:ix (qL p) (0:Int)=qo p.1.length:=by rw [ai];rfl
  rw [f_];have:=RS ad qh 0 (qo p.1.length) (by omega) (r5 (by have:=Ks ad;omega)) rfl (Tb _);rw [show ((0:Nat):Int)=0 from rfl] at this;rw [this,sc]
 ·rw [if_neg h,if_neg h];simp only;rw [if_pos (decide_eq_true h)]
theorem Vb (q:List Int→Bool) (l:List (List Int)):(l.filter q).length≤l.length:=uS _ _
theorem We (h:rj p):∀ (m j:Nat),j≤(qL p).length→(qL p).length-j<m →
  KN p (fun z=>some (z,0)) m (((qL p).take j).filter fun o=>decide (q_ p o=0)).length ((qL p)[j]?.getD [])=some ((Ng p:Int),0)
 | 0,_,_,h=>absurd h (by omega)
 | m+1,j,aw,hm=>by
   have hlen:=h.len;have RM:=Ks h;rw [KN];by_cases aR:j<(qL p).length
   ·rw [sm aR,tL];have al:=J'.1 (tt aR);rw [if_pos (decide_eq_true (by rw [al.1];omega)),Tu h al,sc];have aj:Ih (qL p)[j]=some ((qL p)[j+1]?.getD []):=PZ (by omega) (by omega) aR;have a8:=We h m (j+1) (by omega) (by omega);rw [N8 aR,tE,sD] at a8;have jJ:=Vb (fun o=>decide (q_ p o=0)) ((qL p).take j);rw [s9] at jJ;by_cases ak:q_ p (qL p)[j]=0
    ·rw [if_pos (decide_eq_true ak),aj,sc,Hq _ (by omega)];rw [show ([(qL p)[j]].filter fun o=>decide (q_ p o=0)).length=1 by simp [ak]] at a8;exact a8
    ·rw [if_neg (by simpa using ak),aj,sc];rw [show ([(qL p)[j]].filter fun o=>decide (q_ p o=0)).length=0 by simp [ak]] at a8;exact a8
   ·rw [tO (by omega),vR,if_neg (by decide),tb (by omega)];rfl
theorem aiq (aB:p.1.length≤1000):Oc p=some (if qX p=0 then ((Ng p:Int),0) else (0,qX p)):=by
 unfold Oc;rw [PY aB,sc,sc];by_cases h:qX p=0
 ·rw [if_neg (show ¬ decide (qX p≠0)=true by simpa using h),if_pos h];have ad:=Jf.1 h;rw [Tm aB,sc];have:=We ad qh 0 (by omega) (r5 (by have:=Ks ad;omega));rw [QF] at this;exact this
 ·rw [if_pos (decide_eq_true h),if_neg h]
theorem Vp (h:rj p):∀ (l r:List (List Int)),qL p=r++l→Iz (J3 (p,())) l ((r.filter fun o=>decide (q_ p o=0)).length:Int)=some ((Ng p:Int))
 | [],r,e=>by rw [sM] at e;subst e;rfl
 | o::l,r,e=>by
   have RM:=Ks h;have al:qA p.1.length o:=J'.1 (by rw [e];simp);(have hlen:r.length+(l.length+1)=(qL p).length:=by rw [e];simp);have jJ:=Vb (fun o=>decide (q_ p o=0)) r;have a8:=Vp h l (r++[o]) (by rw [e];simp);rw [tE,sD] at a8;show (J3 (p,()) _ o).bind (Iz (J3 (p,())) l)=_;unfold J3;rw [Og h al,sc,sc];by_cases ak:q_ p o=0
   ·rw [if_pos (decide_eq_true ak),Hq _ (by omega)];rw [show ([o].filter fun o=>decide (q_ p o=0)).length=1 by simp [ak]] at a8;exact a8
   ·rw [if_neg (by simpa using ak)];rw [show ([o].filter fun o=>decide (q_ p o=0)).length=0 by simp [ak]] at a8;exact a8
theorem Zz (aB:p.1.length≤1000):LG p=some (if qX p=0 then ((Ng p:Int),0) else (0,qX p)):=by
 unfold LG;rw [Tr aB,sc];by_cases h:qX p=0
 ·rw [if_pos h,if_pos h];have ad:=Jf.1 h;have ao:=ad.len;simp only;rw [if_neg (by decide),qw (show 0<p.1.length∧p.1.length≤7 by omega)];have:=Vp ad (qL p) [] rfl;show (Iz (J3 (p,())) (qL p) 0).bind _=_;have this:Iz (J3 (p,())) (qL p) 0=some ((Ng p:Int)):=this;rw [this,sc]
 ·rw [if_neg h,if_neg h];simp only;rw [if_pos (decide_eq_true h)]
theorem ab1 (p:qm) (E:List (List Int)):∀ (b:List Int),(E.foldl (r4 p) b=b∨E.foldl (r4 p) b∈E)∧q_ p (E.foldl (r4 p) b)≤q_ p b∧∀ o∈E,q_ p (E.foldl (r4 p) b)≤q_ p o:=by
 induction E with
 | nil=>intro b;exact ⟨.inl rfl,sY _,by simp⟩
 | cons a E a8 =>
   intro b;obtain ⟨ab,ae,aF⟩:=a8 (r4 p b a);have af:(r4 p b a=b∨r4 p b a=a)∧q_ p (r4 p b a)≤q_ p b∧q_ p (r4 p b a)≤q_ p a:=by
    unfold r4;split
    ·exact ⟨.inr rfl,by omega,by omega⟩
    ·exact ⟨.inl rfl,by omega,by omega⟩
   rw [List.foldl_cons];refine ⟨?_,by omega,fun o aq=>?_⟩
   ·rcases ab with ab | ab
    ·rcases af.1 with e | e
     ·left;rw [ab,e]
     ·right;rw [ab,e];simp
    ·right;simp [ab]
   ·rcases sy.1 aq with rfl | aq
    ·omega
    ·exact aF o aq
theorem Q1 (p:qm):qA p.1.length (Je p):=by
 rw [←U4];obtain ⟨ab,_,_⟩:=ab1 p (qL p) (qo p.1.length);rcases ab with ab | ab
 ·rw [ab];exact Tb _
 ·exact J'.1 ab
theorem Zv (aB:p.1.length≤1000):LF p=some (if qX p=0 then (q_ p (Je p),0) else (0,qX p)):=by
 unfold LF;rw [Te aB,sc];by_cases h:qX p=0
 ·rw [if_pos h,if_pos h];have ad:=Jf.1 h;have af:=Q1 p;simp only;rw [if_neg (by simp),Tk aB (by rw [af.1];have:=ad.len;omega),if_pos (Ln.2 ⟨ad,af⟩)];rfl
 ·rw [if_neg h,if_neg h];simp only;rw [if_pos (decide_eq_true h)]
theorem ain (aB:p.1.length≤1000):Ob p=some (if qX p=0 then (q_ p (Je p),0) else (0,qX p)):=by
 unfold Ob;rw [Zx aB,sc];by_cases h:qX p=0
 ·rw [if_pos h,if_pos h];have ad:=Jf.1 h;simp only;rw [if_neg (by simp),ZG ad (Q1 p)];rfl
 ·rw [if_neg h,if_neg h];simp only;rw [if_pos (decide_eq_true h)]
end
end Go.Proofs.YtkoioidpbbbaiaaGreat.Ab


namespace Go.Proofs.YtkoioidpbbbaiaaGreat.Ab
open Go
set_option maxRecDepth 20000
set_option maxHeartbeats 4000000
def Hm (N:Nat) (H H':List ar):Prop:=H.length≤H'.length∧∀ (j:Nat) (c:List I),N≤j→H[j]?=some (.cells c)→H'[j]?=some (.cells c)
theorem Hm.refl (N:Nat) (H:List ar):Hm N H H:=⟨se _,fun _ _ _ h=>h⟩
theorem Hm.trans {N:Nat} {H H1 H2:List ar} (h:Hm N H H1) (k:Hm N H1 H2):Hm N H H2:=⟨Nat.le_trans h.1 k.1,fun j c aw ak=>k.2 j c aw (h.2 j c aw ak)⟩
structure QC (l N:Nat) (Inv:Nat→List ar→Prop):Prop where
 len:∀ i H,Inv i H→l<N∧N≤H.length
 more:∀ i H Z,Inv i H→Inv i (H++Z)
 set:∀ i H j c dR,Inv i H→N≤j→H[j]?=some (.cells c)→Inv i (H.set j (.cells dR))
def TX (P:Program) (k:FuncId) (cap:List I) (E:List I):Prop :=
 ∀ (l N:Nat) (Inv:Nat→List ar→Prop),QC l N Inv →
   (∀ (i:Nat) (h:i<E.length) (H:List ar),Inv i H→∃ H',Inv (i+1) H'∧Hm N H H'∧Sem P (.yield l) [E[i]] H 0 (.bool true) H') →
   ∀ H,Inv 0 H→∃ H',Inv E.length H'∧Sem P (.fn k) (.yield l::cap) H 0 (.tuple []) H'
structure Ij (L:Nat) (b:I) (p:Nat) (U:List Int) (H:List ar):Prop where
 y:H[p]?=some (.cells [.yield L])
 u:H[p+1]?=some (.cells (U.map hX))
 g:H[p+2]?=some (.cells [I1 b p])
theorem Ij.set {L p:Nat} {b:I} {U:List Int} {H:List ar} (h:Ij L b p U H) (M':List Int):Ij L b p M' (H.set (p+1) (.cells (M'.map hX))) :=
 ⟨by rw [sf (by omega)];exact h.y,sn (sd.1 h.u).1,by rw [sf (by omega)];exact h.g⟩
theorem Ij.cB {L p N:Nat} {b:I} {U:List Int} {H H':List ar} (h:Ij L b p U H) (aB:N≤p) (k:Hm N H H'):Ij L b p U H':=⟨k.2 _ _ aB h.y,k.2 _ _ (by omega) h.u,k.2 _ _ (by omega) h.g⟩
theorem ahH {LB LC:I} {Q:cN→List I→List ar→Prop} {begun:List Int} {i n:Nat} {H:List ar} {L p:Nat} {b:I} {U:List Int} (l7:Ij L b p U H) (r8:U.length=7) (hi:i<7) (af:begun.length≤7)
  (dT:∃ H',Ij L b p U H'∧Sem Tryz.prog (.fn 71) [.av ((begun++[(i:Int)]).map hX) (begun++[(i:Int)]).length (.uniq 1),b,.ptr p 0,.ptr (p+1) 0,.ptr (p+2) 0] H 0 (.bool true) H' ∧
   Q .normal (qf 52 [(0,Hh begun),(3,.ptr (p+1) 0),(4,.ptr (p+2) 0),(26,hX n),(27,hX i),(28,LB),(33,LC),(50,.bool false)]) (H'.set (p+1) (.cells ((U.set i 0).map hX)))) :
  dN Tryz.prog Ku 71 0 none Lr (qf 52 [(0,Hh begun),(3,.ptr (p+1) 0),(4,.ptr (p+2) 0),(7,hX i),(26,hX n),(27,hX i),(28,LB),(33,LC)]) H Q:=by
 obtain ⟨H',ac5,cl,bo⟩:=dT;have fin:∀ dE,dE=qf 52 [(0,Hh begun),(3,.ptr (p+1) 0),(4,.ptr (p+2) 0),(7,hX i),(8,.bool true),(26,hX n),(27,hX i),(28,LB),(33,LC)]→dN Tryz.prog Ku 71 0 none NW dE H' Q:=by
  rintro _ rfl;unfold NW;conv=>whnf
  refine ⟨by omega,?_⟩;conv=>whnf
  refine Ew ac5.u ?_;conv=>whnf
  rw [show 0+(i:Int).toNat*1=i by omega];refine Gn (by simp;omega) ?_;conv=>whnf
  rw [show (List.map hX U).set i (I.int IntKind.i64 0)=(U.set i 0).map hX by rw [tQ]];exact bo
 unfold Lr;cases begun with
 | nil =>
   (conv=>whnf);refine Ew l7.g ?_;(conv=>whnf);refine ⟨⟨by decide,by decide,by decide⟩,?_⟩;(conv=>whnf);refine ⟨rfl,by decide,?_⟩;(conv=>whnf);refine ⟨by decide,by decide,rfl,?_⟩;(conv=>whnf);refine ⟨_,_,rG cl,?_⟩;(conv=>whnf);exact fin _ rfl
 | cons a l =>
   (conv=>whnf);refine Ew l7.g ?_;(conv=>whnf);refine ⟨⟨rfl,by omega,sY _⟩,?_⟩;(conv=>whnf);rw [tD,tz,tb (by simp)];refine ⟨rfl,by decide,?_⟩;(conv=>whnf);refine ⟨by decide,by omega,by simp,?_⟩;(conv=>whnf);(have e1:List.map hX (a::l)++[hX (i:Int)]=((a::l)++[(i:Int)]).map hX:=by simp);(have b9:(a::l).length+1=((a::l)++[(i:Int)]).length:=by simp);refine ⟨_,_,rG (by erw [e1,b9];exact cl),?_⟩;(conv=>whnf);exact fin _ rfl
def aa2 (L N:Nat) (Inv:Nat→List ar→Prop) (c:Nat) (begun:List Int) (E:List (List Int)):Prop :=
 ∀ (j:Nat) (l:List Int),E[j]?=some l→∀ H:List ar,Inv (c+j) H→∃ H',Inv (c+j+1) H'∧Hm N H H'∧Sem Tryz.prog (.yield L) [Hh (begun++l)] H 0 (.bool true) H'
theorem VJ {b:((List (Int×Int))×(Int×Int))×Unit} (qR:b.1.1.length≤7) (iP:0<b.1.1.length) {L N:Nat} {Inv:Nat→List ar→Prop} (kB:QC L N Inv) {p:Nat} (aB:N≤p) :
  ∀ (k:Nat) (begun:List Int) (IV:hB) (U:List Int) (c:Nat),U.length=7→(∀ i,0≤U.getD i 0)→begun.length+k=b.1.1.length→(rI U b.1.1.length).length=k→((IV=.full∧begun=[])∨IV=.uniq 1∧begun≠[])→aa2 L N Inv c begun (qU k (rI U b.1.1.length)) →
  ∀ H,Inv c H→Ij L (.bR [lj b]) p U H→∃ H',Inv (c+(qU k (rI U b.1.1.length)).length) H'∧Hm N H H'∧Sem Tryz.prog (.fn 71) [.av (begun.map hX) begun.length IV,.bR [lj b],.ptr p 0,.ptr (p+1) 0,.ptr (p+2) 0] H 0 (.bool true) H'
 | 0,begun,IV,U,c,r8,_,al,ao,CM,ai,H,ag,l7=>by
   obtain ⟨H',ac3,ac4,cl⟩:=ai 0 [] rfl H ag;(have bI:begun≠[]:=fun e=>by subst e;simp at al;omega);have CM:IV=.uniq 1:=by
    rcases CM with ⟨_,h⟩ | ⟨h,_⟩
    ·exact absurd h bI
    ·exact h
   subst CM;obtain ⟨a,l,rfl⟩:=tY bI;rw [sM] at cl;refine ⟨H',ac3,ac4,?_⟩;refine rK eD O' rfl cl.1 fun Q bo=>?_;unfold Lq Ls;obtain ⟨fY,Ho⟩:∃ c,JE=c:=⟨_,rfl⟩;rw [Ho];(conv=>whnf);rw [decide_eq_true (show (((a::l).length:Nat):Int)=(b.1.1.length:Int) by omega)];(conv=>whnf);refine Ew l7.y ?_;(conv=>whnf);refine ⟨_,_,rG cl,?_⟩;(conv=>whnf);exact bo _ _ _ ⟨.inr rfl,lF.refl _,rfl⟩
 | k+1,begun,IV,U,c,r8,Nr,al,ao,CM,ai,H,ag,l7=>by
   obtain ⟨n,aI⟩:∃ n,n=b.1.1.length:=⟨_,rfl⟩;have M9:=VJ (L:=L) qR iP kB aB k;rw [←aI] at qR iP al ao ai M9 ⊢
   obtain ⟨J0,Lb,Kz⟩:=OJ (fun i rQ H8=>i<n→Inv (c+Hg k U n i) rQ∧Ij L (.bR [lj b]) p U rQ →
    (Inv (c+Hg k U n (i+1)) H8∧Ij L (.bR [lj b]) p U H8∧Hm N rQ H8) ∧
    (U.getD i 0=0→∃ H2,Ij L (.bR [lj b]) p (U.set i 1) H2∧H8=H2.set (p+1) (.cells (U.map hX))∧Sem Tryz.prog (.fn 71) [.av ((begun++[(i:Int)]).map hX) (begun++[(i:Int)]).length (.uniq 1),.bR [lj b],.ptr p 0,.ptr (p+1) 0,.ptr (p+2) 0] (rQ.set (p+1) (.cells ((U.set i 1).map hX))) 0 (.bool true) H2)∧(U.getD i 0≠0→H8=rQ)) H (fun i rQ=>by
    by_cases aP:i<n∧Inv (c+Hg k U n i) rQ∧Ij L (.bR [lj b]) p U rQ
    ·obtain ⟨hi,aP⟩:=aP;by_cases aQ:U.getD i 0=0
     ·have hm:(i:Int)∈rI U n:=WV.2 ⟨i,hi,aQ,rfl⟩
      obtain ⟨H2,aA,aG,aT⟩:=M9 (begun++[(i:Int)]) (.uniq 1) (U.set i 1) (c+Hg k U n i) (by simpa using r8) (YO Nr) (by simp;omega) (by rw [Mk (by omega) aQ,tR hm];omega) (.inr ⟨rfl,by simp⟩) (fun j l aw H' b7=>by
       rw [Mk (by omega) aQ] at aw;rw [show c+Hg k U n i+j=c+(Hg k U n i+j) by omega] at b7 ⊢;obtain ⟨hC,bl,cr,eY⟩:=ai _ _ (WC hi aQ aw) H' b7;refine ⟨hC,bl,cr,?_⟩
       rw [sC];exact eY) (rQ.set (p+1) (.cells ((U.set i 1).map hX))) (kB.set _ _ _ _ _ aP.1 (by omega) aP.2.u) (aP.2.set _)
      rw [Mk (by omega) aQ] at aA;have Me:Ij L (.bR [lj b]) p (U.set i 1) H2:=(aP.2.set (U.set i 1)).cB aB aG;refine ⟨H2.set (p+1) (.cells (U.map hX)),fun _ _=>⟨⟨?_,Me.set U,?_⟩,fun _=>⟨H2,Me,rfl,aT⟩,fun h=>absurd aQ h⟩⟩
      ·rw [OL,if_pos aQ,←Nat.add_assoc];exact kB.set _ _ _ _ _ aA (by omega) Me.u
      ·refine ⟨by have:=aG.1;simp at this ⊢;omega,fun j cs aw ak=>?_⟩;by_cases e:j=p+1
       ·subst e;rw [aP.2.u] at ak;rw [←Option.some.inj ak];exact (Me.set U).u
       ·rw [sf (by omega)];exact aG.2 j cs aw (by rw [sf (by omega)];exact ak)
     ·refine ⟨rQ,fun _ _=>⟨⟨?_,aP.2,Hm.refl _ _⟩,fun ab=>absurd ab aQ,fun _=>rfl⟩⟩;rw [OL,if_neg aQ];exact aP.1
    ·exact ⟨rQ,fun ab h=>absurd ⟨ab,h⟩ aP⟩)
   have cY:∀ i,i≤n→Inv (c+Hg k U n i) (J0 i)∧Ij L (.bR [lj b]) p U (J0 i)∧Hm N H (J0 i):=fun i=>by
    induction i with
    | zero=>intro _;rw [Lb];exact ⟨ag,l7,Hm.refl _ _⟩
    | succ i a8 =>
      intro hi;obtain ⟨aA,aG,aT⟩:=a8 (by omega);obtain ⟨⟨bl,cr,eY⟩,_,_⟩:=Kz i (by omega) ⟨aA,aG⟩;exact ⟨bl,cr,aT.trans eY⟩
   have RH:Hg k U n n=(qU (k+1) (rI U n)).length:=rfl;refine ⟨J0 n,by rw [←RH];exact (cY n (se _)).1,(cY n (se _)).2.2,?_⟩;refine rK eD O' rfl (IM (cY n (se _)).2.2.1) fun Q bo=>?_;have main:∀ T,T=qf 52 [(0,Hh begun),(1,.bR [lj b]),(2,.ptr p 0),(3,.ptr (p+1) 0),(4,.ptr (p+2) 0),(6,.bool false),(17,.bool false)]→dN Tryz.prog Ku 71 0 none JE T H Q:=by
    rintro _ rfl;unfold JE SK SJ;obtain ⟨br,eP⟩:∃ c,Lr=c:=⟨_,rfl⟩;rw [eP];(conv=>whnf);rw [←aI];refine .intro (fun m T H'=>∃ i:Nat,i≤n∧m=n-i∧T=qf 52 [(0,Hh begun),(3,.ptr (p+1) 0),(4,.ptr (p+2) 0),(26,hX n),(27,hX i)]∧H'=J0 i) n ⟨0,sE _,rfl,rfl,Lb.symm⟩ ?_;rintro m T H' ⟨i,hi,rfl,rfl,rfl⟩;(conv=>whnf);refine HG (fun aR=>?_) (fun aR=>?_)
    ·(have hc:i<n:=by omega);obtain ⟨aA,aG,_⟩:=cY i hi;obtain ⟨_,a7,a9⟩:=Kz i hc ⟨aA,aG⟩;(conv=>whnf);refine ⟨by omega,?_⟩;(conv=>whnf);refine Ew aG.u ?_;(conv=>whnf);rw [show 0+(i:Int).toNat*1=i by omega];refine Ew (x:=hX (U.getD i 0)) (by rw [sq,sB,sm (show i<U.length by omega)];rfl) ?_;(conv=>whnf);(have rJ:IntKind.i64.wrap ((i:Int)+1)=((i+1:Nat):Int):=by rw [HQ _ (by omega) (by omega)];omega);refine HG (fun aQ=>?_) (fun aQ=>?_)
     ·(conv=>whnf);refine ⟨n-(i+1),by omega,i+1,by omega,rfl,by rw [rJ];rfl,?_⟩;rw [a9 (by omega)]
     ·(have Nn:U.getD i 0=0:=by have:=Nr i;omega);obtain ⟨H2,Me,adw,cl⟩:=a7 Nn;(conv=>whnf);refine ⟨by omega,?_⟩;(conv=>whnf);refine Ew aG.u ?_;(conv=>whnf);rw [show 0+(i:Int).toNat*1=i by omega];refine Gn (by simp;omega) ?_;(conv=>whnf);rw [show (List.map hX U).set i (I.int IntKind.i64 1)=(U.set i 1).map hX by rw [tQ]];subst eP;refine ahH (aG.set (U.set i 1)) (by simpa using r8) (by omega) (by omega) ⟨H2,Me,cl,?_⟩;(conv=>whnf);refine ⟨n-(i+1),by omega,i+1,by omega,rfl,by rw [rJ];rfl,?_⟩;rw [List.set_set,YM (by omega) Nn,adw]
    ·(obtain rfl:i=n:=by omega);(conv=>whnf);exact bo _ _ _ ⟨.inr rfl,lF.refl _,rfl⟩
   rcases CM with ⟨rfl,rfl⟩ | ⟨rfl,bI⟩
   ·unfold Lq Ls;obtain ⟨fY,Ho⟩:∃ c,JE=c:=⟨_,rfl⟩;rw [Ho];(conv=>whnf);rw [decide_eq_false (show ¬ (((([]:List Int).length:Nat):Int)=(b.1.1.length:Int)) by simp only [List.length_nil];omega)];(conv=>whnf);subst Ho;exact main _ rfl
   ·obtain ⟨a,l,rfl⟩:=tY bI;unfold Lq Ls;obtain ⟨fY,Ho⟩:∃ c,JE=c:=⟨_,rfl⟩;rw [Ho];(conv=>whnf);rw [decide_eq_false (show ¬ ((((a::l).length:Nat):Int)=(b.1.1.length:Int)) by omega)];(conv=>whnf);subst Ho;exact main _ rfl
theorem ahr {b:((List (Int×Int))×(Int×Int))×Unit} (qR:b.1.1.length≤7) (iP:0<b.1.1.length):TX Tryz.prog 70 [.bR [lj b]] ((qU b.1.1.length (qo b.1.1.length)).map Hh):=by
 intro L N Inv kB ai H ag;have jQ:=WB qR;obtain ⟨H1,bV⟩:∃ H1,H1=((H++[.cells [.yield L]])++[.cells [hX 0,hX 0,hX 0,hX 0,hX 0,hX 0,hX 0]])++[.cells [I1 (.bR [lj b]) H.length]]:=⟨_,rfl⟩;have l1:(H++[ar.cells [I.yield L]]).length=H.length+1:=by simp
 have l2:((H++[ar.cells [I.yield L]])++[ar.cells [I.int IntKind.i64 0,I.int IntKind.i64 0,I.int IntKind.i64 0,I.int IntKind.i64 0,I.int IntKind.i64 0,I.int IntKind.i64 0,I.int IntKind.i64 0]]).length=H.length+2:=by simp
 have l7:Ij L (.bR [lj b]) H.length [0,0,0,0,0,0,0] H1:=by
  subst bV;refine ⟨?_,?_,?_⟩
  ·rw [sC,sk (by rw [l1];omega)];exact I2 _ _
  ·rw [sk (by rw [l2];omega),←l1];exact I2 _ _
  ·rw [←l2];exact I2 _ _
 obtain ⟨H',aA,aG,aT⟩:=VJ (b:=b) (L:=L) qR iP kB (kB.len _ _ ag).2 b.1.1.length [] .full [0,0,0,0,0,0,0] 0 rfl (fun i=>by
  rw [sB]
  match i with
  | 0 | 1 | 2 | 3 | 4 | 5 | 6 | i+7=>simp) (by simp) (by rw [jQ];simp [qo]) (.inl ⟨rfl,rfl⟩) (fun j l aw H' b7=>by
    rw [jQ] at aw;obtain ⟨ab,ae⟩:=sd.1 aw;rw [sG] at b7 ⊢;obtain ⟨H2,bl,cr,eY⟩:=ai j (by simpa using ab) H' b7;rw [tX,ae] at eY
    exact ⟨H2,bl,cr,eY⟩) H1 (by rw [bV,sC,sC];exact kB.more _ _ _ ag) l7
 rw [jQ,sG] at aA;refine ⟨H',by rw [sZ];exact aA,?_⟩;refine rK eD WM rfl (IM (by have:=aG.1;rw [bV] at this;simp at this;omega)) fun Q bo=>?_;rw [bV] at aT;unfold SH SI;conv=>whnf
 refine Ew (x:=.cells [.a0]) (by simp) ?_;conv=>whnf
 rw [HJ];refine Ew (x:=.cells [I1 (.bR [lj b]) H.length]) (by rw [List.getElem?_append_right (se _),l1,l2,Nat.sub_self];rfl) ?_;conv=>whnf
 refine ⟨_,_,rG (by rw [l1,l2];exact aT),?_⟩;conv=>whnf
 exact bo _ _ _ ⟨.inl rfl,lF.refl _,rfl⟩
theorem ahk {α:Type} {P:Program} {A:dt} {fn:FuncId} {rl:Option Nat} {k:FuncId} {cap:List I} {t:Nat} {bp:List Nat} {gE cp:Code} {T:List I} {H:List ar} {Q:cN→List I→List ar→Prop} {f:α→I} {L:List α} (ID:TX P k cap (L.map f))
  (ax:dc T t=.func k [] cap) {Inv:Nat→List ar→Prop} (kB:QC H.length (H.length+1) Inv) (aQ:Inv 0 (H++[.loop .ready none fn (T.map I.view) bp gE cp A]))
  (Li:∀ (i:Nat) (h:i<L.length) (H1:List ar),Inv i H1→∃ H',Inv (i+1) H'∧Hm (H.length+1) H1 H'∧Sem P (.yield H.length) [f L[i]] H1 0 (.bool true) H')
  (hc:inLoop H rl=true) (adI:∀ H',Inv L.length H'→H'[H.length]?=some (.loop .ready none fn (T.map I.view) bp gE cp A)) (bo:∀ H',Inv L.length H'→Q .normal (T.map I.settle) (H'.set H.length .dead)):dN P A fn 0 rl (.AM (.m_ t) bp gE cp) T H Q:=by
 show hF T t _;rw [iN,ax]
 obtain ⟨H',b7,cl⟩:=ID H.length (H.length+1) Inv kB (fun i h H1 bV=>by
  have aX:i<L.length:=by simpa using h
  obtain ⟨H2,bl,cr,eY⟩:=Li i aX H1 bV
  exact ⟨H2,bl,cr,by rw [tX];exact eY⟩) _ aQ
 rw [sZ] at b7;refine ⟨hc,.tuple [],H',.ready,none,fn,T.map I.view,bp,gE,cp,A,cl,adI _ b7,by decide,bo _ b7⟩
end Go.Proofs.YtkoioidpbbbaiaaGreat.Ab


namespace Go.Proofs.YtkoioidpbbbaiaaGreat.Ab
open Go
noncomputable def Yv:gB :=
 .ou false [p4 7 27]
noncomputable def N0:gB :=
 p5 [p4 58 11,p4 59 58,ch 60 [.jm 13] 59 true .mR,p3 61 [.Bs 59,.Bs 60,.cv (.bool false)] .pick] (.cond (.m_ 61) (qE [p4 62 9,p3 63 [.m_ 6,.Bs 62] (.zu 7 1),⟨none,[.jm 63,.cv (.int .i64 1)],none,none,.st 1⟩]) .skip)
noncomputable def N1:gB :=
 p5 [p3 49 [.m_ 4] (.zE .one),p6 50 7,p6 51 8,qu 52 51 2 .rem,p4 53 8,p3 54 [.Bs 53] (.yB 1 1 [.int .i64 0] [0]),p3 55 [.cv (.func 60 [] []),.jm 49,.jm 50,.jm 52,.jm 54] (.call 1),p4 48 55,qQ 56 48 0,p3 57 [.Bs 48] (.ext 1),p4 12 56,p4 13 57] N0
noncomputable def Px:gB :=
 p5 [p3 40 [.m_ 4] (.zE .one),p6 41 7,p6 42 8,qu 43 42 2 .rem,p3 44 [.cv (.int .i64 1),.Bs 43] (.bin .sub),p3 45 [.cv (.func 60 [] []),.jm 40,.jm 41,.jm 44,.cv (.av [] 0 .full)] (.call 1),p4 39 45,qQ 46 39 0,p3 47 [.Bs 39] (.ext 1),p4 10 46,p4 11 47] N1
noncomputable def YA:gB :=
 .seq (p5 [p6 35 9,p3 36 [.m_ 6,.Bs 35] (.zu 7 1),ql 37 36,qu 38 37 0 .gtr] (.cond (.m_ 38) (.exit 3) .skip)) Px
noncomputable def SY:gB :=
 .block 3 (p5 [p6 32 30,p3 33 [.m_ 28,.m_ 30] (.kV 1),ql 34 33,p4 8 32,p4 9 34] YA)
noncomputable def Yz:gB :=
 .block 1 (p5 [p6 28 7,p3 29 [.m_ 28] .zJ,qg 30 0] (.block 2 (.loop (some (qb false [4,1,1,2,20,3,55])) (p5 [p3 31 [.m_ 30,.m_ 29] (.bin .lss)] (.seq (.cond (.m_ 31) .skip (.exit 2)) (.seq SY (qE [qV 64 30 1,p4 30 64])))))))
theorem aex:eu Go.Proofs.Tryz.prog JR (rC Go.Proofs.Tryz.prog 24 0) 0=some Yv:=by kernel_rfl
theorem aeB:eu Go.Proofs.Tryz.prog JR (rD Go.Proofs.Tryz.prog 24 0) 0=some Yz:=by kernel_rfl
end Go.Proofs.YtkoioidpbbbaiaaGreat.Ab


namespace Go.Proofs.YtkoioidpbbbaiaaGreat.Ab
open Go
set_option maxRecDepth 20000
set_option maxHeartbeats 4000000
def JT (b:r_) (o:List Int) (F:List Int) (i:Int):Option (List Int) :=
 qq (0≤ix o i∧ix o i<7) <|
 if 0<ix F (ix o i) then some F else
 (Iw b o (w (1-i.tmod 2)) []).bind fun x=>(Iw b o (i.tmod 2) [i]).bind fun y =>
 some (if (x.2 && y.2)=true then F.set (ix o i).toNat 1 else F)
theorem HW.r3 {b:r_} {m j:Nat} {H:List ar} {o cw:ar} (h:HW b m H) (aw:H[j]?=some o) (hm:∀ es c,o≠.map es c):HW b m (H.set j cw):=by
 obtain ⟨es,IW,ab,ae⟩:=h;have adJ:j≠m:=fun e=>by subst e;rw [ab] at aw;exact hm _ _ (Option.some.inj aw).symm
 refine ⟨es,IW,by rw [sf adJ];exact ab,fun e he=>?_⟩;obtain ⟨x,id,c,A,aA,aG,aT,bq,bf⟩:=ae e he;have h7:j≠id:=fun e=>by subst e;rw [bq] at aw;exact hm _ _ (Option.some.inj aw).symm
 exact ⟨x,id,c,A,aA,aG,aT,by rw [sf h7];exact bq,bf⟩
structure Good (b:r_) (rY:ar) (F:List Int) (H:List ar):Prop where
 f:HW b 0 H
 p:H[1]?=some (.cells [r0 b 0])
 m:H[2]?=some (.cells (F.map hX))
 l:H[3]?=some rY
 n:F.length=7
theorem Good.ext {b:r_} {rY:ar} {F:List Int} {H H':List ar} (h:Good b rY F H) (aP:HW b 0 H') (he:Ii 0 H H'):Good b rY F H':=by
 have aF:=(sd.1 h.l).1;exact ⟨aP,by rw [he.2 1 (by omega) (by omega)];exact h.p,by rw [he.2 2 (by omega) (by omega)];exact h.m,by rw [he.2 3 (by omega) aF];exact h.l,h.n⟩
theorem Good.mark {b:r_} {rY:ar} {F Jb:List Int} {H:List ar} (h:Good b rY F H) (aI:Jb.length=7):Good b rY Jb (H.set 2 (.cells (Jb.map hX))) :=
 ⟨h.f.r3 h.m (fun _ _ e=>by cases e),by rw [sf (by omega)];exact h.p,sn (sd.1 h.m).1,by rw [sf (by omega)];exact h.l,aI⟩
theorem Ii.cB {H H':List ar} (h:Ii 0 H H'):Hm 4 H H':=⟨h.1,fun j c aw ak=>by rw [h.2 j (by omega) (sd.1 ak).1];exact ak⟩
theorem adZ {b:r_} {o F Jb:List Int} {i:Int} (h:JT b o F i=some Jb) {rY:ar} {H:List ar} (rF:Good b rY F H) :
  ∃ H',Good b rY Jb H'∧Hm 4 H H'∧(0≤ix o i∧ix o i<7)∧(0<ix F (ix o i)→H'=H) ∧
    (¬ 0<ix F (ix o i)→∃ x y H1 H2,(x.2 && y.2)=true∧Jb=F.set (ix o i).toNat 1∧H'=H2.set 2 (.cells (Jb.map hX))∧Good b rY F H2∧Good b rY F H1 ∧
      Sem Tryz.prog (.fn 60) [r0 b 0,.av (o.map hX) o.length .shared,hX (w (1-i.tmod 2)),.av [] 0 .full] H 0 (.tuple [.av [] 0 .shared,B x.2]) H1 ∧
      Sem Tryz.prog (.fn 60) [r0 b 0,.av (o.map hX) o.length .shared,hX (i.tmod 2),.av [hX i] 1 (.uniq 1)] H1 0 (.tuple [.av ((y:List qB×Bool).1.flatMap qx) y.1.length .shared,B y.2]) H2 ∨
     (x.2 && y.2)=false∧Jb=F∧H'=H2∧Good b rY F H2∧Good b rY F H1 ∧
      Sem Tryz.prog (.fn 60) [r0 b 0,.av (o.map hX) o.length .shared,hX (w (1-i.tmod 2)),.av [] 0 .full] H 0 (.tuple [.av [] 0 .shared,B (x:List qB×Bool).2]) H1 ∧
      Sem Tryz.prog (.fn 60) [r0 b 0,.av (o.map hX) o.length .shared,hX (i.tmod 2),.av [hX i] 1 (.uniq 1)] H1 0 (.tuple [.av (y.1.flatMap qx) y.1.length .shared,B y.2]) H2):=by
 unfold JT at h;obtain ⟨ah,h⟩:=rV h;by_cases aB:0<ix F (ix o i)
 ·rw [if_pos aB] at h;obtain rfl:=Option.some.inj h;exact ⟨H,rF,Hm.refl _ _,ah,fun _=>rfl,fun aI=>absurd aB aI⟩
 ·rw [if_neg aB] at h;obtain ⟨x,aj,h⟩:=p' h;obtain ⟨y,aY,h⟩:=p' h;obtain rfl:=Option.some.inj h;obtain ⟨xf,W6,s1⟩:=ZV aj (m:=0) (lo:=0) (H:=H) (sE _);have e1:Ii 0 H (H++[W6]):=⟨by simp,fun j _ aw=>by rw [sk aw]⟩;have cc:Good b rY F (H++[W6]):=rF.ext (rF.f.more _) e1;obtain ⟨H2,f2,b9,s2⟩:=ZW aY (lo:=0) (se 0) cc.f;have b_:Good b rY F H2:=cc.ext f2 b9;cases af:(x.2 && y.2) with
  | true =>
    rw [if_pos rfl];refine ⟨H2.set 2 (.cells ((F.set (ix o i).toNat 1).map hX)),b_.mark (by rw [List.length_set];exact b_.n),?_,ah,fun h=>absurd h aB,fun _=>⟨x,y,_,H2,.inl ⟨af,rfl,rfl,b_,cc,s1,s2⟩⟩⟩;have k:=(e1.cB).trans b9.cB;refine ⟨by have:=k.1;simpa using this,fun j c aw ak=>by rw [sf (by omega)];exact k.2 j c aw ak⟩
  | false =>
    rw [if_neg (by decide)];exact ⟨H2,b_,(e1.cB).trans b9.cB,ah,fun h=>absurd h aB,fun _=>⟨x,y,_,H2,.inr ⟨af,rfl,rfl,b_,cc,s1,s2⟩⟩⟩
theorem ack {F:List Int} {k:Int} (al:0≤k∧k<7) (bF:F.length=7):(F.map hX)[0+k.toNat*1]?=some (hX (ix F k)):=by
 have h:k.toNat<F.length:=by omega
 rw [sG,tz,sq,sm h];simp [ix,sB,sm h]
theorem ahi {b:r_} {o F Jb:List Int} (aq:o≠[]) (fI:o.length≤1000) (h:Iz (JT b o) (qo o.length) F=some Jb) {gq Gi r2 I9 MR:I} {H:List ar} (rF:Good b (.loop .ready none 24 (qf 86 [(2,gq),(3,Gi),(4,.ptr 1 0),(5,r2),(6,.ptr 2 0),(23,I9),(26,MR)]) [27] (rC Tryz.prog 24 0) (rD Tryz.prog 24 0) JR) F H) :
  ∃ H',Good b (.loop .ready none 24 (qf 86 [(2,gq),(3,Gi),(4,.ptr 1 0),(5,r2),(6,.ptr 2 0),(23,I9),(26,MR)]) [27] (rC Tryz.prog 24 0) (rD Tryz.prog 24 0) JR) Jb H'∧Hm 4 H H'∧Sem Tryz.prog (.yield 3) [Hh o] H 0 (.bool true) H':=by
 obtain ⟨Ht,Nq,La,Rk⟩:=OT h;rw [Lz] at La;obtain ⟨n,aI⟩:∃ n,n=o.length:=⟨_,rfl⟩;rw [←aI] at La fI;obtain ⟨IE,VZ⟩:∃ IE:ar,IE=(.loop .busy none 24 (qf 86 [(2,gq),(3,Gi),(4,.ptr 1 0),(5,r2),(6,.ptr 2 0),(23,I9),(26,MR)]) [27] (rC Tryz.prog 24 0) (rD Tryz.prog 24 0) JR):=⟨_,rfl⟩;obtain ⟨Pa,RL⟩:∃ Pa:ar,Pa=(.loop .ready none 24 (qf 86 [(2,gq),(3,Gi),(4,.ptr 1 0),(5,r2),(6,.ptr 2 0),(23,I9),(26,MR)]) [27] (rC Tryz.prog 24 0) (rD Tryz.prog 24 0) JR):=⟨_,rfl⟩;rw [←RL] at rF ⊢;have Dl:∀ es c,Pa≠.map es c:=fun _ _ e=>by rw [RL] at e;cases e
 have kJ:∀ es c,IE≠.map es c:=fun _ _ e=>by rw [VZ] at e;cases e
 have ac2:Good b IE F (H.set 3 IE):=⟨rF.f.r3 rF.l Dl,by rw [sf (by omega)];exact rF.p,by rw [sf (by omega)];exact rF.m,sn (sd.1 rF.l).1,rF.n⟩;have ac1:∀ i (hi:i<n),JT b o (Ht i) (i:Int)=some (Ht (i+1)):=fun i hi=>by
  have:=Rk i (by rw [Lz];omega);simpa [qo] using this
 classical
 obtain ⟨Hs,gI,Md⟩:=OJ (fun i rQ H8=>i<n→Good b IE (Ht i) rQ→Good b IE (Ht (i+1)) H8∧Hm 4 rQ H8∧(0≤ix o i∧ix o i<7)∧(0<ix (Ht i) (ix o i)→H8=rQ) ∧
   (¬ 0<ix (Ht i) (ix o i)→∃ x y H1 H2,(x.2 && y.2)=true∧Ht (i+1)=(Ht i).set (ix o i).toNat 1∧H8=H2.set 2 (.cells ((Ht (i+1)).map hX))∧Good b IE (Ht i) H2∧Good b IE (Ht i) H1 ∧
     Sem Tryz.prog (.fn 60) [r0 b 0,.av (o.map hX) o.length .shared,hX (w (1-(i:Int).tmod 2)),.av [] 0 .full] rQ 0 (.tuple [.av [] 0 .shared,B x.2]) H1 ∧
     Sem Tryz.prog (.fn 60) [r0 b 0,.av (o.map hX) o.length .shared,hX ((i:Int).tmod 2),.av [hX (i:Int)] 1 (.uniq 1)] H1 0 (.tuple [.av ((y:List qB×Bool).1.flatMap qx) y.1.length .shared,B y.2]) H2 ∨
    (x.2 && y.2)=false∧Ht (i+1)=Ht i∧H8=H2∧Good b IE (Ht i) H2∧Good b IE (Ht i) H1 ∧
     Sem Tryz.prog (.fn 60) [r0 b 0,.av (o.map hX) o.length .shared,hX (w (1-(i:Int).tmod 2)),.av [] 0 .full] rQ 0 (.tuple [.av [] 0 .shared,B (x:List qB×Bool).2]) H1 ∧
     Sem Tryz.prog (.fn 60) [r0 b 0,.av (o.map hX) o.length .shared,hX ((i:Int).tmod 2),.av [hX (i:Int)] 1 (.uniq 1)] H1 0 (.tuple [.av (y.1.flatMap qx) y.1.length .shared,B y.2]) H2)) (H.set 3 IE) (fun i rQ=>by
  by_cases aO:i<n∧Good b IE (Ht i) rQ
  ·obtain ⟨H',aA⟩:=adZ (ac1 i aO.1) aO.2;exact ⟨H',fun _ _=>aA⟩
  ·exact ⟨rQ,fun ab ae=>absurd ⟨ab,ae⟩ aO⟩)
 have cY:∀ i,i≤n→Good b IE (Ht i) (Hs i)∧Hm 4 (H.set 3 IE) (Hs i):=fun i=>by
  induction i with
  | zero=>intro _;rw [gI,Nq];exact ⟨ac2,Hm.refl _ _⟩
  | succ i a8 =>
    intro hi;obtain ⟨aA,aG⟩:=a8 (by omega);obtain ⟨bl,cr,_⟩:=Md i (by omega) aA;exact ⟨bl,aG.trans cr⟩
 obtain ⟨Ky,V_⟩:=cY n (se _);rw [La] at Ky;have hlen:H.length≤(Hs n).length:=by have:=V_.1;simpa using this
 refine ⟨(Hs n).set 3 Pa,⟨Ky.f.r3 Ky.l kJ,by rw [sf (by omega)];exact Ky.p,by rw [sf (by omega)];exact Ky.m,sn (sd.1 Ky.l).1,Ky.n⟩,⟨by simpa using hlen,fun j c aw ak=>by rw [sf (by omega)];exact V_.2 j c aw (by rw [sf (by omega)];exact ak)⟩,?_⟩;subst RL;refine PB eD aex aeB rF.l rfl (IM (by simpa using hlen)) ?_;obtain ⟨f_,e,mu⟩:=tY aq;have adp:Hh o=.av (o.map hX) o.length (.own 1):=by rw [mu];rfl
 rw [adp];unfold Yv;conv=>whnf
 refine ⟨rfl,rF.l,?_⟩;rw [←VZ];unfold Yz;obtain ⟨dS,Cr⟩:∃ c,SY=c:=⟨_,rfl⟩;rw [Cr];conv=>whnf
 rw [←aI];refine .intro (fun m T H'=>∃ i:Nat,i≤n∧m=n-i∧T=qf 86 [(4,.ptr 1 0),(6,.ptr 2 0),(7,.av (o.map hX) n (.own 1)),(28,.av (o.map hX) n .shared),(29,hX n),(30,hX i)]∧H'=Hs i) n ⟨0,sE _,rfl,rfl,gI.symm⟩ ?_;rintro m T H' ⟨i,hi,rfl,rfl,rfl⟩;conv=>whnf
 refine HG (fun aR=>?_) (fun aR=>?_)
 ·have hc:i<n:=by omega
  have IC:0≤(i:Int)∧(i:Int)<(o.length:Int):=by omega
  have a:=cY i hi;obtain ⟨_,_,ah,a7,a9⟩:=Md i hc a.1;have rJ:IntKind.i64.wrap ((i:Int)+1)=((i+1:Nat):Int):=by rw [HQ _ (by omega) (by omega)];omega
  subst Cr;unfold SY YA;obtain ⟨br,eP⟩:∃ c,Px=c:=⟨_,rfl⟩;rw [eP];conv=>whnf
  refine ⟨by omega,?_⟩;rw [ri hX o (i:Int) IC];conv=>whnf
  refine ⟨ah,?_⟩;conv=>whnf
  refine Ew a.1.m ?_;conv=>whnf
  refine Ew (x:=hX (ix (Ht i) (ix o i))) (ack ah a.1.n) ?_;conv=>whnf
  refine HG (fun aB=>?_) (fun aB=>?_)
  ·(conv=>whnf);refine ⟨n-(i+1),by omega,i+1,by omega,rfl,by rw [rJ];rfl,?_⟩;rw [a7 aB]
  ·obtain ⟨x,y,H1,H2,a1⟩:=a9 aB;subst eP;rcases a1 with ⟨af,OW,b7,b_,cc,s1,s2⟩ | ⟨af,OW,b7,b_,cc,s1,s2⟩
   ·unfold Px;obtain ⟨ab4,Nm⟩:∃ c,N1=c:=⟨_,rfl⟩;rw [Nm];(conv=>whnf);refine Ew a.1.p ?_;(conv=>whnf);refine ⟨by decide,?_⟩;(conv=>whnf);rw [←aI] at s1 s2;refine ⟨_,_,rG s1,?_⟩;(conv=>whnf);subst Nm;unfold N1;obtain ⟨B8,Nl⟩:∃ c,N0=c:=⟨_,rfl⟩;rw [Nl];(conv=>whnf);refine Ew cc.p ?_;(conv=>whnf);refine ⟨by decide,?_⟩;(conv=>whnf);refine ⟨_,_,rG s2,?_⟩;(conv=>whnf);subst Nl;unfold N0;cases aj:x.2 <;> cases aY:y.2 <;> rw [aj,aY] at af
    ·cases af
    ·cases af
    ·cases af
    ·(conv=>whnf);refine ⟨ah,?_⟩;(conv=>whnf);refine Ew b_.m ?_;(conv=>whnf);refine Gn (by rw [sZ,b_.n];omega) ?_;(conv=>whnf);refine ⟨n-(i+1),by omega,i+1,by omega,rfl,by rw [rJ];rfl,?_⟩;rw [b7,OW,tQ,sG,tz]
   ·unfold Px;obtain ⟨ab4,Nm⟩:∃ c,N1=c:=⟨_,rfl⟩;rw [Nm];(conv=>whnf);refine Ew a.1.p ?_;(conv=>whnf);refine ⟨by decide,?_⟩;(conv=>whnf);rw [←aI] at s1 s2;refine ⟨_,_,rG s1,?_⟩;(conv=>whnf);subst Nm;unfold N1;obtain ⟨B8,Nl⟩:∃ c,N0=c:=⟨_,rfl⟩;rw [Nl];(conv=>whnf);refine Ew cc.p ?_;(conv=>whnf);refine ⟨by decide,?_⟩;(conv=>whnf);refine ⟨_,_,rG s2,?_⟩;(conv=>whnf);subst Nl;unfold N0;cases aj:x.2 <;> cases aY:y.2 <;> rw [aj,aY] at af
    ·(conv=>whnf);refine ⟨n-(i+1),by omega,i+1,by omega,rfl,by rw [rJ];rfl,?_⟩;rw [b7]
    ·(conv=>whnf);refine ⟨n-(i+1),by omega,i+1,by omega,rfl,by rw [rJ];rfl,?_⟩;rw [b7]
    ·(conv=>whnf);refine ⟨n-(i+1),by omega,i+1,by omega,rfl,by rw [rJ];rfl,?_⟩;rw [b7]
    ·cases af
 ·obtain rfl:i=n:=by omega
  conv=>whnf
  exact ⟨rfl,Ky.l,lF.refl _⟩
end Go.Proofs.YtkoioidpbbbaiaaGreat.Ab


namespace Go.Proofs.YtkoioidpbbbaiaaGreat.Ab
open Go
noncomputable def St:gB :=
 .ou false [p6 75 14,p6 76 14,qZ 77 76,p4 78 14,qZ 79 78,p3 80 [.jm 75,.jm 77,.jm 79] (.Bh 1 false true true),p4 81 15,p3 82 [.Bs 81] (.yB 1 1 [.int .i64 0] [0]),p3 83 [.jm 80,.jm 82] (.app 1 8),p4 14 83]
noncomputable def Su:gB :=
 .block 5 (p5 [p6 71 69, p3 72 [.m_ 68, .m_ 69] (.other (Oper.mk (some 72) (Op.index 91 (Operand.tmp 68) (Operand.tmp 69)) 3 "curl.go:170" (Array.mk []) none) 0), p4 15 71, p4 16 72] (p5 [p4 73 16, qu 74 73 0 .gtr] (.cond (.m_ 74) St .skip)))
noncomputable def Sv:gB :=
 .seq (p5 [p3 68 [.Bs 6] (.zE (.arr 7)),qg 69 0] (.block 4 (.loop (some (qb false [14,1,53,2,16])) (p5 [p3 70 [.m_ 69,.cv (.int .i64 7)] (.bin .lss)] (.seq (.cond (.m_ 70) .skip (.exit 4)) (.seq Su (qE [qV 84 69 1,p4 69 84]))))))) (p5 [p4 85 14,p4 2 85,qg 3 0] .ret)
noncomputable def NT:gB :=
 .seq (p5 [p3 65 [.m_ 6] (.zE (.arr 7)), p3 66 [] (.build [.int .i64 0, .int .i64 0, .int .i64 0, .int .i64 0, .int .i64 0, .int .i64 0, .int .i64 0] []), p3 67 [.Bs 65, .Bs 66] (.other (Oper.mk (some 67) (Op.binOp .eql 91 (Operand.tmp 65) (Operand.tmp 66) 91) 4 "curl.go:166" (Array.mk [Edge.mk 0 Ground.data, Edge.mk 1 Ground.data]) none) 0)] (.cond (.m_ 67) (p5 [p3 2 [.cv (.av [] 0 .full)] (.nil 1), qg 3 0] .ret) .skip)) (p5 [p3 14 [.cv (.av [] 0 .full)] (.nil 1)] Sv)
noncomputable def Pg:gB :=
 .seq (p5 [p6 22 5,qu 23 22 0 .neq] (.cond (.m_ 23) (p5 [p4 24 5,p3 2 [.cv (.av [] 0 .full)] (.nil 1),p4 3 24] .ret) .skip)) (p5 [p3 6 [] (.alloc [.int .i64 0,.int .i64 0,.int .i64 0,.int .i64 0,.int .i64 0,.int .i64 0,.int .i64 0])] (.seq (p5 [p3 25 [.m_ 4] (.zE .one),p3 26 [.cv (.func 43 [] []),.jm 25] (.call 9)] (.block 0 (.AM (.m_ 26) [27] (rC Go.Proofs.Tryz.prog 24 0) (rD Go.Proofs.Tryz.prog 24 0)))) NT))
noncomputable def X4:gB :=
 p5 [p3 18 [.Bs 1] (.zE (.str 3)),p3 19 [.cv (.func 40 [] []),.jm 18,.cv (.av [] 0 .full)] (.call 8),p4 17 19,qQ 20 17 0,p3 21 [.Bs 17] (.ext 1),p3 4 [] (.alloc [.eF]),⟨none,[.m_ 4,.jm 20],none,none,.st 1⟩,p4 5 21] Pg
noncomputable def X3:gB :=
 p5 [p3 1 [.jm 0] .yy,p3 2 [.cv (.av [] 0 .full)] (.nil 1),qg 3 0] X4
theorem aej:qt Go.Proofs.Tryz.prog JR 24=some (X3,86,[.tmp 2,.tmp 3]):=by kernel_rfl
end Go.Proofs.YtkoioidpbbbaiaaGreat.Ab


namespace Go.Proofs.YtkoioidpbbbaiaaGreat.Ab
open Go
set_option maxRecDepth 20000
set_option maxHeartbeats 4000000
theorem YJ {P:Program} {k:FuncId} {args:List I} {H H':List ar} {lo:Nat} {r:I} (h:Sem P (.fn k) (args.map I.ca) H lo r H'):Sem P (.fn k) args H lo r H':=by
 obtain ⟨aQ,ab,ae⟩:=h;exact ⟨aQ,ab,fun B aa J S w vs ag aI ad=>ae B aa J S w vs ag aI ad.ca⟩
abbrev L3 (p:qm):List I:=[(.agg [(.av (p.1.flatMap p_) p.1.length .shared),(hX p.2.1),(hX p.2.2)]),(.av [] 0 .full)]
section
variable {p:qm}
theorem ab9 {e:Int} {lo:Nat} (h:rW p []=some (none,e)):oU Tryz.prog 8 lo (.fn 40) (L3 p) [] (.tuple [.eF,hX e]) [] :=
 ⟨_,EB (r:=.tuple [.eF,hX e]) (H':=[rS p]) (YJ (args:=L3 p) (by exact ZI h)),by
  show (k6 _ _ _ _ _ _ (.fn 40) (L3 p) [] 0).bind _=_
  rw [EA];rfl⟩
theorem aca {t:qm×Unit} {e:Int} {lo:Nat} (h:rW p []=some (some t,e)):oU Tryz.prog 8 lo (.fn 40) (L3 p) [] (.tuple [.bR [(.av (p.1.flatMap p_) p.1.length .shared),(hX p.2.1),(hX p.2.2),.map 0],hX 0]) [.map [] 0] :=
 ⟨_,EB (r:=.tuple [.ptr 2 0,hX 0]) (H':=[rS p,.map [] 0,.cells [(.av (p.1.flatMap p_) p.1.length .shared),(hX p.2.1),(hX p.2.2),.map 1]]) (YJ (args:=L3 p) (by exact (Of h).2.2)),by
  show (k6 _ _ _ _ _ _ (.fn 40) (L3 p) [] 0).bind _=_;rw [EA];have e1:dZ (bL [rS p,.map [] 0,.cells [(.av (p.1.flatMap p_) p.1.length .shared),(hX p.2.1),(hX p.2.2),.map 1]] 0 1 0 6) [(.av (p.1.flatMap p_) p.1.length .shared),(hX p.2.1),(hX p.2.2),.map 1]=some [(.av (p.1.flatMap p_) p.1.length .shared),(hX p.2.1),(hX p.2.2),.map 0] :=
   rM (yW (HB (fun _=>p9 rfl (p9 rfl rfl)) _ _ _)) (rM (yW rfl) (rM (yW rfl) (rM rfl IP)))
  have b9:bL [rS p,.map [] 0,.cells [(.av (p.1.flatMap p_) p.1.length .shared),(hX p.2.1),(hX p.2.2),.map 1]] 0 1 0 8 (.tuple [.ptr 2 0,hX 0])=some (.tuple [.bR [(.av (p.1.flatMap p_) p.1.length .shared),(hX p.2.1),(hX p.2.2),.map 0],hX 0]) :=
   Nh (rM (show (dZ (bL [rS p,.map [] 0,.cells [(.av (p.1.flatMap p_) p.1.length .shared),(hX p.2.1),(hX p.2.2),.map 1]] 0 1 0 6) [(.av (p.1.flatMap p_) p.1.length .shared),(hX p.2.1),(hX p.2.2),.map 1]).map I.bR=_ by rw [e1];rfl) (rM rfl IP))
  show (match mapM (bL [rS p,.map [] 0,.cells [(.av (p.1.flatMap p_) p.1.length .shared),(hX p.2.1),(hX p.2.2),.map 1]] 0 1 0 8) [],bL [rS p,.map [] 0,.cells [(.av (p.1.flatMap p_) p.1.length .shared),(hX p.2.1),(hX p.2.2),.map 1]] 0 1 0 8 (.tuple [.ptr 2 0,hX 0]) with | some es',some v=>some (v,[]++[ar.map es' 0]) | _,_=>none)=_
  rw [b9];rfl⟩
end
def L8 (b:r_) (F:List Int) (o:List Int):Option (List Int):=Iz (JT b o) (qo o.length) F
def K7 (F:List Int):List Int×Int:=if decide (F=[0,0,0,0,0,0,0])=true then ([],0) else ((qo 7).filter (fun s=>decide (0<ix F s)),0)
def LJ (p:qm):Option (List Int×Int) :=
 (rW p []).bind fun r=>match r with
 | (none,q)=>if decide (q≠0)=true then some ([],q) else none
 | (some b,_) =>
   qq (0<b.1.1.length∧b.1.1.length≤7) <|
   (Iz (L8 b) (qU b.1.1.length (qo b.1.1.length)) [0,0,0,0,0,0,0]).bind fun F =>
   some (K7 F)
theorem aeb {n:Nat} {left:List Int}:∀ e∈qU n left,e.length=n:=fun e he=>by
 induction n generalizing left e with
 | zero=>simp [qU] at he;simp [he]
 | succ n a8 =>
   simp only [qU,tW,sH] at he;obtain ⟨x,_,l,ao,rfl⟩:=he;simp [a8 l ao]
theorem Good.more {b:r_} {rY:ar} {F:List Int} {H:List ar} (h:Good b rY F H) (Z:List ar):Good b rY F (H++Z) :=
 h.ext (h.f.more Z) ⟨by simp,fun j _ aw=>by rw [sk aw]⟩
theorem Good.ahw {b:r_} {rY:ar} {F:List Int} {H:List ar} {j:Nat} {c:List I} (dR:List I) (h:Good b rY F H) (aw:4≤j) (ak:H[j]?=some (.cells c)):Good b rY F (H.set j (.cells dR)) :=
 ⟨h.f.r3 ak (fun _ _ e=>by cases e),by rw [sf (by omega)];exact h.p,by rw [sf (by omega)];exact h.m,by rw [sf (by omega)];exact h.l,h.n⟩
theorem Y' (n:Nat):qo (n+1)=qo n++[(n:Int)]:=by simp [qo,vm]
theorem ahQ {b:r_} {rY:ar} {F:List Int} {H':List ar} (rF:Good b rY F H') {gq Gi r2 I9 MR:I} {Q:cN→List I→List ar→Prop}
  (jG:∀ T H,HX [.tmp 2,.tmp 3] (.tuple [.av ((K7 F).1.map hX) (K7 F).1.length .shared,hX (K7 F).2]) .ret T H→Q .ret T H) :
  dN Tryz.prog JR 24 0 none NT (qf 86 [(2,gq),(3,Gi),(4,.ptr 1 0),(5,r2),(6,.ptr 2 0),(23,I9),(26,MR)]) (H'.set 3 .dead) Q:=by
 unfold NT;obtain ⟨br,eP⟩:∃ c,Sv=c:=⟨_,rfl⟩;rw [eP];have hm:(H'.set 3 .dead)[2]?=some (.cells (F.map hX)):=by rw [sf (by omega)];exact rF.m
 have aI:=rF.n;conv=>whnf
 refine Ew hm ?_;conv=>whnf
 refine ⟨by simp [aI],?_⟩;rw [WA hX F (fun _=>rfl) aI];conv=>whnf
 refine ⟨_,_,fun C=>Xa rfl rfl (aa4 .i64 (e:=3) (len:=7) (kd:=.i64) (xs:=F) (ys:=[(0:Int),0,0,0,0,0,0]) (by kernel_rfl) (by kernel_rfl) (by kernel_rfl) (by kernel_rfl) aI rfl),?_⟩;conv=>whnf
 unfold K7 at jG;refine HG (fun bj=>?_) (fun bj=>?_)
 ·rw [decide_eq_true bj] at jG;conv=>whnf
  exact jG _ _ (It rfl rfl)
 ·rw [decide_eq_false bj] at jG;conv=>whnf
  subst eP;unfold Sv;obtain ⟨a9,b_⟩:∃ c,Su=c:=⟨_,rfl⟩;rw [b_];conv=>whnf
  refine Ew hm ?_;conv=>whnf
  refine ⟨by simp [aI],?_⟩;rw [WA hX F (fun _=>rfl) aI];conv=>whnf
  refine .intro (fun m T H=>∃ (i:Nat) (L:List Int) (c:hB),i≤7∧m=7-i∧L=(qo i).filter (fun s=>decide (0<ix F s))∧c=.uniq 1∧T=qf 86 [(14,.av (L.map hX) L.length c),(68,.agg (F.map hX)),(69,hX i)]∧H=H'.set 3 .dead) 7 ⟨0,[],_,by omega,rfl,rfl,rfl,rfl,rfl⟩ ?_;rintro m T H ⟨i,L,c,hi,rfl,fm,rfl,rfl,rfl⟩;conv=>whnf
  refine HG (fun aR=>?_) (fun aR=>?_)
  ·(have rJ:IntKind.i64.wrap ((i:Int)+1)=((i+1:Nat):Int):=by rw [HQ _ (by omega) (by omega)];omega);subst b_;unfold Su;obtain ⟨a7,cc⟩:∃ c,St=c:=⟨_,rfl⟩;rw [cc];(conv=>whnf);refine ⟨_,_,fun C=>afS rfl (aa6 (e:=3) (len:=7) (kd:=.i64) (by kernel_rfl) (by kernel_rfl) (by kernel_rfl) (by kernel_rfl) aI ⟨by omega,aR⟩),?_⟩;(conv=>whnf);refine HG (fun aB=>?_) (fun aB=>?_)
   ·subst cc;unfold St;have ajV:L.length≤7:=by
     have:=uS (fun s=>decide (0<ix F s)) (qo i);rw [Lz] at this;rw [fm];omega
    (conv=>whnf);refine ⟨⟨rfl,by omega,sY _⟩,?_⟩;(conv=>whnf);rw [tD,tz,tb (by simp)];refine ⟨rfl,by decide,?_⟩;(conv=>whnf);refine ⟨by decide,by omega,by simp,?_⟩;(conv=>whnf);refine ⟨7-(i+1),by omega,i+1,_,.uniq 1,by omega,rfl,rfl,rfl,?_,rfl⟩;rw [Y',tE,←fm,show [(i:Int)].filter (fun s=>decide (0<ix F s))=[(i:Int)] by simp [aB],sR,sD,rJ];rfl
   ·(conv=>whnf);refine ⟨7-(i+1),by omega,i+1,L,.uniq 1,by omega,rfl,?_,rfl,by rw [rJ];rfl,rfl⟩;rw [Y',tE,←fm,show [(i:Int)].filter (fun s=>decide (0<ix F s))=[] by simp [aB],sM]
  ·(obtain rfl:i=7:=by omega);(conv=>whnf);rw [fm];exact jG _ _ (It rfl rfl)
theorem ZD {p:qm} {v:List Int×Int} (h:LJ p=some v):qv 24 [.agg [.av (p.1.flatMap p_) p.1.length .shared,hX p.2.1,hX p.2.2]] (.tuple [.av (v.1.map hX) v.1.length .shared,hX v.2]):=by
 unfold LJ at h;obtain ⟨⟨aS,bh⟩,ai,h⟩:=p' h;refine qN eD aej rfl (Ir (p9 (rL (fun _=>rfl) _ _ _) (p9 rfl rfl))) fun Q bo=>?_;have jG:∀ T H,HX [.tmp 2,.tmp 3] (.tuple [.av (v.1.map hX) v.1.length .shared,hX v.2]) .ret T H→Q .ret T H:=fun T H bD=>bo _ T H bD;unfold X3 X4;obtain ⟨dS,Cr⟩:∃ c,Pg=c:=⟨_,rfl⟩;rw [Cr];conv=>whnf
 refine ⟨rfl,?_⟩;conv=>whnf
 rcases aS with _ | b
 ·refine ⟨_,_,ab9 ai,?_⟩;conv=>whnf
  subst Cr;unfold Pg;refine bs h (fun af h=>?_) fun af h=>?_
  ·obtain ⟨b5,iM⟩:∃ c,NT=c:=⟨_,rfl⟩;rw [iM];rw [show I.int IntKind.i64 bh=hX bh from rfl];(conv=>whnf);rw [af];(conv=>whnf);obtain rfl:=Option.some.inj h;exact jG _ _ (It rfl rfl)
  ·cases h
 ·obtain ⟨rfl,rfl,_⟩:=Of ai;refine ⟨_,_,aca ai,?_⟩;conv=>whnf
  obtain ⟨⟨Di,Mi⟩,h⟩:=rV h;obtain ⟨F,ao,h⟩:=p' h;obtain rfl:=Option.some.inj h;subst Cr;unfold Pg;obtain ⟨b5,iM⟩:∃ c,NT=c:=⟨_,rfl⟩;rw [iM];conv=>whnf
  refine ⟨_,_,call9 (bs:=[lj (p,())]) rfl (p9 (Ic (p,())) rfl) (Ts (b:=(p,())) (v:=()) rfl),?_⟩;obtain ⟨br,eP⟩:∃ c,gB.AM (.m_ 26) [27] (rC Tryz.prog 24 0) (rD Tryz.prog 24 0)=c:=⟨_,rfl⟩;rw [eP];conv=>whnf
  subst eP;obtain ⟨Ht,Nq,La,Rk⟩:=OT ao;obtain ⟨rY,O3⟩:∃ rY:ar,rY=.loop .ready none 24 (qf 86 [(2,I.view (.av [] 0 (.uniq 1))),(3,hX 0),(4,.ptr 1 0),(5,hX 0),(6,.ptr 2 0),(23,B (decide ((0:Int)≠0))),(26,I.view (.func 70 [] [.bR [lj (p,())]]))]) [27] (rC Tryz.prog 24 0) (rD Tryz.prog 24 0) JR:=⟨_,rfl⟩;have kJ:∀ c,rY≠.cells c:=fun c e=>by rw [O3] at e;cases e
  refine ahk (f:=Hh) (ahr (b:=(p,())) Mi Di) (Inv:=fun i H=>Good (p,()) rY (Ht i) H) (by exact rfl) ⟨fun i H rF=>⟨sg _,(sd.1 rF.l).1⟩,fun i H Z rF=>rF.more Z,fun i H j c dR rF aw ak=>rF.ahw dR aw ak⟩ ?_ ?_ (rl:=none) (by exact rfl) ?_ ?_
  ·show Good _ _ (Ht 0) _;rw [Nq,O3];exact ⟨⟨[],0,rfl,fun e he=>absurd he (by simp)⟩,rfl,rfl,rfl,rfl⟩
  ·intro i hi H1 rF;rw [O3] at rF ⊢;exact ahi (RY Di _ (tt hi)) (by rw [aeb _ (tt hi)];omega) (Rk i hi) rF
  ·intro H' rF;rw [O3] at rF;exact rF.l
  ·intro H' rF;rw [La] at rF;subst iM;exact ahQ rF jG

noncomputable def Qb:gB :=
 .loop (some (qb false [1,1,2,6,88])) (.seq (p5 [p6 33 9,p6 34 4,qp 35 33 34 .lss] (.cond (.m_ 35) .skip (.exit 2))) (.seq (.block 3 (.seq (rh [p6 38 5,p6 39 6,p6 40 9,rm 41 39 40 1,ql 42 41,qp 43 38 42 .shr,qu 44 43 1 .and,qu 45 44 0 .eql,p4 46 45,ch 47 [.m_ 9] 46 true .mR,ch 48 [.Bs 47,.cv (.int .i64 2)] 46 true (.bin .rem),ch 49 [.Bs 48,.cv (.int .i64 0)] 46 true (.bin .eql),ch 50 [.jm 49] 46 true .mR,ch 51 [.m_ 8] 50 true .mR,ch 52 [.m_ 50,.Bs 51,.cv (.bool false)] 46 true .pick,ch 53 [.jm 52] 46 true .mR,ch 54 [.m_ 1] 53 true (.zE (.str 3)),ch 55 [.m_ 6] 53 true .mR,ch 56 [.m_ 9] 53 true .mR,ch 57 [.cv (.int .i64 1),.Bs 56] 53 true (.bin .shl),⟨some 58,[.cv (.func 61 [] []),.m_ 54,.m_ 55,.cv (.int .i64 0),.m_ 57],some (53,true),none,.call 3⟩,ch 59 [.m_ 53,.Bs 58,.cv (.bool false)] 46 true .pick,ch 60 [.jm 59] 46 true .mR,ch 61 [.m_ 9] 60 false .mR,ch 62 [.Bs 61,.cv (.int .i64 2)] 60 false (.bin .rem),ch 63 [.Bs 62,.cv (.int .i64 1)] 60 false (.bin .eql),ch 64 [.jm 63] 60 false .mR,ch 65 [.m_ 7] 64 true .mR,ch 66 [.m_ 64,.Bs 65,.cv (.bool false)] 60 false .pick,ch 67 [.jm 66] 60 false .mR,ch 68 [.m_ 1] 67 true (.zE (.str 3)),ch 69 [.m_ 6] 67 true .mR,ch 70 [.m_ 9] 67 true .mR,ch 71 [.cv (.int .i64 1),.Bs 70] 67 true (.bin .shl),⟨some 72,[.cv (.func 61 [] []),.m_ 68,.m_ 69,.cv (.int .i64 1),.m_ 71],some (67,true),none,.call 3⟩,ch 73 [.m_ 67,.Bs 72,.cv (.bool false)] 60 false .pick,ch 74 [.m_ 60,.cv (.bool true),.Bs 73] 46 true .pick,p3 75 [.m_ 46,.Bs 74,.cv (.bool false)] .pick]) (.cond (.m_ 75) (qE [p4 76 5,p6 77 6,p6 78 9,rm 79 77 78 1,ql 80 79,p3 81 [.cv (.int .i64 1),.Bs 80] (.bin .shl),qp 82 76 81 .or,p4 5 82]) .skip))) (qE [p4 36 9,qV 37 36 1,p4 9 37])))
noncomputable def Qc:gB :=
 .loop (some (qb false [1,1,2,3,91])) (.seq (p5 [p6 22 6,qZ 23 22,qu 24 23 0 .gtr] (.cond (.m_ 24) .skip (.exit 0))) (.seq (.block 1 (.seq (rh [p3 27 [.m_ 1] (.zE (.str 3)),p6 28 6,p3 29 [.cv (.func 61 [] []),.m_ 27,.m_ 28,.cv (.int .i64 0),.cv (.int .i64 0)] (.call 3),p3 30 [.m_ 1] (.zE (.str 3)),p6 31 6,p3 32 [.cv (.func 61 [] []),.m_ 30,.m_ 31,.cv (.int .i64 1),.cv (.int .i64 0)] (.call 3),p4 7 29,p4 8 32]) (p5 [qg 9 0] (.block 2 Qb)))) (qE [p4 25 6,p3 26 [.cv (.func 48 [] []),.m_ 25] (.call 3),p4 6 26])))
noncomputable def Qd:gB :=
 .loop (some (qb false [4,2,4,2,86])) (.seq (p5 [p6 83 11,p6 84 4,qp 85 83 84 .lss] (.cond (.m_ 85) .skip (.exit 4))) (.seq (.block 5 (p5 [p6 88 5,p6 89 11,qp 90 88 89 .shr,qu 91 90 1 .and,qu 92 91 1 .eql] (.cond (.m_ 92) (qE [p4 93 10,p6 94 11,p3 95 [.Bs 94] (.yB 1 1 [.int .i64 0] [0]),p3 96 [.jm 93,.jm 95] (.app 1 8),p4 10 96]) .skip))) (qE [p4 86 11,qV 87 86 1,p4 11 87])))
noncomputable def aai:gB :=
 p5 [p3 1 [.jm 0] .box,p3 2 [.cv (.av [] 0 .full)] (.nil 1),qg 3 0] (.seq (p5 [p3 12 [.m_ 1] (.zE (.str 3)),p3 13 [.cv (.func 46 [] []),.m_ 12] (.call 3),qu 14 13 0 .neq] (.cond (.m_ 14) (p5 [p3 15 [.Bs 1] (.zE (.str 3)),p3 16 [.cv (.func 46 [] []),.m_ 15] (.call 3),p3 2 [.cv (.av [] 0 .full)] (.nil 1),p4 3 16] .ret) .skip)) (p5 [p3 17 [.m_ 1] (.yM 0),ql 18 17,qZ 19 18,p4 4 19] (p5 [qg 5 0] (.seq (p5 [p6 20 4,p3 21 [.cv (.func 32 [] []),.m_ 20] (.call 3),p4 6 21] (.block 0 Qc)) (p5 [p3 10 [.cv (.av [] 0 .full)] (.nil 1)] (.seq (p5 [qg 11 0] (.block 4 Qd)) (p5 [p4 97 10,p4 2 97,qg 3 0] .ret)))))))
theorem aeV:qt Tryz.prog Na 25=some (aai,98,[.tmp 2,.tmp 3]):=by kernel_rfl
def Hr (p:(qj×(Int×Int))) (s2:qa) (qP q3:Bool) (qT:Int→Option (qa×Int)):Nat→Int→Int→Option (qa×Int)
 | 0,_,_=>none
 | m+1,dh,G' =>
   if (decide (G'<(p.1.length:Int)))=true then
    qq (0≤G'∧G'<(s2.length:Int)) <|
    qq (0≤(ix s2 G')) <|
    if (decide ((w ((BitVec.ofInt IntKind.i64.bits (dh.fdiv (2 ^ (Nat.min (ix s2 G').toNat IntKind.i64.bits))) &&& BitVec.ofInt IntKind.i64.bits (1:Int)).toNat:Int))=(0:Int)))=true then
     qq ((2:Int)≠0) <|
     if (decide ((G'.tmod (2:Int))=(0:Int)))=true then
      if q3=true then
       qq (0≤G') <|
       (H6 p s2 (0:Int) (w ((1:Int)*2 ^ (Nat.min G'.toNat 64)))).bind fun rP =>
       if rP=true then
        qq (0≤G'∧G'<(s2.length:Int)) <|
        qq (0≤(ix s2 G')) <|
        Hr p s2 qP q3 qT m (w ((BitVec.ofInt IntKind.i64.bits dh ||| BitVec.ofInt IntKind.i64.bits (w ((1:Int)*2 ^ (Nat.min (ix s2 G').toNat 64)))).toNat:Int)) (w (G'+(1:Int)))
       else
        qq ((2:Int)≠0) <|
        if (decide ((G'.tmod (2:Int))=(1:Int)))=true then
         if qP=true then
          qq (0≤G') <|
          (H6 p s2 (1:Int) (w ((1:Int)*2 ^ (Nat.min G'.toNat 64)))).bind fun H4 =>
          if H4=true then
           qq (0≤G'∧G'<(s2.length:Int)) <|
           qq (0≤(ix s2 G')) <|
           Hr p s2 qP q3 qT m (w ((BitVec.ofInt IntKind.i64.bits dh ||| BitVec.ofInt IntKind.i64.bits (w ((1:Int)*2 ^ (Nat.min (ix s2 G').toNat 64)))).toNat:Int)) (w (G'+(1:Int)))
          else
           Hr p s2 qP q3 qT m dh (w (G'+(1:Int)))
         else
          Hr p s2 qP q3 qT m dh (w (G'+(1:Int)))
        else
         Hr p s2 qP q3 qT m dh (w (G'+(1:Int)))
      else
       qq ((2:Int)≠0) <|
       if (decide ((G'.tmod (2:Int))=(1:Int)))=true then
        if qP=true then
         qq (0≤G') <|
         (H6 p s2 (1:Int) (w ((1:Int)*2 ^ (Nat.min G'.toNat 64)))).bind fun HC =>
         if HC=true then
          qq (0≤G'∧G'<(s2.length:Int)) <|
          qq (0≤(ix s2 G')) <|
          Hr p s2 qP q3 qT m (w ((BitVec.ofInt IntKind.i64.bits dh ||| BitVec.ofInt IntKind.i64.bits (w ((1:Int)*2 ^ (Nat.min (ix s2 G').toNat 64)))).toNat:Int)) (w (G'+(1:Int)))
         else
          Hr p s2 qP q3 qT m dh (w (G'+(1:Int)))
        else
         Hr p s2 qP q3 qT m dh (w (G'+(1:Int)))
       else
        Hr p s2 qP q3 qT m dh (w (G'+(1:Int)))
     else
      qq ((2:Int)≠0) <|
      if (decide ((G'.tmod (2:Int))=(1:Int)))=true then
       if qP=true then
        qq (0≤G') <|
        (H6 p s2 (1:Int) (w ((1:Int)*2 ^ (Nat.min G'.toNat 64)))).bind fun Ie =>
        if Ie=true then
         qq (0≤G'∧G'<(s2.length:Int)) <|
         qq (0≤(ix s2 G')) <|
         Hr p s2 qP q3 qT m (w ((BitVec.ofInt IntKind.i64.bits dh ||| BitVec.ofInt IntKind.i64.bits (w ((1:Int)*2 ^ (Nat.min (ix s2 G').toNat 64)))).toNat:Int)) (w (G'+(1:Int)))
        else
         Hr p s2 qP q3 qT m dh (w (G'+(1:Int)))
       else
        Hr p s2 qP q3 qT m dh (w (G'+(1:Int)))
      else
       Hr p s2 qP q3 qT m dh (w (G'+(1:Int)))
    else
     Hr p s2 qP q3 qT m dh (w (G'+(1:Int)))
   else
    qT dh
def Kg (p:(qj×(Int×Int))) (qc:Int→Option (qa×Int)):Nat→Int→qa→Option (qa×Int)
 | 0,_,_=>none
 | m+1,s1,s2 =>
   if (decide ((0:Int)<(s2.length:Int)))=true then
    (H6 p s2 (0:Int) (0:Int)).bind fun qP =>
    (H6 p s2 (1:Int) (0:Int)).bind fun q3 =>
    Hr p s2 qP q3 (fun yn =>
      (Ih s2).bind fun Is =>
      Kg p qc m yn Is) qh s1 (0:Int)
   else
    qc s1
def Kh (p:(qj×(Int×Int))) (oS:Int) (sa:qa→Option (qa×Int)):Nat→qa→Int→Option (qa×Int)
 | 0,_,_=>none
 | m+1,rA,H5 =>
   if (decide (H5<(p.1.length:Int)))=true then
    qq (0≤H5) <|
    if (decide ((w ((BitVec.ofInt IntKind.i64.bits (oS.fdiv (2 ^ (Nat.min H5.toNat IntKind.i64.bits))) &&& BitVec.ofInt IntKind.i64.bits (1:Int)).toNat:Int))=(1:Int)))=true then
     qq ((rA.length+1)*8≤140737488355328) <|
     Kh p oS sa m (rA++[H5]) (w (H5+(1:Int)))
    else
     Kh p oS sa m rA (w (H5+(1:Int)))
   else
    sa rA
def Oe (p:(qj×(Int×Int))):Option (qa×Int) :=
 (Jo p).bind fun aS =>
 if (decide (aS≠(0:Int)))=true then
  (Jo p).bind fun bh =>
  some ([],bh)
 else
  (MT (p.1.length:Int)).bind fun eH =>
  Kg p (fun oS =>
    Kh p oS (fun Gz =>
      some (Gz,(0:Int))) qh ([]:List Int) (0:Int)) qh (0:Int) eH
theorem aiz {p:(qj×(Int×Int))} {s2:qa} {qP:Bool} {q3:Bool} {qT:Int→Option (qa×Int)} {dh:Int} {G':Int} {v:(qa×Int)} {Q:rR}   (I3:∀ (yn:Int) (qe:List I),qT yn=some v→rk 98 [(1,(.ptr 0 0)),(4,(hX (p.1.length:Int))),(5,(hX yn)),(6,(qy s2 .shared))] qe→Q (.exit 2) qe [ar.cells [(qY p.1 .shared),(hX p.2.1),(hX p.2.2)]]) {T:List I} (bZ:eW (qb false [1,1,2,6,88]) T=qf 98 [(1,(.ptr 0 0)),(4,(hX (p.1.length:Int))),(5,(hX dh)),(6,(qy s2 .shared)),(7,(B qP)),(8,(B q3)),(9,(hX G'))]) (h:Hr p s2 qP q3 qT qh dh G'=some v) :
  dN Tryz.prog Na 25 0 none Qb T [ar.cells [(qY p.1 .shared),(hX p.2.1),(hX p.2.2)]] Q:=by
 unfold Qb;refine wp_loop bZ ?_;refine .intro (fun m T H=>∃ (dh G':Int),T=qf 98 [(1,(.ptr 0 0)),(4,(hX (p.1.length:Int))),(5,(hX dh)),(6,(qy s2 .shared)),(7,(B qP)),(8,(B q3)),(9,(hX G'))]∧H=[ar.cells [(qY p.1 .shared),(hX p.2.1),(hX p.2.2)]]∧Hr p s2 qP q3 qT m dh G'=some v) qh ⟨dh,G',rfl,rfl,h⟩ ?_;clear h bZ;rintro m T H ⟨dh,G',rfl,rfl,h⟩;cases m
 ·exact rz h
 rename_i m;rw [Hr.eq_2] at h;conv=>whnf
 refine bs h (fun rb h=>?_) fun rb h=>?_
 ·rw [rb];conv=>whnf
  refine qD h id fun q9 h=>?_;rw [ri hX s2 G' q9];conv=>whnf
  refine qD h id fun rv h=>?_;conv=>whnf
  refine bs h (fun Hi h=>?_) fun Hi h=>?_
  ·rw [Hi];(conv=>whnf);refine qD h id fun Hp h=>?_;(conv=>whnf);refine bs h (fun Hv h=>?_) fun Hv h=>?_
   ·rw [Hv];(conv=>whnf);cases q3
    ·(conv=>whnf);replace h:=rp rfl h;refine qD h id fun OY h=>?_;(conv=>whnf);refine bs h (fun Nu h=>?_) fun Nu h=>?_
     ·rw [Nu];(conv=>whnf);cases qP
      ·(conv=>whnf);replace h:=rp rfl h;exact ⟨m,sg m,dh,(w (G'+(1:Int))),rfl,rfl,h⟩
      ·(conv=>whnf);replace h:=rn rfl h;refine qD h id fun VR h=>?_;(conv=>whnf);obtain ⟨HC,Ro,h⟩:=p' h;refine ⟨qi.pl,_,LS Ro,rB,?_⟩;(conv=>whnf);cases HC
       ·(conv=>whnf);replace h:=rp rfl h;exact ⟨m,sg m,dh,(w (G'+(1:Int))),rfl,rfl,h⟩
       ·(conv=>whnf);replace h:=rn rfl h;refine qD h id fun Rp h=>?_;rw [ri hX s2 G' Rp];(conv=>whnf);refine qD h id fun VS h=>?_;(conv=>whnf);exact ⟨m,sg m,(w ((BitVec.ofInt IntKind.i64.bits dh ||| BitVec.ofInt IntKind.i64.bits (w ((1:Int)*2 ^ (Nat.min (ix s2 G').toNat 64)))).toNat:Int)),(w (G'+(1:Int))),rfl,rfl,h⟩
     ·rw [Nu];(conv=>whnf);exact ⟨m,sg m,dh,(w (G'+(1:Int))),rfl,rfl,h⟩
    ·(conv=>whnf);replace h:=rn rfl h;refine qD h id fun HZ h=>?_;(conv=>whnf);obtain ⟨rP,HH,h⟩:=p' h;refine ⟨qi.pl,_,LS HH,rB,?_⟩;(conv=>whnf);cases rP
     ·(conv=>whnf);replace h:=rp rfl h;refine qD h id fun Jh h=>?_;(conv=>whnf);refine bs h (fun IA h=>?_) fun IA h=>?_
      ·rw [IA];(conv=>whnf);cases qP
       ·(conv=>whnf);replace h:=rp rfl h;exact ⟨m,sg m,dh,(w (G'+(1:Int))),rfl,rfl,h⟩
       ·(conv=>whnf);replace h:=rn rfl h;refine qD h id fun OX h=>?_;(conv=>whnf);obtain ⟨H4,Nt,h⟩:=p' h;refine ⟨qi.pl,_,LS Nt,(K4 (fun _ e=>by simp at e) rB),?_⟩;(conv=>whnf);cases H4
        ·(conv=>whnf);replace h:=rp rfl h;exact ⟨m,sg m,dh,(w (G'+(1:Int))),rfl,rfl,h⟩
        ·(conv=>whnf);replace h:=rn rfl h;refine qD h id fun Lc h=>?_;rw [ri hX s2 G' Lc];(conv=>whnf);refine qD h id fun Mf h=>?_;(conv=>whnf);exact ⟨m,sg m,(w ((BitVec.ofInt IntKind.i64.bits dh ||| BitVec.ofInt IntKind.i64.bits (w ((1:Int)*2 ^ (Nat.min (ix s2 G').toNat 64)))).toNat:Int)),(w (G'+(1:Int))),rfl,rfl,h⟩
      ·rw [IA];(conv=>whnf);exact ⟨m,sg m,dh,(w (G'+(1:Int))),rfl,rfl,h⟩
     ·(conv=>whnf);replace h:=rn rfl h;refine qD h id fun Jg h=>?_;rw [ri hX s2 G' Jg];(conv=>whnf);refine qD h id fun Ip h=>?_;(conv=>whnf);exact ⟨m,sg m,(w ((BitVec.ofInt IntKind.i64.bits dh ||| BitVec.ofInt IntKind.i64.bits (w ((1:Int)*2 ^ (Nat.min (ix s2 G').toNat 64)))).toNat:Int)),(w (G'+(1:Int))),rfl,rfl,h⟩
   ·rw [Hv];(conv=>whnf);refine qD h id fun VT h=>?_;(conv=>whnf);refine bs h (fun Nv h=>?_) fun Nv h=>?_
    ·rw [Nv];(conv=>whnf);cases qP
     ·(conv=>whnf);replace h:=rp rfl h;exact ⟨m,sg m,dh,(w (G'+(1:Int))),rfl,rfl,h⟩
     ·(conv=>whnf);replace h:=rn rfl h;refine qD h id fun OZ h=>?_;(conv=>whnf);obtain ⟨Ie,Nw,h⟩:=p' h;refine ⟨qi.pl,_,LS Nw,rB,?_⟩;(conv=>whnf);cases Ie
      ·(conv=>whnf);replace h:=rp rfl h;exact ⟨m,sg m,dh,(w (G'+(1:Int))),rfl,rfl,h⟩
      ·(conv=>whnf);replace h:=rn rfl h;refine qD h id fun Nx h=>?_;rw [ri hX s2 G' Nx];(conv=>whnf);refine qD h id fun O0 h=>?_;(conv=>whnf);exact ⟨m,sg m,(w ((BitVec.ofInt IntKind.i64.bits dh ||| BitVec.ofInt IntKind.i64.bits (w ((1:Int)*2 ^ (Nat.min (ix s2 G').toNat 64)))).toNat:Int)),(w (G'+(1:Int))),rfl,rfl,h⟩
    ·rw [Nv];(conv=>whnf);exact ⟨m,sg m,dh,(w (G'+(1:Int))),rfl,rfl,h⟩
  ·rw [Hi];(conv=>whnf);exact ⟨m,sg m,dh,(w (G'+(1:Int))),rfl,rfl,h⟩
 ·rw [rb];conv=>whnf
  exact I3 _ _ h ⟨rfl,rfl⟩
theorem aiy {p:(qj×(Int×Int))} {qc:Int→Option (qa×Int)} {s1:Int} {s2:qa} {v:(qa×Int)} {Q:rR}   (q':∀ (oS:Int) (bw:ar) (qe:List I),qc oS=some v→rk 98 [(4,(hX (p.1.length:Int))),(5,(hX oS))] qe→Q (.exit 0) qe [bw]) {T:List I} (bZ:eW (qb false [1,1,2,3,91]) T=qf 98 [(1,(.ptr 0 0)),(4,(hX (p.1.length:Int))),(5,(hX s1)),(6,(qy s2 .shared))]) (h:Kg p qc qh s1 s2=some v) :
  dN Tryz.prog Na 25 0 none Qc T [ar.cells [(qY p.1 .shared),(hX p.2.1),(hX p.2.2)]] Q:=by
 unfold Qc;obtain ⟨r9,qC⟩:∃ c,Qb=c:=⟨_,rfl⟩;rw [qC];refine wp_loop bZ ?_;refine .intro (fun m T H=>∃ (s1:Int) (s2:qa),T=qf 98 [(1,(.ptr 0 0)),(4,(hX (p.1.length:Int))),(5,(hX s1)),(6,(qy s2 .shared))]∧H=[ar.cells [(qY p.1 .shared),(hX p.2.1),(hX p.2.2)]]∧Kg p qc m s1 s2=some v) qh ⟨s1,s2,rfl,rfl,h⟩ ?_;clear h bZ;rintro m T H ⟨s1,s2,rfl,rfl,h⟩;cases m
 ·exact rz h
 rename_i m;rw [Kg.eq_2] at h;conv=>whnf
 refine bs h (fun qW h=>?_) fun qW h=>?_
 ·rw [qW];conv=>whnf
  obtain ⟨qP,q8,h⟩:=p' h;refine ⟨qi.pl,_,LS q8,rB,?_⟩;conv=>whnf
  obtain ⟨q3,qR,h⟩:=p' h;refine ⟨qi.pl,_,LS qR,(K4 (fun _ e=>by simp at e) rB),?_⟩;conv=>whnf
  subst qC;refine aiz ?_ (by exact rfl) h;intro yn qe h qz;obtain ⟨rq,rfl⟩:=qz.ex;conv=>whnf
  obtain ⟨Is,Ny,h⟩:=p' h;refine ⟨qi.pl,_,MX Ny,?_⟩;conv=>whnf
  exact ⟨m,sg m,yn,Is,rfl,rfl,h⟩
 ·rw [qW];conv=>whnf
  exact q' _ _ _ h ⟨rfl,rfl⟩
theorem aiA {p:(qj×(Int×Int))} {oS:Int} {sa:qa→Option (qa×Int)} {rA:qa} {H5:Int} {v:(qa×Int)} {Q:rR} {bw:ar}  (NA:∀ (Gz:qa) (qe:List I),sa Gz=some v→rk 98 [(10,(qy Gz (.uniq 1)))] qe→Q (.exit 4) qe [bw]) {T:List I} (bZ:eW (qb false [4,2,4,2,86]) T=qf 98 [(4,(hX (p.1.length:Int))),(5,(hX oS)),(10,(qy rA (.uniq 1))),(11,(hX H5))]) (h:Kh p oS sa qh rA H5=some v) :
  dN Tryz.prog Na 25 0 none Qd T [bw] Q:=by
 unfold Qd;refine wp_loop bZ ?_;refine .intro (fun m T H=>∃ (rA:qa) (H5:Int),T=qf 98 [(4,(hX (p.1.length:Int))),(5,(hX oS)),(10,(qy rA (.uniq 1))),(11,(hX H5))]∧H=[bw]∧Kh p oS sa m rA H5=some v) qh ⟨rA,H5,rfl,rfl,h⟩ ?_;clear h bZ;rintro m T H ⟨rA,H5,rfl,rfl,h⟩;cases m
 ·exact rz h
 rename_i m;rw [Kh.eq_2] at h;conv=>whnf
 refine bs h (fun Ld h=>?_) fun Ld h=>?_
 ·rw [Ld];conv=>whnf
  refine qD h id fun O1 h=>?_;conv=>whnf
  refine bs h (fun Le h=>?_) fun Le h=>?_
  ·rw [Le];(conv=>whnf);obtain ⟨Mg,h⟩:=rV h;refine ⟨by first | rfl | simp,by have:=Mg;omega,rfl,Mg,?_⟩
   erw [L6 hX rA H5];(conv=>whnf);exact ⟨m,sg m,(rA++[H5]),(w (H5+(1:Int))),rfl,rfl,h⟩
  ·rw [Le];(conv=>whnf);exact ⟨m,sg m,rA,(w (H5+(1:Int))),rfl,rfl,h⟩
 ·rw [Ld];conv=>whnf
  exact NA _ _ h ⟨rfl,rfl⟩
theorem aiB {p:(qj×(Int×Int))} {v:(qa×Int)} (h:Oe p=some v):qv 25 [(.agg [(.av (p.1.flatMap p_) p.1.length .shared),(hX p.2.1),(hX p.2.2)])] (.tuple [(.av (v.1.map hX) v.1.length .shared),(hX v.2)]):=by
 refine qN eD aeV rfl (Ir (p9 (rL (fun _=>rfl) _ _ _) (p9 rfl rfl))) fun Q bo=>?_;have jG:qK [.tmp 2,.tmp 3] Q (fun v=>(.tuple [(qy v.1 .shared),(hX v.2)])) v:=fun T H bD=>bo _ T H bD;unfold Oe at h;unfold aai;obtain ⟨J2,rN⟩:∃ c,Qc=c:=⟨_,rfl⟩;rw [rN];obtain ⟨Q4,Jw⟩:∃ c,Qd=c:=⟨_,rfl⟩;rw [Jw];conv=>whnf
 obtain ⟨aS,gJ,h⟩:=p' h;refine ⟨qi.pl,_,KT gJ,?_⟩;conv=>whnf
 refine bs h (fun gK h=>?_) fun gK h=>?_
 ·rw [gK];conv=>whnf
  obtain ⟨bh,qs,h⟩:=p' h;refine ⟨qi.pl,_,KT qs,?_⟩;conv=>whnf
  exact qd h jG rfl rfl
 ·rw [gK];conv=>whnf
  obtain ⟨eH,qG,h⟩:=p' h;refine ⟨(p9 rfl rfl),_,Tn qG,?_⟩;conv=>whnf
  subst rN;refine aiy ?_ (by exact rfl) h;intro oS bw qe h qz;obtain ⟨rq,rfl⟩:=qz.ex;conv=>whnf
  subst Jw;refine aiA ?_ (by exact rfl) h;intro Gz qe h qz;obtain ⟨rq,rfl⟩:=qz.ex;conv=>whnf
  exact qd h jG rfl rfl
end Go.Proofs.YtkoioidpbbbaiaaGreat.Ab


namespace Go.Proofs.YtkoioidpbbbaiaaGreat.Ab
open Go
set_option maxRecDepth 20000
set_option maxHeartbeats 1000000
def C9 (p:qm) (o:List Int) (i:Nat):Bool:=decide (r7 p o (1-i % 2)) && decide (H9 p o (i % 2) i)
abbrev Hu:=Nat→Bool
def Ly (p:qm) (o:List Int) (i:Nat) (M:Hu):Hu:=fun s=>M s || (decide (s=(ix o (i:Int)).toNat) && C9 p o i)
def HA (p:qm) (o:List Int) (M:Hu):Nat→Hu
 | 0=>M
 | k+1=>Ly p o k (HA p o M k)
def allM (p:qm):List (List Int)→Hu→Hu
 | [],M=>M
 | o::r,M=>allM p r (HA p o M o.length)
def HS (p:qm):Hu:=allM p (qL p) fun _=>false
theorem Xc {p:qm} {o:List Int} {M:Hu} {s:Nat}:∀ {k:Nat},HA p o M k s=true↔M s=true∨∃ i,i<k∧s=(ix o (i:Int)).toNat∧C9 p o i=true
 | 0=>by simp [HA]
 | k+1=>by
   unfold HA Ly;rw [Bool.or_eq_true,Xc,Bool.and_eq_true,decide_eq_true_eq];constructor
   ·rintro ((h | ⟨i,ab,ae⟩) | h)
    ·exact .inl h
    ·exact .inr ⟨i,by omega,ae⟩
    ·exact .inr ⟨k,by omega,h⟩
   ·rintro (h | ⟨i,ab,ae⟩)
    ·exact .inl (.inl h)
    ·by_cases e:i=k
     ·subst e;exact .inr ae
     ·exact .inl (.inr ⟨i,by omega,ae⟩)
theorem T6 {p:qm} {s:Nat}:∀ {E:List (List Int)} {M:Hu},allM p E M s=true↔M s=true∨∃ o∈E,∃ i,i<o.length∧s=(ix o (i:Int)).toNat∧C9 p o i=true
 | [],M=>by simp [allM]
 | o::r,M=>by
   unfold allM;rw [T6,Xc];constructor
   ·rintro ((h | h) | ⟨cw,ab,ae⟩)
    ·exact .inl h
    ·exact .inr ⟨o,by simp,h⟩
    ·exact .inr ⟨cw,by simp [ab],ae⟩
   ·rintro (h | ⟨cw,ab,ae⟩)
    ·exact .inl (.inl h)
    ·rcases sy.1 ab with rfl | ab
     ·exact .inl (.inr ae)
     ·exact .inr ⟨cw,ab,ae⟩
theorem U2 {p:qm} {s:Nat}:HS p s=true↔∃ o,qA p.1.length o∧∃ i,i<o.length∧s=(ix o (i:Int)).toNat∧C9 p o i=true:=by
 unfold HS;rw [T6];constructor
 ·rintro (h | ⟨o,ab,ae⟩)
  ·cases h
  ·exact ⟨o,J'.1 ab,ae⟩
 ·rintro ⟨o,ab,ae⟩;exact .inr ⟨o,J'.2 ab,ae⟩
theorem abW {p:qm} {s:Nat} (h:HS p s=true):s<p.1.length:=by
 obtain ⟨o,k,i,hi,rfl,_⟩:=U2.1 h;have:=rX k i hi;omega
def Jd (p:qm):List Int:=(qo p.1.length).filter fun s=>HS p s.toNat
def zY (M:Hu):List Int:=(List.range 7).map fun s=>if M s=true then 1 else 0
theorem afC (M:Hu):(zY M).length=7:=by simp [zY]
theorem WX (M:Hu) {s:Nat} (h:s<7):ix (zY M) (s:Int)=if M s=true then 1 else 0:=by
 rw [rH (by rw [afC];exact h)];simp [zY]
theorem afD (M:Hu) {v:Nat} (h:v<7):(zY M).set v 1=zY fun s=>M s || decide (s=v):=by
 apply List.ext_getElem (by simp [zY]);intro j ab ae;rw [List.getElem_set];simp only [zY,tX,List.getElem_range];by_cases e:v=j
 ·subst e;simp
 ·rw [if_neg e]
  have:decide (j=v)=false:=by simp;omega
  rw [this,vS]
section
variable {p:qm} {o:List Int}
theorem abX (h:rj p) (k:qA p.1.length o) {i:Nat} (hi:i<o.length) (M:Hu):JT (p,()) o (zY M) (i:Int)=some (zY (Ly p o i M)):=by
 have Lg:=qA.Ml h k;have ai:=rX k i hi;have aI:=k.1;obtain ⟨v,ad⟩:∃ v:Nat,ix o (i:Int)=(v:Int):=⟨(ix o (i:Int)).toNat,by omega⟩;have hu:Ly p o i M=fun s=>M s || (decide (s=v) && C9 p o i):=by unfold Ly;rw [ad];rfl
 rw [hu];unfold JT;rw [ad] at ai ⊢;rw [qw (by omega),WX M (by omega)];cases CA:M v with
 | true =>
   rw [if_pos (by simp)];congr 1;unfold zY;refine List.map_congr_left fun s _=>?_;by_cases e:s=v
   ·subst e;simp [CA]
   ·simp [e]
 | false =>
   rw [if_neg (by simp),Lw];(have e1:w (1-((i % 2:Nat):Int))=((1-i % 2:Nat):Int):=by rw [qF (by omega)];omega);rw [e1,ZU h k,sc];unfold C9;rcases ZT h k (a:=i % 2) hi with ⟨s,ab,ae,aF⟩ | ⟨ab,ae⟩
   ·rw [ab,sc,decide_eq_true (L9.2 ⟨s,ae,aF⟩)];simp only [tx];by_cases aP:r7 p o (1-i % 2)
    ·rw [if_pos (decide_eq_true aP),decide_eq_true aP,tD,afD M (by omega)];simp only [tx]
    ·rw [if_neg (by simpa using aP),decide_eq_false aP];simp only [Bool.and_false,vS]
   ·rw [ab,sc,decide_eq_false ae];simp only [Bool.and_false,vS];rw [if_neg (by decide)]
theorem Vo (h:rj p) (k:qA p.1.length o) (M:Hu):∀ (m i:Nat),i≤o.length→o.length-i=m→Iz (JT (p,()) o) ((qo o.length).drop i) (zY (HA p o M i))=some (zY (HA p o M o.length))
 | 0,i,hi,hm=>by
   (obtain rfl:i=o.length:=by omega);rw [uR (by rw [LA];omega)];rfl
 | m+1,i,hi,hm=>by
   (have aR:i<o.length:=by omega);have e1:(qo o.length).drop i=(i:Int)::(qo o.length).drop (i+1):=by
    rw [sV (by rw [LA];omega)];congr 1;rw [←rH,RQ aR]
   rw [e1];show (JT (p,()) o (zY (HA p o M i)) (i:Int)).bind (fun t=>Iz (JT (p,()) o) _ t)=_;rw [abX h k aR,sc];exact Vo h k M m (i+1) (by omega) (by omega)
theorem abZ (h:rj p) (k:qA p.1.length o) (M:Hu):L8 (p,()) (zY M) o=some (zY (HA p o M o.length)):=Vo h k M o.length 0 (by omega) rfl
theorem Vq (h:rj p):∀ (E:List (List Int)) (M:Hu),(∀ o∈E,qA p.1.length o)→Iz (L8 (p,())) E (zY M)=some (zY (allM p E M))
 | [],_,_=>rfl
 | o::r,M,r6=>by
   show (L8 (p,()) (zY M) o).bind (fun t=>Iz (L8 (p,())) r t)=_;rw [abZ h (r6 o (by simp)),sc];exact Vq h r _ fun cw aX=>r6 cw (by simp [aX])
theorem abK {p:qm} (h:rj p):K7 (zY (HS p))=(Jd p,0):=by
 have f_:(qo 7).filter (fun s=>decide (0<ix (zY (HS p)) s))=(qo 7).filter fun s=>HS p s.toNat:=by
  refine uq fun s ah=>?_;have:=NI.1 ah;obtain ⟨v,rfl⟩:∃ v:Nat,s=(v:Int):=⟨s.toNat,by omega⟩;rw [WX _ (by omega),tD];cases HS p v <;> rfl
 have e1:(qo 7).filter (fun s=>HS p s.toNat)=Jd p:=by
  unfold Jd;have key:∀ r:List Int,(∀ s∈r,(p.1.length:Int)≤s)→r.filter (fun s=>HS p s.toNat)=[]:=fun r ai=>by
   rw [List.filter_eq_nil_iff];intro s ah af;have:=abW af;have:=ai s ah;omega
  rcases h.n with e | e | e
  ·rw [e,show qo 7=qo 3++[3,4,5,6] from rfl,tE,key [3,4,5,6] (by rw [e];decide),sM]
  ·rw [e,show qo 7=qo 5++[5,6] from rfl,tE,key [5,6] (by rw [e];decide),sM]
  ·rw [e]
 unfold K7;by_cases bj:zY (HS p)=[0,0,0,0,0,0,0]
 ·rw [if_pos (decide_eq_true bj)];rw [bj] at f_;rw [←e1,←f_];rfl
 ·rw [if_neg (by simpa using bj),f_,e1]
theorem ZC (aB:p.1.length≤1000):LJ p=some (if qX p=0 then (Jd p,0) else ([],qX p)):=by
 unfold LJ;rw [Tr aB,sc];by_cases h:qX p=0
 ·rw [if_pos h,if_pos h];have ad:=Jf.1 h;have ao:=ad.len;simp only;rw [qw (show 0<p.1.length∧p.1.length≤7 by omega)];have e:Iz (L8 (p,())) (qU p.1.length (qo p.1.length)) [0,0,0,0,0,0,0]=some (zY (HS p)):=Vq ad (qL p) (fun _=>false) fun o aq=>J'.1 aq;rw [e,sc,abK ad]
 ·rw [if_neg h,if_neg h];simp only;rw [if_pos (decide_eq_true h)]
theorem afT:∀ (b:Fin 128) (v:Fin 7),w (((BitVec.ofInt IntKind.i64.bits ((b.1:Nat):Int) ||| BitVec.ofInt IntKind.i64.bits (w ((1:Int)*2 ^ (Nat.min (((v.1:Nat):Int)).toNat 64)))).toNat:Nat):Int)=((b.1 ||| 2 ^ v.1:Nat):Int):=by decide +kernel
theorem af4:∀ v:Fin 7,w ((1:Int)*2 ^ (Nat.min (((v.1:Nat):Int)).toNat 64))=((2 ^ v.1:Nat):Int):=by decide +kernel
def J1 (M:Hu) (b:Nat):Prop:=b<128∧∀ j,j<7→b.testBit j=M j
theorem Wi (h:rj p) (k:qA p.1.length o) {M:Hu} {K:Int→Option (List Int×Int)}:∀ (m i b:Nat),i≤o.length→o.length-i<m→J1 (HA p o M i) b →
  ∃ au,J1 (HA p o M o.length) au∧Hr p o (decide (r7 p o 0)) (decide (r7 p o 1)) K m (b:Int) (i:Int)=K (au:Int)
 | 0,_,_,_,h,_=>absurd h (by omega)
 | m+1,i,b,hi,hm,af=>by
   have Lg:=qA.Ml h k;have aI:=k.1;by_cases aR:i<o.length
   ·have ai:=rX k i aR;obtain ⟨v,ad⟩:∃ v:Nat,ix o (i:Int)=(v:Int):=⟨(ix o (i:Int)).toNat,by omega⟩;have hu:HA p o M (i+1)=fun s=>HA p o M i s || (decide (s=v) && C9 p o i):=by
     show Ly p o i (HA p o M i)=_;unfold Ly;rw [ad];rfl
    (have V2:v<7:=by omega);have same:(b.testBit v=true∨C9 p o i=false)→J1 (HA p o M (i+1)) b:=fun ak=>by
     rw [hu];refine ⟨af.1,fun j aw=>?_⟩;rw [af.2 j aw];show HA p o M i j=(HA p o M i j || (decide (j=v) && C9 p o i))
     rcases ak with ak | ak
     ·by_cases e:j=v
      ·subst e;rw [←af.2 j aw,ak];rfl
      ·rw [decide_eq_false e];simp
     ·rw [ak];simp
    have new:C9 p o i=true→J1 (HA p o M (i+1)) (b ||| 2 ^ v):=fun ak=>by
     rw [hu];refine ⟨Nat.or_lt_two_pow (n:=7) af.1 ((Nat.pow_lt_pow_iff_right (by omega)).2 V2),fun j aw=>?_⟩;rw [Nat.testBit_or,Nat.testBit_two_pow,af.2 j aw];simp only [ak,tx];congr 1;rw [Bool.eq_iff_iff,decide_eq_true_eq,decide_eq_true_eq];omega
    (have next:∀ cr:Nat,J1 (HA p o M (i+1)) cr→∃ au,J1 (HA p o M o.length) au∧Hr p o (decide (r7 p o 0)) (decide (r7 p o 1)) K m (cr:Int) ((i+1:Nat):Int)=K (au:Int):=fun cr gK=>Wi h k m (i+1) cr (by omega) (by omega) gK);rw [Hr,if_pos (decide_eq_true (by omega)),qw (by omega),ad,qw (by omega),Nd af.1 (by omega),Hq i (by omega)];cases ak:b.testBit v with
    | true =>
      rw [if_neg (by simp)];exact next b (same (.inl ak))
    | false =>
      rw [if_pos (by simp)];rw [qw (by decide),Lw];have OM:=ZX h k aR rfl;have Ra:=af4 ⟨i,by omega⟩;simp only at Ra;have Q':=afT ⟨b,af.1⟩ ⟨v,V2⟩;simp only at Q';rcases (show i % 2=0∨i % 2=1 by omega) with a_ | a_
      ·rw [a_] at OM ⊢;(have IB:C9 p o i=(decide (r7 p o 1) && decide (H9 p o 0 i)):=by unfold C9;rw [a_]);rw [if_pos (by decide)];(have q1:¬ (decide (((0:Nat):Int)=1))=true:=by decide);by_cases aP:r7 p o 1
       ·(rw [decide_eq_true aP] at IB next ⊢);rw [if_pos rfl,qw (by omega),Ra];have Q9:H6 p o 0 ((2 ^ i:Nat):Int)=_:=OM;rw [Q9,sc];by_cases Nz:H9 p o 0 i
        ·rw [decide_eq_true Nz] at IB ⊢;rw [if_pos rfl,qw (by omega),qw (by omega),Q'];exact next _ (new IB)
        ·rw [decide_eq_false Nz] at IB ⊢;rw [if_neg (by decide),qw (by decide),if_neg q1];exact next _ (same (.inr IB))
       ·(rw [decide_eq_false aP] at IB next ⊢);rw [if_neg (by decide),qw (by decide),if_neg q1];exact next _ (same (.inr IB))
      ·rw [a_] at OM ⊢;(have IB:C9 p o i=(decide (r7 p o 0) && decide (H9 p o 1 i)):=by unfold C9;rw [a_]);rw [if_neg (by decide),qw (by decide),if_pos (by decide)];by_cases aP:r7 p o 0
       ·(rw [decide_eq_true aP] at IB next ⊢);rw [if_pos rfl,qw (by omega),Ra];have Q9:H6 p o 1 ((2 ^ i:Nat):Int)=_:=OM;rw [Q9,sc];by_cases Nz:H9 p o 1 i
        ·rw [decide_eq_true Nz] at IB ⊢;rw [if_pos rfl,qw (by omega),qw (by omega),Q'];exact next _ (new IB)
        ·rw [decide_eq_false Nz] at IB ⊢;rw [if_neg (by decide)];exact next _ (same (.inr IB))
       ·(rw [decide_eq_false aP] at IB next ⊢);rw [if_neg (by decide)];exact next _ (same (.inr IB))
   ·(obtain rfl:i=o.length:=by omega);refine ⟨b,af,?_⟩;rw [Hr,if_neg (by simp;omega)]
theorem Wh (h:rj p) {R:List Int×Int} {K:Int→Option (List Int×Int)} (fG:∀ b:Nat,J1 (HS p) b→K (b:Int)=some R):∀ (m j b:Nat),j≤(qL p).length→(qL p).length-j<m→J1 (allM p ((qL p).take j) fun _=>false) b →
  Kg p K m (b:Int) ((qL p)[j]?.getD [])=some R
 | 0,_,_,_,h,_=>absurd h (by omega)
 | m+1,j,b,aw,hm,af=>by
   have hlen:=h.len;have RM:=Ks h;rw [Kg];by_cases aR:j<(qL p).length
   ·rw [sm aR,tL];have al:=J'.1 (tt aR);have f_:H6 p (qL p)[j] 0 0=_:=Tx h al (a:=0) (by omega);have e1:H6 p (qL p)[j] 1 0=_:=Tx h al (a:=1) (by omega);rw [if_pos (decide_eq_true (by rw [al.1];omega)),f_,sc,e1,sc];obtain ⟨au,bu,b9⟩:=Wi h al (M:=allM p ((qL p).take j) fun _=>false) (K:=fun yn=>(Ih (qL p)[j]).bind fun Is=>Kg p K m yn Is) qh 0 b (by omega) (r5 (by have:=al.1;omega)) af;refine Eq.trans b9 ?_;have aj:Ih (qL p)[j]=some ((qL p)[j+1]?.getD []):=PZ (by omega) (by omega) aR;show (Ih (qL p)[j]).bind (fun Is=>Kg p K m (au:Int) Is)=_;rw [aj,sc];refine Wh h fG m (j+1) au (by omega) (by omega) ?_;have dx:∀ (E:List (List Int)) (o:List Int) (M:Hu),allM p (E++[o]) M=HA p o (allM p E M) o.length:=fun E=>by
     induction E with
     | nil=>intro o M;rfl
     | cons a E a8=>intro o M;show allM p (E++[o]) _=_;rw [a8];rfl
    rw [N8 aR,dx];exact bu
   ·rw [tO (by omega),vR,if_neg (by decide)];rw [tb (by omega)] at af;exact fG b af
theorem Wj (aI:p.1.length≤7) {M:Hu} {b:Nat} (af:J1 M b) {K:List Int→Option (List Int×Int)}:∀ (m i:Nat),i≤p.1.length→p.1.length-i<m →
  Kh p (b:Int) K m ((qo i).filter fun s=>M s.toNat) (i:Int)=K ((qo p.1.length).filter fun s=>M s.toNat)
 | 0,_,_,h=>absurd h (by omega)
 | m+1,i,hi,hm=>by
   rw [Kh];by_cases aR:i<p.1.length
   ·rw [if_pos (decide_eq_true (by omega)),qw (by omega),Nd af.1 (by omega),af.2 i (by omega),Hq i (by omega)];have a8:=Wj aI af (K:=K) m (i+1) (by omega) (by omega);(have e1:qo (i+1)=qo i++[(i:Int)]:=by unfold qo;rw [vm,sR];rfl);rw [e1,tE] at a8;have aP:=uS (fun s:Int=>M s.toNat) (qo i);rw [LA] at aP;cases CA:M i with
    | true =>
      rw [if_pos (by simp),qw (by omega)];rw [show [(i:Int)].filter (fun s=>M s.toNat)=[(i:Int)] by simp [CA]] at a8;exact a8
    | false =>
      rw [if_neg (by simp)];rw [show [(i:Int)].filter (fun s=>M s.toNat)=[] by simp [CA],sM] at a8;exact a8
   ·(obtain rfl:i=p.1.length:=by omega);rw [if_neg (by simp)]
theorem aix (aB:p.1.length≤1000):Oe p=some (if qX p=0 then (Jd p,0) else ([],qX p)):=by
 unfold Oe;rw [PY aB,sc,sc];by_cases h:qX p=0
 ·rw [if_neg (show ¬ decide (qX p≠0)=true by simpa using h),if_pos h];have ad:=Jf.1 h;have ao:=ad.len;rw [Tm aB,sc];have:=Wh ad (R:=(Jd p,0)) (K:=fun oS=>Kh p oS (fun Gz=>some (Gz,0)) qh [] 0) (fun b af=>Wj (by omega) af qh 0 (by omega) (r5 (by omega))) qh 0 0 (by omega) (r5 (by have:=Ks ad;omega)) ⟨by omega,fun j _=>by simp [allM]⟩;rw [QF] at this;exact this
 ·rw [if_pos (decide_eq_true h),if_neg h]
end
end Go.Proofs.YtkoioidpbbbaiaaGreat.Ab


namespace Go.Proofs.YtkoioidpbbbaiaaGreat.Ab
open Go
set_option maxRecDepth 20000
set_option maxHeartbeats 4000000
noncomputable def P':gB :=
 .loop (some (qb false [0,2,3,1,20])) (.seq (p5 [p6 11 5,p6 12 0,qZ 13 12,qp 14 11 13 .lss] (.cond (.m_ 14) .skip (.exit 0))) (.seq (.block 1 (.seq (rh [p6 17 0,p6 18 5,rm 19 17 18 1,ql 20 19,p6 21 1,p6 22 5,rm 23 21 22 1,ql 24 23,qp 25 20 24 .neq]) (.cond (.m_ 25) (p5 [p3 4 [.cv (.bool false)] .mR] .ret) .skip))) (qE [p4 15 5,qV 16 15 1,p4 5 16])))
noncomputable def aae:gB :=
 p5 [p3 4 [.cv (.bool false)] .mR] (.seq (p5 [p6 6 0,qZ 7 6,p6 8 1,qZ 9 8,qp 10 7 9 .neq] (.cond (.m_ 10) (p5 [p3 4 [.cv (.bool false)] .mR] .ret) .skip)) (.seq (p5 [qg 5 0] (.block 0 P')) (p5 [p3 4 [.cv (.bool true)] .mR] .ret)))
theorem aeR:qt Tryz.prog QK 18=some (aae,26,[.tmp 4]):=by kernel_rfl
def LH (a b:qa) (qc:Unit→Option Bool):Nat→Int→Option Bool
 | 0,_=>none
 | m+1,s1 =>
   if (decide (s1<(a.length:Int)))=true then
    qq (0≤s1∧s1<(a.length:Int)) <|
    qq (0≤s1∧s1<(b.length:Int)) <|
    if (decide ((ix a s1)≠(ix b s1)))=true then
     some false
    else
     LH a b qc m (w (s1+(1:Int)))
   else
    qc ()
def Jm (a b:qa):Option Bool :=
 if (decide ((a.length:Int)≠(b.length:Int)))=true then
  some false
 else
  LH a b (fun _ =>
    some true) qh (0:Int)
theorem ait {a:qa} {b:qa} {qc:Unit→Option Bool} {s1:Int} {v:Bool} {Q:rR}   (jG:qK [.tmp 4] Q (fun v=>(B v)) v) (q':∀ (qe:List I),qc ()=some v→rk 26 [] qe→Q (.exit 0) qe []) {T:List I} (bZ:eW (qb false [0,2,3,1,20]) T=qf 26 [(0,(qy a .shared)),(1,(qy b .shared)),(5,(hX s1))]) (h:LH a b qc qh s1=some v) :
  dN Tryz.prog QK 18 0 none P' T [] Q:=by
 unfold P';refine wp_loop bZ ?_;refine .intro (fun m T H=>∃ (s1:Int),T=qf 26 [(0,(qy a .shared)),(1,(qy b .shared)),(5,(hX s1))]∧H=[]∧LH a b qc m s1=some v) qh ⟨s1,rfl,rfl,h⟩ ?_;clear h bZ;rintro m T H ⟨s1,rfl,rfl,h⟩;cases m
 ·exact rz h
 rename_i m;rw [LH.eq_2] at h;conv=>whnf
 refine bs h (fun gK h=>?_) fun gK h=>?_
 ·rw [gK];conv=>whnf
  refine qD h id fun qs h=>?_;rw [ri hX a s1 qs];conv=>whnf
  refine qD h id fun qG h=>?_;rw [ri hX b s1 qG];conv=>whnf
  refine bs h (fun qW h=>?_) fun qW h=>?_
  ·rw [qW];(conv=>whnf);exact qd h jG rfl rfl
  ·rw [qW];(conv=>whnf);exact ⟨m,sg m,(w (s1+(1:Int))),rfl,rfl,h⟩
 ·rw [gK];conv=>whnf
  exact q'  _ h ⟨rfl,rfl⟩
theorem PO {a:qa} {b:qa} {v:Bool} (h:Jm a b=some v):qv 18 [(.av (a.map hX) a.length .shared),(.av (b.map hX) b.length .shared)] (B v):=by
 refine qN eD aeR rfl rfl fun Q bo=>?_;have jG:qK [.tmp 4] Q (fun v=>(B v)) v:=fun T H bD=>bo _ T H bD;unfold Jm at h;unfold aae;obtain ⟨r9,qC⟩:∃ c,P'=c:=⟨_,rfl⟩;rw [qC];conv=>whnf
 refine bs h (fun gJ h=>?_) fun gJ h=>?_
 ·rw [gJ];conv=>whnf
  exact qd h jG rfl rfl
 ·rw [gJ];conv=>whnf
  subst qC;refine ait ?_ ?_ (by exact rfl) h
  ·exact fun T H bD=>jG T H bD
  ·intro  qe h qz;obtain ⟨rq,rfl⟩:=qz.ex;(conv=>whnf);exact qd h jG rfl rfl

noncomputable def aag:gB :=
 p5 [p3 2 [.jm 0] .box,qg 4 0,qg 5 0] (p5 [p3 9 [.Bs 2] (.zE (.str 3)),p4 10 1,p3 11 [.cv (.func 23 [] []),.m_ 9,.m_ 10] (.call 3),p4 8 11,qQ 12 8 0,p3 13 [.Bs 8] (.ext 1),p4 6 12,p4 7 13] (p5 [p4 14 6,qZ 15 14,p4 16 7,p4 4 15,p4 5 16] .ret))
theorem aeT:qt Tryz.prog Uh 21=some (aag,17,[.tmp 4,.tmp 5]):=by kernel_rfl
def LI (p:(qj×(Int×Int))) (order:qa):Option (Int×Int) :=
 (KP p order).bind fun aS =>
 some ((aS.1.length:Int),aS.2)
theorem ZB {p:(qj×(Int×Int))} {order:qa} {v:(Int×Int)} (h:LI p order=some v):qv 21 [(.agg [(.av (p.1.flatMap p_) p.1.length .shared),(hX p.2.1),(hX p.2.2)]),(.av (order.map hX) order.length .shared)] (.tuple [(hX v.1),(hX v.2)]):=by
 refine qN eD aeT rfl (Ir (p9 rfl (p9 rfl rfl))) fun Q bo=>?_;have jG:qK [.tmp 4,.tmp 5] Q (fun v=>(.tuple [(hX v.1),(hX v.2)])) v:=fun T H bD=>bo _ T H bD;unfold LI at h;unfold aag;conv=>whnf
 obtain ⟨aS,gJ,h⟩:=p' h;refine ⟨qi.pl,_,Tj gJ,?_⟩;conv=>whnf
 exact qd h jG rfl rfl

def Jr (x:(Int×Int)):List I:=[(hX x.1),(hX x.2)]
theorem QA (x:(Int×Int)):(Jr x).length=2:=rfl
instance {d:Nat} {x:(Int×Int)}:qi (d+1) (Jr x):=⟨(inferInstance:qi (d+1) [(hX x.1),(hX x.2)]).pl⟩
noncomputable def Qo:gB :=
 .loop (some (qb false [2,1,3,3,27])) (.seq (p5 [p6 13 8,qV 14 13 1,p6 15 2,qZ 16 15,qp 17 14 16 .lss] (.cond (.m_ 17) .skip (.exit 0))) (.seq (.block 1 (rh [p3 20 [.m_ 7] (.yM 0),p3 21 [.Bs 20] .take,p6 22 2,p6 23 8,rm 24 22 23 1,ql 25 24,p6 26 2,p6 27 8,qV 28 27 1,rm 29 26 28 1,ql 30 29,p3 31 [.Bs 25,.Bs 30] (.build [.int .i64 0,.int .i64 0] [(0,1),(1,1)]),p3 32 [.Bs 31] (.yB 1 2 [.int .i64 0,.int .i64 0] [0]),p3 33 [.jm 21,.jm 32] (.app 2 16),p3 34 [.m_ 7] (.yM 0),⟨none,[.jm 34,.jm 33],none,none,.st 1⟩])) (qE [p4 18 8,qV 19 18 2,p4 8 19])))
noncomputable def aaI:gB :=
 p5 [p3 6 [] (.alloc [.av [] 0 .full,.int .i64 0,.int .i64 0])] (p5 [p4 9 0,p4 10 1,p3 11 [.Bs 9,.Bs 10] (.build [.int .i64 0,.int .i64 0] [(0,1),(1,1)]),p3 12 [.Bs 11] (.build [.av [] 0 .full,.int .i64 0,.int .i64 0] [(1,2)]),p3 7 [] (.alloc [.av [] 0 .full,.int .i64 0,.int .i64 0]),⟨none,[.m_ 7,.jm 12],none,none,.st 3⟩] (.seq (p5 [qg 8 0] (.block 0 Qo)) (p5 [p3 35 [.Bs 7] (.zE (.str 3)),⟨none,[.m_ 6,.jm 35],none,none,.st 3⟩] .ret)))
theorem afk:qt Tryz.prog QS 64=some (aaI,36,[.cell 6 (.str 3)]):=by kernel_rfl
def On (x:qa) (qc:qj→Option (qj×(Int×Int))):Nat→Int→qj→Option (qj×(Int×Int))
 | 0,_,_=>none
 | m+1,s1,s2 =>
   if (decide ((w (s1+(1:Int)))<(x.length:Int)))=true then
    qq (0≤s1∧s1<(x.length:Int)) <|
    qq (0≤(w (s1+(1:Int)))∧(w (s1+(1:Int)))<(x.length:Int)) <|
    qq ((s2.length+1)*16≤140737488355328) <|
    On x qc m (w (s1+(2:Int))) (s2++[((ix x s1),(ix x (w (s1+(1:Int)))))])
   else
    qc s2
def Om (lo hi:Int) (x:qa):Option (qj×(Int×Int)) :=
 On x (fun yn =>
   some (yn,(lo,hi))) qh (0:Int) ([]:List (Int×Int))
theorem ajb {x:qa} {qc:qj→Option (qj×(Int×Int))} {s1:Int} {s2:qj} {lo:Int} {hi:Int} {v:(qj×(Int×Int))} {Q:rR}   {Kw:hB} (q':∀ (yn:qj) (qe:List I),qc yn=some v→rk 36 [(6,(.ptr 0 0)),(7,(.ptr 1 0))] qe→Q (.exit 0) qe [ar.cells [(.av [] 0 .full),(hX (0:Int)),(hX (0:Int))],ar.cells [(.av (yn.flatMap Jr) yn.length .full),(hX lo),(hX hi)]]) (adF:∀ (yn:qj) (qe:List I),qc yn=some v→rk 36 [(6,(.ptr 0 0)),(7,(.ptr 1 0))] qe→Q (.exit 0) qe [ar.cells [(.av [] 0 .full),(hX (0:Int)),(hX (0:Int))],ar.cells [(.av (yn.flatMap Jr) yn.length (.own 2)),(hX lo),(hX hi)]]) (RF:(Kw=hB.full∨Kw=(.own 2))) {T:List I} (bZ:eW (qb false [2,1,3,3,27]) T=qf 36 [(2,(qy x .shared)),(6,(.ptr 0 0)),(7,(.ptr 1 0)),(8,(hX s1))]) (h:On x qc qh s1 s2=some v) :
  dN Tryz.prog QS 64 0 none Qo T [ar.cells [(.av [] 0 .full),(hX (0:Int)),(hX (0:Int))],ar.cells [(.av (s2.flatMap Jr) s2.length Kw),(hX lo),(hX hi)]] Q:=by
 unfold Qo;refine wp_loop bZ ?_;refine .intro (fun m T H=>∃ (s1:Int) (s2:qj) (Kw:hB),(Kw=hB.full∨Kw=(.own 2))∧T=qf 36 [(2,(qy x .shared)),(6,(.ptr 0 0)),(7,(.ptr 1 0)),(8,(hX s1))]∧H=[ar.cells [(.av [] 0 .full),(hX (0:Int)),(hX (0:Int))],ar.cells [(.av (s2.flatMap Jr) s2.length Kw),(hX lo),(hX hi)]]∧On x qc m s1 s2=some v) qh ⟨s1,s2,_,RF,rfl,rfl,h⟩ ?_;clear h bZ;rintro m T H ⟨s1,s2,Kw,RF,rfl,rfl,h⟩;cases m
 ·exact rz h
 rename_i m;rw [On.eq_2] at h;rcases RF with rfl | rfl
 ·conv=>whnf
  refine bs h (fun gJ h=>?_) fun gJ h=>?_
  ·rw [gJ];(conv=>whnf);refine qD h id fun gK h=>?_;rw [ri hX x s1 gK];(conv=>whnf);refine qD h id fun qs h=>?_;rw [ri hX x (w (s1+(1:Int))) qs];(conv=>whnf);obtain ⟨qG,h⟩:=rV h;refine ⟨by first | rfl | (simp;done) | exact Iy Jr _ QA _,by have:=qG;omega,by decide,qG,by first | rfl | (simp;done) | exact Iy Jr _ QA _,?_⟩
   erw [UY Jr s2 ((ix x s1),(ix x (w (s1+(1:Int)))))];(conv=>whnf);exact ⟨m,sg m,(w (s1+(2:Int))),(s2++[((ix x s1),(ix x (w (s1+(1:Int)))))]),_,(.inr rfl),rfl,rfl,h⟩
  ·rw [gJ];(conv=>whnf);exact q' _ _ h ⟨rfl,rfl⟩
 ·conv=>whnf
  refine bs h (fun gJ h=>?_) fun gJ h=>?_
  ·rw [gJ];(conv=>whnf);refine qD h id fun gK h=>?_;rw [ri hX x s1 gK];(conv=>whnf);refine qD h id fun qs h=>?_;rw [ri hX x (w (s1+(1:Int))) qs];(conv=>whnf);obtain ⟨qG,h⟩:=rV h;refine ⟨by first | rfl | (simp;done) | exact Iy Jr _ QA _,by have:=qG;omega,rfl,qG,?_⟩
   erw [UY Jr s2 ((ix x s1),(ix x (w (s1+(1:Int)))))];(conv=>whnf);exact ⟨m,sg m,(w (s1+(2:Int))),(s2++[((ix x s1),(ix x (w (s1+(1:Int)))))]),_,(.inr rfl),rfl,rfl,h⟩
  ·rw [gJ];(conv=>whnf);exact adF _ _ h ⟨rfl,rfl⟩
theorem TA {lo:Int} {hi:Int} {x:qa} {v:(qj×(Int×Int))} (h:Om lo hi x=some v):qv 64 [(hX lo),(hX hi),(.av (x.map hX) x.length .shared)] (.agg [(.av (v.1.flatMap p_) v.1.length .shared),(hX v.2.1),(hX v.2.2)]):=by
 refine qN eD afk rfl (H3 (p9 (HB (fun _=>(p9 rfl (p9 rfl rfl))) _ _ _) (p9 rfl (p9 rfl rfl)))) fun Q bo=>?_;have jG:qK [.cell 6 (.str 3)] Q (fun v=>(.agg [(qY v.1 .shared),(hX v.2.1),(hX v.2.2)])) v:=fun T H bD=>bo _ T H bD;unfold Om at h;unfold aaI;obtain ⟨r9,qC⟩:∃ c,Qo=c:=⟨_,rfl⟩;rw [qC];conv=>whnf
 subst qC;refine ajb ?_ ?_ (.inl rfl) (by exact rfl) h
 ·intro yn qe h qz;obtain ⟨rq,rfl⟩:=qz.ex;conv=>whnf
  exact qd h jG rfl rfl
 ·intro yn qe h qz;obtain ⟨rq,rfl⟩:=qz.ex;conv=>whnf
  exact qd h jG rfl rfl

noncomputable def aan:gB :=
 p5 [p3 0 [] (.alloc [.av [] 0 .full,.int .i64 0,.int .i64 0])] (p5 [p3 1 [.cv (.int .i64 10),.cv (.int .i64 1),.cv (.int .i64 5),.cv (.int .i64 0),.cv (.int .i64 10),.cv (.int .i64 1)] (.yB 6 1 [.int .i64 0] [0,1,2,3,4,5]),p3 2 [.cv (.func 64 [] []),.cv (.int .i64 0),.cv (.int .i64 4),.m_ 1] (.call 3),⟨none,[.m_ 0,.jm 2],none,none,.st 3⟩] .ret)
theorem ae0:qt Tryz.prog Um 33=some (aan,3,[.cell 0 (.str 3)]):=by kernel_rfl
def PT  : Option (qj×(Int×Int)) :=
 (Om (0:Int) (4:Int) [(10:Int),(1:Int),(5:Int),(0:Int),(10:Int),(1:Int)]).bind fun aS =>
 some aS
theorem aiE  {v:(qj×(Int×Int))} (h:PT  = some v):qv 33 [] (.agg [(.av (v.1.flatMap p_) v.1.length .shared),(hX v.2.1),(hX v.2.2)]):=by
 refine qN eD ae0 rfl (H3 (p9 (HB (fun _=>(p9 rfl (p9 rfl rfl))) _ _ _) (p9 rfl (p9 rfl rfl)))) fun Q bo=>?_;have jG:qK [.cell 0 (.str 3)] Q (fun v=>(.agg [(qY v.1 .shared),(hX v.2.1),(hX v.2.2)])) v:=fun T H bD=>bo _ T H bD;unfold PT at h;unfold aan;conv=>whnf
 obtain ⟨aS,gJ,h⟩:=p' h;refine ⟨(p9 rfl (p9 rfl (p9 rfl rfl))),_,TA gJ,?_⟩;conv=>whnf
 exact qd h jG rfl rfl

noncomputable def aao:gB :=
 p5 [p3 0 [] (.alloc [.av [] 0 .full,.int .i64 0,.int .i64 0])] (p5 [p3 1 [.cv (.int .i64 3),.cv (.int .i64 0),.cv (.int .i64 5),.cv (.int .i64 0),.cv (.int .i64 8),.cv (.int .i64 0)] (.yB 6 1 [.int .i64 0] [0,1,2,3,4,5]),p3 2 [.cv (.func 64 [] []),.cv (.int .i64 0),.cv (.int .i64 0),.m_ 1] (.call 3),⟨none,[.m_ 0,.jm 2],none,none,.st 3⟩] .ret)
theorem ae1:qt Tryz.prog Un 34=some (aao,3,[.cell 0 (.str 3)]):=by kernel_rfl
def PU  : Option (qj×(Int×Int)) :=
 (Om (0:Int) (0:Int) [(3:Int),(0:Int),(5:Int),(0:Int),(8:Int),(0:Int)]).bind fun aS =>
 some aS
theorem aiG  {v:(qj×(Int×Int))} (h:PU  = some v):qv 34 [] (.agg [(.av (v.1.flatMap p_) v.1.length .shared),(hX v.2.1),(hX v.2.2)]):=by
 refine qN eD ae1 rfl (H3 (p9 (HB (fun _=>(p9 rfl (p9 rfl rfl))) _ _ _) (p9 rfl (p9 rfl rfl)))) fun Q bo=>?_;have jG:qK [.cell 0 (.str 3)] Q (fun v=>(.agg [(qY v.1 .shared),(hX v.2.1),(hX v.2.2)])) v:=fun T H bD=>bo _ T H bD;unfold PU at h;unfold aao;conv=>whnf
 obtain ⟨aS,gJ,h⟩:=p' h;refine ⟨(p9 rfl (p9 rfl (p9 rfl rfl))),_,TA gJ,?_⟩;conv=>whnf
 exact qd h jG rfl rfl

noncomputable def aap:gB :=
 p5 [p3 0 [] (.alloc [.av [] 0 .full,.int .i64 0,.int .i64 0])] (p5 [p3 1 [.cv (.int .i64 4),.cv (.int .i64 0),.cv (.int .i64 6),.cv (.int .i64 0),.cv (.int .i64 1),.cv (.int .i64 0),.cv (.int .i64 6),.cv (.int .i64 0),.cv (.int .i64 4),.cv (.int .i64 0)] (.yB 10 1 [.int .i64 0] [0,1,2,3,4,5,6,7,8,9]),p3 2 [.cv (.func 64 [] []),.cv (.int .i64 0),.cv (.int .i64 9),.m_ 1] (.call 3),⟨none,[.m_ 0,.jm 2],none,none,.st 3⟩] .ret)
theorem ae2:qt Tryz.prog Uo 35=some (aap,3,[.cell 0 (.str 3)]):=by kernel_rfl
def PV  : Option (qj×(Int×Int)) :=
 (Om (0:Int) (9:Int) [(4:Int),(0:Int),(6:Int),(0:Int),(1:Int),(0:Int),(6:Int),(0:Int),(4:Int),(0:Int)]).bind fun aS =>
 some aS
theorem aiI  {v:(qj×(Int×Int))} (h:PV  = some v):qv 35 [] (.agg [(.av (v.1.flatMap p_) v.1.length .shared),(hX v.2.1),(hX v.2.2)]):=by
 refine qN eD ae2 rfl (H3 (p9 (HB (fun _=>(p9 rfl (p9 rfl rfl))) _ _ _) (p9 rfl (p9 rfl rfl)))) fun Q bo=>?_;have jG:qK [.cell 0 (.str 3)] Q (fun v=>(.agg [(qY v.1 .shared),(hX v.2.1),(hX v.2.2)])) v:=fun T H bD=>bo _ T H bD;unfold PV at h;unfold aap;conv=>whnf
 obtain ⟨aS,gJ,h⟩:=p' h;refine ⟨(p9 rfl (p9 rfl (p9 rfl rfl))),_,TA gJ,?_⟩;conv=>whnf
 exact qd h jG rfl rfl

noncomputable def aaq:gB :=
 p5 [p3 2 [.cv (.av [] 0 .full)] (.nil 1)] (p5 [p4 3 0,p4 2 3] .ret)
theorem ae3:qt Tryz.prog Up 36=some (aaq,4,[.tmp 2]):=by kernel_rfl
def IF (x:qa):Option qa :=
 some x
theorem Jn {x:qa} {v:qa} (h:IF x=some v):qv 36 [(.av (x.map hX) x.length .shared)] (.av (v.map hX) v.length .shared):=by
 refine qN eD ae3 rfl (rL (fun _=>rfl) _ _ _) fun Q bo=>?_;have jG:qK [.tmp 2] Q (fun v=>(qy v .shared)) v:=fun T H bD=>bo _ T H bD;unfold IF at h;unfold aaq;conv=>whnf
 exact qd h jG rfl rfl

noncomputable def aar:gB :=
 p5 [p3 2 [.cv (.av [] 0 .full)] (.nil 3)] (p5 [p4 3 0,p4 2 3] .ret)
theorem ae4:qt Tryz.prog Uq 37=some (aar,4,[.tmp 2]):=by kernel_rfl
def MU (x:(List (Int×(Int×Int)))):Option (List (Int×(Int×Int))) :=
 some x
theorem Tp {x:(List (Int×(Int×Int)))} {v:(List (Int×(Int×Int)))} (h:MU x=some v):qv 37 [(.av (x.flatMap qx) x.length .shared)] (.av (v.flatMap qx) v.length .shared):=by
 refine qN eD ae4 rfl (HB (fun _=>(p9 rfl (p9 rfl (p9 rfl rfl)))) _ _ _) fun Q bo=>?_;have jG:qK [.tmp 2] Q (fun v=>(.av (v.flatMap qx) v.length .shared)) v:=fun T H bD=>bo _ T H bD;unfold MU at h;unfold aar;conv=>whnf
 exact qd h jG rfl rfl

noncomputable def aas:gB :=
 p5 [p3 6 [] (.alloc [.int .i64 0,.int .i64 0,.int .i64 0])] (p5 [p4 7 0,p4 8 1,p4 9 2,p3 10 [.Bs 8,.Bs 9] (.build [.int .i64 0,.int .i64 0] [(0,1),(1,1)]),p3 11 [.Bs 7,.Bs 10] (.build [.int .i64 0,.int .i64 0,.int .i64 0] [(0,1),(1,2)]),⟨none,[.m_ 6,.jm 11],none,none,.st 3⟩] .ret)
theorem ae5:qt Tryz.prog Ur 38=some (aas,12,[.cell 6 (.str 3)]):=by kernel_rfl
def MV (PC pull more:Int):Option (Int×(Int×Int)) :=
 some (PC,(pull,more))
theorem Tq {PC:Int} {pull:Int} {more:Int} {v:(Int×(Int×Int))} (h:MV PC pull more=some v):qv 38 [(hX PC),(hX pull),(hX more)] (.agg [(hX v.1),(hX v.2.1),(hX v.2.2)]):=by
 refine qN eD ae5 rfl (H3 (p9 rfl (p9 rfl (p9 rfl rfl)))) fun Q bo=>?_;have jG:qK [.cell 6 (.str 3)] Q (fun v=>(.agg [(hX v.1),(hX v.2.1),(hX v.2.2)])) v:=fun T H bD=>bo _ T H bD;unfold MV at h;unfold aas;conv=>whnf
 exact qd h jG rfl rfl
end Go.Proofs.YtkoioidpbbbaiaaGreat.Ab


namespace Go.Proofs.YtkoioidpbbbaiaaGreat.Ab
open Go
set_option maxRecDepth 100000
set_option maxHeartbeats 4000000
noncomputable def Z':gB :=
 p5 [p3 0 [.cv (.bool false)] .mR] (p5 [p3 34 [.cv (.func 33 [] [])] (.call 3),p3 35 [.cv (.func 34 [] [])] (.call 3),p3 36 [.cv (.func 35 [] [])] (.call 3),p3 1 [] (.alloc [.av [] 0 .full,.int .i64 0,.int .i64 0]),p3 2 [] (.alloc [.av [] 0 .full,.int .i64 0,.int .i64 0]),p3 3 [] (.alloc [.av [] 0 .full,.int .i64 0,.int .i64 0]),⟨none,[.m_ 1,.jm 34],none,none,.st 3⟩,⟨none,[.m_ 2,.jm 35],none,none,.st 3⟩,⟨none,[.m_ 3,.jm 36],none,none,.st 3⟩] (.seq (rh [p3 38 [.m_ 3] (.zE (.str 3)),p3 39 [.cv (.int .i64 1),.cv (.int .i64 0),.cv (.int .i64 2),.cv (.int .i64 3),.cv (.int .i64 4)] (.yB 5 1 [.int .i64 0] [0,1,2,3,4]),p3 40 [.cv (.func 36 [] []),.m_ 39] (.call 3),p3 41 [.cv (.func 30 [] []),.m_ 38,.m_ 40,.cv (.int .i64 0)] (.call 3),p4 37 41,qQ 42 37 0,qQ 43 37 1,qQ 44 37 2,p4 4 42,p4 5 43,p4 6 44]) (.seq (rh [p3 46 [.m_ 1] (.zE (.str 3)),p3 47 [.cv (.int .i64 1),.cv (.int .i64 0),.cv (.int .i64 2)] (.yB 3 1 [.int .i64 0] [0,1,2]),p3 48 [.cv (.func 36 [] []),.m_ 47] (.call 3),p3 49 [.cv (.func 30 [] []),.m_ 46,.m_ 48,.cv (.int .i64 5)] (.call 3),p4 45 49,qQ 50 45 0,qQ 51 45 1,qQ 52 45 2,p4 7 50,p4 8 51,p4 9 52]) (.seq (rh [p3 54 [.m_ 1] (.zE (.str 3)),p3 55 [.cv (.int .i64 1),.cv (.int .i64 0),.cv (.int .i64 2)] (.yB 3 1 [.int .i64 0] [0,1,2]),p3 56 [.cv (.func 36 [] []),.m_ 55] (.call 3),p3 57 [.cv (.func 29 [] []),.m_ 54,.m_ 56] (.call 3),p4 53 57,qQ 58 53 0,qQ 59 53 1,p4 10 58,p4 11 59]) (.seq (rh [p3 61 [.Bs 1] (.zE (.str 3)),p3 62 [.cv (.int .i64 0),.cv (.int .i64 1),.cv (.int .i64 1)] (.yB 3 1 [.int .i64 0] [0,1,2]),p3 63 [.cv (.func 36 [] []),.m_ 62] (.call 3),p3 64 [.cv (.func 29 [] []),.m_ 61,.m_ 63] (.call 3),p4 60 64,qQ 65 60 0,qQ 66 60 1,p4 12 65,p4 13 66]) (p5 [p3 68 [.m_ 2] (.zE (.str 3)),p3 69 [.cv (.func 12 [] []),.m_ 68] (.call 3),p4 67 69,qQ 70 67 0,p3 71 [.Bs 67] (.ext 1),p4 14 70,p4 15 71] (p5 [p3 73 [.m_ 2] (.zE (.str 3)),p3 74 [.cv (.func 14 [] []),.m_ 73] (.call 3),p4 72 74,qQ 75 72 0,p3 76 [.Bs 72] (.ext 1),p4 16 75,p4 17 76] (p5 [p3 78 [.m_ 3] (.zE (.str 3)),p3 79 [.cv (.func 16 [] []),.m_ 78] (.call 3),p4 77 79,qQ 80 77 0,p3 81 [.Bs 77] (.ext 1),p4 18 80,p4 19 81] (.seq (rh [p3 83 [.m_ 2] (.zE (.str 3)),p3 84 [.cv (.int .i64 0),.cv (.int .i64 2),.cv (.int .i64 1)] (.yB 3 1 [.int .i64 0] [0,1,2]),p3 85 [.cv (.func 36 [] []),.m_ 84] (.call 3),p3 86 [.cv (.func 38 [] []),.cv (.int .i64 0),.cv (.int .i64 5),.cv (.int .i64 0)] (.call 3),p3 87 [.Bs 86] (.yB 1 3 [.int .i64 0,.int .i64 0,.int .i64 0] [0]),p3 88 [.cv (.func 37 [] []),.m_ 87] (.call 3),p3 89 [.cv (.func 19 [] []),.m_ 83,.m_ 85,.m_ 88] (.call 3),p4 82 89,qQ 90 82 0,qQ 91 82 1,p4 20 90,p4 21 91]) (.seq (rh [p3 93 [.m_ 2] (.zE (.str 3)),p3 94 [.cv (.int .i64 0),.cv (.int .i64 2),.cv (.int .i64 1)] (.yB 3 1 [.int .i64 0] [0,1,2]),p3 95 [.cv (.func 36 [] []),.m_ 94] (.call 3),p3 96 [.cv (.func 38 [] []),.cv (.int .i64 2),.cv (.int .i64 1),.cv (.int .i64 0)] (.call 3),p3 97 [.Bs 96] (.yB 1 3 [.int .i64 0,.int .i64 0,.int .i64 0] [0]),p3 98 [.cv (.func 37 [] []),.m_ 97] (.call 3),p3 99 [.cv (.func 19 [] []),.m_ 93,.m_ 95,.m_ 98] (.call 3),p4 92 99,qQ 100 92 0,qQ 101 92 1,p4 22 100,p4 23 101]) (.seq (rh [p3 103 [.m_ 2] (.zE (.str 3)),p3 104 [.cv (.int .i64 0),.cv (.int .i64 2),.cv (.int .i64 1)] (.yB 3 1 [.int .i64 0] [0,1,2]),p3 105 [.cv (.func 36 [] []),.m_ 104] (.call 3),p3 106 [.cv (.func 38 [] []),.cv (.int .i64 0),.cv (.int .i64 101),.cv (.int .i64 0)] (.call 3),p3 107 [.Bs 106] (.yB 1 3 [.int .i64 0,.int .i64 0,.int .i64 0] [0]),p3 108 [.cv (.func 37 [] []),.m_ 107] (.call 3),p3 109 [.cv (.func 19 [] []),.m_ 103,.m_ 105,.m_ 108] (.call 3),p4 102 109,qQ 110 102 0,qQ 111 102 1,p4 24 110,p4 25 111]) (.seq (rh [p3 113 [.Bs 3] (.zE (.str 3)),p3 114 [.cv (.int .i64 1),.cv (.int .i64 0),.cv (.int .i64 2),.cv (.int .i64 3),.cv (.int .i64 4)] (.yB 5 1 [.int .i64 0] [0,1,2,3,4]),p3 115 [.cv (.func 36 [] []),.m_ 114] (.call 3),p3 116 [.cv (.func 21 [] []),.m_ 113,.m_ 115] (.call 3),p4 112 116,qQ 117 112 0,qQ 118 112 1,p4 26 117,p4 27 118]) (.seq (rh [p3 120 [.m_ 2] (.zE (.str 3)),p3 121 [.cv (.int .i64 0),.cv (.int .i64 2),.cv (.int .i64 1)] (.yB 3 1 [.int .i64 0] [0,1,2]),p3 122 [.cv (.func 36 [] []),.m_ 121] (.call 3),p3 123 [.cv (.func 23 [] []),.m_ 120,.m_ 122] (.call 3),p4 119 123,qQ 124 119 0,qQ 125 119 1,p4 28 124,p4 29 125]) (p5 [p3 127 [.m_ 2] (.zE (.str 3)),p3 128 [.cv (.func 24 [] []),.m_ 127] (.call 3),p4 126 128,qQ 129 126 0,p3 130 [.Bs 126] (.ext 1),p4 30 129,p4 31 130] (.seq (p5 [p4 131 6,qu 132 131 0 .neq,p4 133 132,ch 134 [.jm 9] 133 false .mR,ch 135 [.Bs 134,.cv (.int .i64 3)] 133 false (.bin .neq),p3 136 [.Bs 133,.cv (.bool true),.Bs 135] .pick,p4 137 136,ch 138 [.jm 11] 137 false .mR,ch 139 [.Bs 138,.cv (.int .i64 0)] 137 false (.bin .neq),p3 140 [.Bs 137,.cv (.bool true),.Bs 139] .pick,p4 141 140,ch 142 [.jm 13] 141 false .mR,ch 143 [.Bs 142,.cv (.int .i64 16)] 141 false (.bin .neq),p3 144 [.Bs 141,.cv (.bool true),.Bs 143] .pick,p4 145 144,ch 146 [.jm 15] 145 false .mR,ch 147 [.Bs 146,.cv (.int .i64 0)] 145 false (.bin .neq),p3 148 [.Bs 145,.cv (.bool true),.Bs 147] .pick,p4 149 148,ch 150 [.jm 17] 149 false .mR,ch 151 [.Bs 150,.cv (.int .i64 0)] 149 false (.bin .neq),p3 152 [.Bs 149,.cv (.bool true),.Bs 151] .pick,p4 153 152,ch 154 [.jm 19] 153 false .mR,ch 155 [.Bs 154,.cv (.int .i64 0)] 153 false (.bin .neq),p3 156 [.Bs 153,.cv (.bool true),.Bs 155] .pick,p4 157 156,ch 158 [.jm 21] 157 false .mR,ch 159 [.Bs 158,.cv (.int .i64 0)] 157 false (.bin .neq),p3 160 [.Bs 157,.cv (.bool true),.Bs 159] .pick,p4 161 160,ch 162 [.jm 23] 161 false .mR,ch 163 [.Bs 162,.cv (.int .i64 23)] 161 false (.bin .neq),p3 164 [.Bs 161,.cv (.bool true),.Bs 163] .pick,p4 165 164,ch 166 [.jm 25] 165 false .mR,ch 167 [.Bs 166,.cv (.int .i64 3)] 165 false (.bin .neq),p3 168 [.Bs 165,.cv (.bool true),.Bs 167] .pick,p4 169 168,ch 170 [.jm 27] 169 false .mR,ch 171 [.Bs 170,.cv (.int .i64 0)] 169 false (.bin .neq),p3 172 [.Bs 169,.cv (.bool true),.Bs 171] .pick,p4 173 172,ch 174 [.jm 29] 173 false .mR,ch 175 [.Bs 174,.cv (.int .i64 0)] 173 false (.bin .neq),p3 176 [.Bs 173,.cv (.bool true),.Bs 175] .pick,p4 177 176,ch 178 [.jm 31] 177 false .mR,ch 179 [.Bs 178,.cv (.int .i64 0)] 177 false (.bin .neq),p3 180 [.Bs 177,.cv (.bool true),.Bs 179] .pick] (.cond (.m_ 180) (p5 [p3 0 [.cv (.bool false)] .mR] .ret) .skip)) (.seq (rh [p3 182 [.Bs 2] (.zE (.str 3)),p3 183 [.cv (.int .i64 0),.cv (.int .i64 2),.cv (.int .i64 1)] (.yB 3 1 [.int .i64 0] [0,1,2]),p3 184 [.cv (.func 36 [] []),.m_ 183] (.call 3),p4 185 28,p3 186 [.cv (.func 20 [] []),.m_ 182,.m_ 184,.m_ 185] (.call 3),p4 181 186,qQ 187 181 0,qQ 188 181 1,p4 32 187,p4 33 188]) (p5 [p4 189 4,qu 190 189 (-4) .eql,p4 191 190,ch 192 [.jm 5] 191 true .mR,ch 193 [.Bs 192,.cv (.int .i64 2)] 191 true (.bin .eql),p3 194 [.Bs 191,.Bs 193,.cv (.bool false)] .pick,p4 195 194,ch 196 [.jm 10] 195 true .mR,ch 197 [.Bs 196,.cv (.int .i64 9)] 195 true (.bin .eql),p3 198 [.Bs 195,.Bs 197,.cv (.bool false)] .pick,p4 199 198,ch 200 [.jm 14] 199 true .mR,ch 201 [.Bs 200,.cv (.int .i64 2)] 199 true (.bin .eql),p3 202 [.Bs 199,.Bs 201,.cv (.bool false)] .pick,p4 203 202,ch 204 [.jm 16] 203 true .mR,⟨some 205,[.cv (.int .i64 0),.cv (.int .i64 2),.cv (.int .i64 1)],some (203,true),none,.yB 3 1 [.int .i64 0] [0,1,2]⟩,⟨some 206,[.cv (.func 36 [] []),.m_ 205],some (203,true),none,.call 3⟩,⟨some 207,[.cv (.func 18 [] []),.m_ 204,.m_ 206],some (203,true),none,.call 3⟩,p3 208 [.Bs 203,.Bs 207,.cv (.bool false)] .pick,p4 209 208,ch 210 [.jm 18] 209 true .mR,ch 211 [.Bs 210,.cv (.int .i64 8)] 209 true (.bin .eql),p3 212 [.Bs 209,.Bs 211,.cv (.bool false)] .pick,p4 213 212,ch 214 [.jm 20] 213 true .mR,ch 215 [.Bs 214,.cv (.int .i64 1)] 213 true (.bin .eql),p3 216 [.Bs 213,.Bs 215,.cv (.bool false)] .pick,p4 217 216,ch 218 [.jm 26] 217 true .mR,ch 219 [.Bs 218,.cv (.int .i64 2)] 217 true (.bin .eql),p3 220 [.Bs 217,.Bs 219,.cv (.bool false)] .pick,p4 221 220,ch 222 [.jm 33] 221 true .mR,ch 223 [.Bs 222,.cv (.int .i64 0)] 221 true (.bin .eql),p3 224 [.Bs 221,.Bs 223,.cv (.bool false)] .pick,p4 225 224,ch 226 [.jm 32] 225 true .mR,ch 227 [.Bs 226,.cv (.int .i64 1)] 225 true (.bin .eql),p3 228 [.Bs 225,.Bs 227,.cv (.bool false)] .pick,p4 229 228,ch 230 [.jm 30] 229 true .mR,⟨some 231,[.cv (.int .i64 0),.cv (.int .i64 1),.cv (.int .i64 2)],some (229,true),none,.yB 3 1 [.int .i64 0] [0,1,2]⟩,⟨some 232,[.cv (.func 36 [] []),.m_ 231],some (229,true),none,.call 3⟩,⟨some 233,[.cv (.func 18 [] []),.m_ 230,.m_ 232],some (229,true),none,.call 3⟩,p3 234 [.Bs 229,.Bs 233,.cv (.bool false)] .pick,p4 0 234] .ret)))))))))))))))))
theorem aeM:qt Tryz.prog T' 11=some (Z',235,[.tmp 0]):=by kernel_rfl
def I'  : Option Bool :=
 (PT).bind fun aS =>
 (PU).bind fun bh =>
 (PV).bind fun eH =>
 (IF [(1:Int),(0:Int),(2:Int),(3:Int),(4:Int)]).bind fun qP =>
 (KQ eH qP (0:Int)).bind fun q3 =>
 (IF [(1:Int),(0:Int),(2:Int)]).bind fun rP =>
 (KQ aS rP (5:Int)).bind fun H4 =>
 (IF [(1:Int),(0:Int),(2:Int)]).bind fun HC =>
 (Ki aS HC).bind fun Ie =>
 (IF [(0:Int),(1:Int),(1:Int)]).bind fun Is =>
 (Ki aS Is).bind fun MB =>
 (LF bh).bind fun MC =>
 (KL bh).bind fun Sa =>
 (LG eH).bind fun Sb =>
 (IF [(0:Int),(2:Int),(1:Int)]).bind fun Xr =>
 (MV (0:Int) (5:Int) (0:Int)).bind fun Xs =>
 (MU [Xs]).bind fun Xt =>
 (JK bh Xr Xt).bind fun Sc =>
 (IF [(0:Int),(2:Int),(1:Int)]).bind fun Xu =>
 (MV (2:Int) (1:Int) (0:Int)).bind fun Xv =>
 (MU [Xv]).bind fun Xw =>
 (JK bh Xu Xw).bind fun Xx =>
 (IF [(0:Int),(2:Int),(1:Int)]).bind fun Xy =>
 (MV (0:Int) (101:Int) (0:Int)).bind fun Xz =>
 (MU [Xz]).bind fun XA =>
 (JK bh Xy XA).bind fun XB =>
 (IF [(1:Int),(0:Int),(2:Int),(3:Int),(4:Int)]).bind fun XC =>
 (LI eH XC).bind fun Sd =>
 (IF [(0:Int),(2:Int),(1:Int)]).bind fun XD =>
 (KP bh XD).bind fun Se =>
 (LJ bh).bind fun Sf =>
 if (decide (q3.2.2≠(0:Int)))=true then
  some false
 else
  if (decide (H4.2.2≠(3:Int)))=true then
   some false
  else
   if (decide (Ie.2≠(0:Int)))=true then
    some false
   else
    if (decide (MB.2≠(16:Int)))=true then
     some false
    else
     if (decide (MC.2≠(0:Int)))=true then
      some false
     else
      if (decide (Sa.2≠(0:Int)))=true then
       some false
      else
       if (decide (Sb.2≠(0:Int)))=true then
        some false
       else
        if (decide (Sc.2≠(0:Int)))=true then
         some false
        else
         if (decide (Xx.2≠(23:Int)))=true then
          some false
         else
          if (decide (XB.2≠(3:Int)))=true then
           some false
          else
           if (decide (Sd.2≠(0:Int)))=true then
            some false
           else
            if (decide (Se.2≠(0:Int)))=true then
             some false
            else
             if (decide (Sf.2≠(0:Int)))=true then
              some false
             else
              (IF [(0:Int),(2:Int),(1:Int)]).bind fun XE =>
              (KO bh XE Se.1).bind fun Sg =>
              if (decide (q3.1=(-4:Int)))=true then
               if (decide (q3.2.1=(2:Int)))=true then
                if (decide (Ie.1=(9:Int)))=true then
                 if (decide (MC.1=(2:Int)))=true then
                  (IF [(0:Int),(2:Int),(1:Int)]).bind fun XF =>
                  (Jm Sa.1 XF).bind fun Sh =>
                  if Sh=true then
                   if (decide (Sb.1=(8:Int)))=true then
                    if (decide (Sc.1=(1:Int)))=true then
                     if (decide (Sd.1=(2:Int)))=true then
                      if (decide (Sg.2=(0:Int)))=true then
                       if (decide (Sg.1=(1:Int)))=true then
                        (IF [(0:Int),(1:Int),(2:Int)]).bind fun XG =>
                        (Jm Sf.1 XG).bind fun XH =>
                        some XH
                       else
                        some false
                      else
                       some false
                     else
                      some false
                    else
                     some false
                   else
                    some false
                  else
                   some false
                 else
                  some false
                else
                 some false
               else
                some false
              else
               some false
theorem Ke  {v:Bool} (h:I'  = some v):qv 11 [] (B v):=by
 refine qN eD aeM rfl rfl fun Q bo=>?_;have jG:qK [.tmp 0] Q (fun v=>(B v)) v:=fun T H bD=>bo _ T H bD;unfold I' at h;unfold Z';conv=>whnf
 obtain ⟨aS,gJ,h⟩:=p' h;refine ⟨rfl,_,aiE gJ,?_⟩;conv=>whnf
 obtain ⟨bh,gK,h⟩:=p' h;refine ⟨rfl,_,aiG gK,?_⟩;conv=>whnf
 obtain ⟨eH,qs,h⟩:=p' h;refine ⟨rfl,_,aiI qs,?_⟩;conv=>whnf
 obtain ⟨qP,qG,h⟩:=p' h;refine ⟨(p9 rfl rfl),_,Jn qG,rB,?_⟩;conv=>whnf
 obtain ⟨q3,qW,h⟩:=p' h;refine ⟨qi.pl,_,ZF qW,Im rfl,?_⟩;conv=>whnf
 obtain ⟨rP,q8,h⟩:=p' h;refine ⟨(p9 rfl rfl),_,Jn q8,rB,?_⟩;conv=>whnf
 obtain ⟨H4,qR,h⟩:=p' h;refine ⟨qi.pl,_,ZF qR,Im rfl,?_⟩;conv=>whnf
 obtain ⟨HC,rb,h⟩:=p' h;refine ⟨(p9 rfl rfl),_,Jn rb,rB,?_⟩;conv=>whnf
 obtain ⟨Ie,q9,h⟩:=p' h;refine ⟨qi.pl,_,Tl q9,Im rfl,?_⟩;conv=>whnf
 obtain ⟨Is,rv,h⟩:=p' h;refine ⟨(p9 rfl rfl),_,Jn rv,rB,?_⟩;conv=>whnf
 obtain ⟨MB,Hi,h⟩:=p' h;refine ⟨qi.pl,_,Tl Hi,Im rfl,?_⟩;conv=>whnf
 obtain ⟨MC,Hp,h⟩:=p' h;refine ⟨qi.pl,_,Zw Hp,?_⟩;conv=>whnf
 obtain ⟨Sa,Hv,h⟩:=p' h;refine ⟨qi.pl,_,Tf Hv,?_⟩;conv=>whnf
 obtain ⟨Sb,HZ,h⟩:=p' h;refine ⟨qi.pl,_,ZA HZ,?_⟩;conv=>whnf
 obtain ⟨Xr,HH,h⟩:=p' h;refine ⟨(p9 rfl rfl),_,Jn HH,rB,?_⟩;conv=>whnf
 obtain ⟨Xs,Jg,h⟩:=p' h;refine ⟨(p9 rfl (p9 rfl (p9 rfl rfl))),_,Tq Jg,Im rfl,?_⟩;conv=>whnf
 obtain ⟨Xt,Ip,h⟩:=p' h;refine ⟨(p9 rfl rfl),_,Tp Ip,Im rfl,?_⟩;conv=>whnf
 obtain ⟨Sc,Jh,h⟩:=p' h;refine ⟨qi.pl,_,PS Jh,Im rfl,?_⟩;conv=>whnf
 obtain ⟨Xu,IA,h⟩:=p' h;refine ⟨(p9 rfl rfl),_,Jn IA,rB,?_⟩;conv=>whnf
 obtain ⟨Xv,OX,h⟩:=p' h;refine ⟨(p9 rfl (p9 rfl (p9 rfl rfl))),_,Tq OX,Im rfl,?_⟩;conv=>whnf
 obtain ⟨Xw,Nt,h⟩:=p' h;refine ⟨(p9 rfl rfl),_,Tp Nt,Im rfl,?_⟩;conv=>whnf
 obtain ⟨Xx,Lc,h⟩:=p' h;refine ⟨qi.pl,_,PS Lc,Im rfl,?_⟩;conv=>whnf
 obtain ⟨Xy,Mf,h⟩:=p' h;refine ⟨(p9 rfl rfl),_,Jn Mf,rB,?_⟩;conv=>whnf
 obtain ⟨Xz,OY,h⟩:=p' h;refine ⟨(p9 rfl (p9 rfl (p9 rfl rfl))),_,Tq OY,Im rfl,?_⟩;conv=>whnf
 obtain ⟨XA,Nu,h⟩:=p' h;refine ⟨(p9 rfl rfl),_,Tp Nu,Im rfl,?_⟩;conv=>whnf
 obtain ⟨XB,VR,h⟩:=p' h;refine ⟨qi.pl,_,PS VR,Im rfl,?_⟩;conv=>whnf
 obtain ⟨XC,Ro,h⟩:=p' h;refine ⟨(p9 rfl rfl),_,Jn Ro,rB,?_⟩;conv=>whnf
 obtain ⟨Sd,Rp,h⟩:=p' h;refine ⟨qi.pl,_,ZB Rp,Im rfl,?_⟩;conv=>whnf
 obtain ⟨XD,VS,h⟩:=p' h;refine ⟨(p9 rfl rfl),_,Jn VS,rB,?_⟩;conv=>whnf
 obtain ⟨Se,VT,h⟩:=p' h;refine ⟨qi.pl,_,Tj VT,Im rfl,?_⟩;conv=>whnf
 obtain ⟨Sf,Nv,h⟩:=p' h;refine ⟨qi.pl,_,ZD Nv,?_⟩;conv=>whnf
 refine bs h (fun OZ h=>?_) fun OZ h=>?_
 ·rw [OZ];conv=>whnf
  exact qd h jG rfl rfl
 ·rw [OZ];conv=>whnf
  refine bs h (fun Nw h=>?_) fun Nw h=>?_
  ·rw [Nw];(conv=>whnf);exact qd h jG rfl rfl
  ·rw [Nw];(conv=>whnf);refine bs h (fun Nx h=>?_) fun Nx h=>?_
   ·rw [Nx];(conv=>whnf);exact qd h jG rfl rfl
   ·rw [Nx];(conv=>whnf);refine bs h (fun O0 h=>?_) fun O0 h=>?_
    ·rw [O0];(conv=>whnf);exact qd h jG rfl rfl
    ·rw [O0];(conv=>whnf);refine bs h (fun Ny h=>?_) fun Ny h=>?_
     ·rw [Ny];(conv=>whnf);exact qd h jG rfl rfl
     ·rw [Ny];(conv=>whnf);refine bs h (fun Ld h=>?_) fun Ld h=>?_
      ·rw [Ld];(conv=>whnf);exact qd h jG rfl rfl
      ·rw [Ld];(conv=>whnf);refine bs h (fun O1 h=>?_) fun O1 h=>?_
       ·rw [O1];(conv=>whnf);exact qd h jG rfl rfl
       ·rw [O1];(conv=>whnf);refine bs h (fun Le h=>?_) fun Le h=>?_
        ·rw [Le];(conv=>whnf);exact qd h jG rfl rfl
        ·rw [Le];(conv=>whnf);refine bs h (fun Mg h=>?_) fun Mg h=>?_
         ·rw [Mg];(conv=>whnf);exact qd h jG rfl rfl
         ·rw [Mg];(conv=>whnf);refine bs h (fun Rq h=>?_) fun Rq h=>?_
          ·rw [Rq];(conv=>whnf);exact qd h jG rfl rfl
          ·rw [Rq];(conv=>whnf);refine bs h (fun Rr h=>?_) fun Rr h=>?_
           ·rw [Rr];(conv=>whnf);exact qd h jG rfl rfl
           ·rw [Rr];(conv=>whnf);refine bs h (fun Rs h=>?_) fun Rs h=>?_
            ·rw [Rs];(conv=>whnf);exact qd h jG rfl rfl
            ·rw [Rs];(conv=>whnf);refine bs h (fun Rt h=>?_) fun Rt h=>?_
             ·rw [Rt];(conv=>whnf);exact qd h jG rfl rfl
             ·rw [Rt];(conv=>whnf);obtain ⟨XE,adj,h⟩:=p' h;refine ⟨(p9 rfl rfl),_,Jn adj,rB,?_⟩;(conv=>whnf);obtain ⟨Sg,adk,h⟩:=p' h;refine ⟨qi.pl,_,Th adk,Im rfl,?_⟩;(conv=>whnf);refine bs h (fun Ru h=>?_) fun Ru h=>?_
              ·rw [Ru];(conv=>whnf);refine bs h (fun Rv h=>?_) fun Rv h=>?_
               ·rw [Rv];(conv=>whnf);refine bs h (fun Rw h=>?_) fun Rw h=>?_
                ·rw [Rw];(conv=>whnf);refine bs h (fun Rx h=>?_) fun Rx h=>?_
                 ·rw [Rx];(conv=>whnf);obtain ⟨XF,adl,h⟩:=p' h;refine ⟨(p9 rfl rfl),_,Jn adl,?_⟩;(conv=>whnf);obtain ⟨Sh,adm,h⟩:=p' h;refine ⟨qi.pl,_,PO adm,?_⟩;(conv=>whnf);cases Sh
                  ·(conv=>whnf);replace h:=rp rfl h;exact qd h jG rfl rfl
                  ·(conv=>whnf);replace h:=rn rfl h;refine bs h (fun Ry h=>?_) fun Ry h=>?_
                   ·rw [Ry];(conv=>whnf);refine bs h (fun Rz h=>?_) fun Rz h=>?_
                    ·rw [Rz];(conv=>whnf);refine bs h (fun RA h=>?_) fun RA h=>?_
                     ·rw [RA];(conv=>whnf);refine bs h (fun RB h=>?_) fun RB h=>?_
                      ·rw [RB];(conv=>whnf);refine bs h (fun RC h=>?_) fun RC h=>?_
                       ·rw [RC];(conv=>whnf);obtain ⟨XG,adn,h⟩:=p' h;refine ⟨(p9 rfl rfl),_,Jn adn,?_⟩;(conv=>whnf);obtain ⟨XH,ado,h⟩:=p' h;refine ⟨qi.pl,_,PO ado,?_⟩;(conv=>whnf);exact qd h jG rfl rfl
                       ·rw [RC];(conv=>whnf);exact qd h jG rfl rfl
                      ·rw [RB];(conv=>whnf);exact qd h jG rfl rfl
                     ·rw [RA];(conv=>whnf);exact qd h jG rfl rfl
                    ·rw [Rz];(conv=>whnf);exact qd h jG rfl rfl
                   ·rw [Ry];(conv=>whnf);exact qd h jG rfl rfl
                 ·rw [Rx];(conv=>whnf);exact qd h jG rfl rfl
                ·rw [Rw];(conv=>whnf);exact qd h jG rfl rfl
               ·rw [Rv];(conv=>whnf);exact qd h jG rfl rfl
              ·rw [Ru];(conv=>whnf);exact qd h jG rfl rfl
end Go.Proofs.YtkoioidpbbbaiaaGreat.Ab
