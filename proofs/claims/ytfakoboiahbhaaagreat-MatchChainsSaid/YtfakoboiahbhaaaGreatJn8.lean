
import Derived.Test.YtfakoboiahbhaaaGreatJn4
import Derived.Test.YtfakoboiahbhaaaGreatJn7
import Derived.KernelRfl
set_option linter.unusedSimpArgs false
set_option linter.unusedVariables false
set_option linter.unusedSectionVars false

namespace Go.Proofs.YtfakoboiahbhaaaGreat.Ab
open Go
set_option maxRecDepth 20000
set_option maxHeartbeats 4000000
noncomputable def xrc6:RC :=
 .seq (.reg false [I_ 3 [.tk 0] .box,I_ 6 [.cv (.bool false)] .mv]) (.seq (.seq (.reg false [I_ 11 [.sl 3] (.ld (.str 2)),I_ 12 [.cv (.func 16 [] []),.sl 11] (.call 3)]) (.cond (.sl 12) (.seq (.reg false [I_ 13 [.cv (.func 17
 [] [])] (.call 3),I_ 6 [.tk 13] .mv]) .ret) .skip)) (.seq (.reg false [I_ 15 [.sl 3] (.ld (.str 2)),I_ 16 [.sl 1] .mv,I_ 17 [.sl 2] .mv,I_ 18 [.cv (.func 45 [] []),.sl 15,.sl 16,.sl 17] (.call 3),I_ 14 [.tk 18] .mv,I_
 19 [.sl 14] (.ext 0),I_ 20 [.tv 14] (.ext 1),I_ 7 [.tk 19] .mv,I_ 8 [.tk 20] .mv]) (.seq (.reg false [I_ 22 [.tv 3] (.ld (.str 2)),I_ 23 [.tk 1] .mv,I_ 24 [.tk 2] .mv,I_ 25 [.cv (.func 46 [] []),.sl 22,.sl 23,.sl 24]
 (.call 3),I_ 21 [.tk 25] .mv,I_ 26 [.sl 21] (.ext 0),I_ 27 [.tv 21] (.ext 1),I_ 9 [.tk 26] .mv,I_ 10 [.tk 27] .mv]) (.seq (.reg false [I_ 28 [.tk 7] .mv,I_ 29 [.tk 9] .mv,I_ 30 [.cv (.func 43 [] []),.sl 28,.sl 29]
 (.call 3),I_ 31 [.tk 30] .mv,⟨some 32,[.tk 8],some (31,true),none,.mv⟩,⟨some 33,[.tk 10],some (31,true),none,.mv⟩,⟨some 34,[.tv 32,.tv 33],some (31,true),none,.bin .eql⟩,I_ 35 [.tv 31,.tv 34,.cv (.bool
 false)] .pick,I_ 36 [.tk 35] .mv,⟨some 37,[.cv (.func 17 [] [])],some (36,true),none,.call 3⟩,I_ 38 [.tv 36,.tv 37,.cv (.bool false)] .pick,I_ 6 [.tk 38] .mv]) .ret))))
theorem lxx6:linkF Tryz.prog ann6 6=some (xrc6,39,[.tmp 6]):=by kernel_rfl
def x6 (b:(Int×(List (Int×Int)))) (fromq:Int) (to:Int):Option Bool :=
 (x16 b).bind fun r1 =>
 if r1=true then
  (x17).bind fun r2 =>
  some r2
 else
  (x45 b fromq to).bind fun r3 =>
  (x46 b fromq to).bind fun r4 =>
  (x43 r3.1 r4.1).bind fun r5 =>
  if r5=true then
   if (decide (r3.2=r4.2))=true then
    (x17).bind fun r6 =>
    some r6
   else
    some false
  else
   some false
theorem x6_ok {b:(Int×(List (Int×Int)))} {fromq:Int} {to:Int} {v:Bool} (h:x6 b fromq to=some v):PO 6 [(.agg [(I b.1),(.lst (b.2.flatMap pr) b.2.length .shared)]),(I fromq),(I to)] (B v):=by
 refine fn_pureW hmix lxx6 rfl rfl fun Q hQ=>?_
 have hR:∀ T H,RetW [.tmp 6] (B v) .ret T H→Q .ret T H:=fun T H hh=>hQ _ T H hh
 unfold x6 at h
 unfold xrc6
 skip
 conv=>whnf
 obtain ⟨r1,hb1,h⟩:=bd_some h
 refine ⟨(allc (pu_agg (allc rfl (allc (pu_flat (fun _=>(allc rfl (allc rfl rfl))) _ _ _) rfl))) rfl),_,x16_ok hb1,?_⟩
 conv=>whnf
 cases r1
 ·conv=>whnf
  replace h:=it_f rfl h
  obtain ⟨r3,hb3,h⟩:=bd_some h
  refine ⟨(allc (pu_agg (allc rfl (allc (pu_flat (fun _=>(allc rfl (allc rfl rfl))) _ _ _) rfl))) (allc rfl (allc rfl rfl))),_,x45_ok hb3,?_⟩
  conv=>whnf
  obtain ⟨r4,hb4,h⟩:=bd_some h
  refine ⟨(allc (pu_agg (allc rfl (allc (pu_flat (fun _=>(allc rfl (allc rfl rfl))) _ _ _) rfl))) (allc rfl (allc rfl rfl))),_,x46_ok hb4,?_⟩
  conv=>whnf
  obtain ⟨r5,hb5,h⟩:=bd_some h
  refine ⟨(allc (pu_flat (fun _=>(allc rfl (allc rfl rfl))) _ _ _) (allc (pu_flat (fun _=>(allc rfl (allc rfl rfl))) _ _ _) rfl)),_,x43_ok hb5,?_⟩
  conv=>whnf
  cases r5
  ·conv=>whnf
   replace h:=it_f rfl h
   obtain rfl:=Option.some.inj h
   exact hR _ _ ⟨.inr rfl,_,rfl,_,frz_pure rfl,rfl⟩
  ·conv=>whnf
   replace h:=it_t rfl h
   rcases bt (decide (r3.2=r4.2)) with hb6 | hb6
   ·rw [hb6]
    conv=>whnf
    replace h:=it_t hb6 h
    obtain ⟨r6,hb7,h⟩:=bd_some h
    refine ⟨rfl,_,x17_ok hb7,?_⟩
    conv=>whnf
    obtain rfl:=Option.some.inj h
    exact hR _ _ ⟨.inr rfl,_,rfl,_,frz_pure rfl,rfl⟩
   ·rw [hb6]
    conv=>whnf
    replace h:=it_f hb6 h
    obtain rfl:=Option.some.inj h
    exact hR _ _ ⟨.inr rfl,_,rfl,_,frz_pure rfl,rfl⟩
 ·conv=>whnf
  replace h:=it_t rfl h
  obtain ⟨r2,hb2,h⟩:=bd_some h
  refine ⟨rfl,_,x17_ok hb2,?_⟩
  conv=>whnf
  obtain rfl:=Option.some.inj h
  exact hR _ _ ⟨.inr rfl,_,rfl,_,frz_pure rfl,rfl⟩
end Go.Proofs.YtfakoboiahbhaaaGreat.Ab


namespace Go.Proofs.YtfakoboiahbhaaaGreat.Ab
open Go
def plcs:Nat→Nat→Row
 | _,0=>[]
 | i,k+1=>((i:Int),0)::((i:Int),1)::plcs (i+1) k
theorem plcs_eq:∀ (k i:Nat),plcs i k=(List.range' (2*i) (2*k)).map plc
 | 0,_=>rfl
 | k+1,i=>by
   rw [plcs,show 2*(k+1)=2*k+1+1 by omega,List.range'_succ,List.range'_succ,List.map_cons,List.map_cons,plcs_eq k (i+1),show 2*i+1+1=2*(i+1) by omega]
   congr 1
   ·unfold plc;exact Prod.ext (by simp only;omega) (by simp only;omega)
   ·congr 1
    unfold plc;exact Prod.ext (by simp only;omega) (by simp only;omega)
theorem places_eq (b:Bk) (f:Int):places b f=(plcs 0 b.2.length).filter fun p=>decide (beg b p=f):=by
 rw [plcs_eq,List.filter_map,places,List.range_eq_range'];rfl
def stands (r:Row) (s:Int):Bool:=r.any fun q=>decide (q.1=s)
def scanP (b:Bk) (begun:Row) (at_:Int) (R:Int×Int→Row×Bool):Row→Option (Row×Bool)→Option (Row×Bool)
 | [],k=>k
 | p::l,k=>if beg b p=at_∧stands begun p.1=false∧(R p).2=true then some ((R p).1,true) else scanP b begun at_ R l k
theorem scanP_find (b:Bk) (begun:Row) (at_:Int) (R:Int×Int→Row×Bool) (k:Option (Row×Bool)):∀ l:Row,scanP b begun at_ R l k=match (l.filter fun p=>decide (beg b p=at_)).find? (fun p=>!stands begun p.1 && (R p).2) with
  | some p=>some ((R p).1,true)
  | none=>k
 | []=>rfl
 | p::l=>by
   rw [scanP,List.filter_cons]
   by_cases h:beg b p=at_
   ·rw [if_pos (decide_eq_true h),List.find?_cons]
    by_cases h2:(!stands begun p.1 && (R p).2)=true
    ·rw [h2,if_pos ⟨h,by simp at h2;exact h2.1,by simp at h2;exact h2.2⟩]
    ·rw [if_neg (fun e=>h2 (by rw [e.2.1,e.2.2];rfl)),Bool.eq_false_iff.2 h2];exact scanP_find b begun at_ R k l
   ·rw [if_neg (fun e=>h e.1),if_neg (by simpa using h)];exact scanP_find b begun at_ R k l
abbrev RcF:=Bk→Row→Int→Int→Int→Option (Row×Bool)
def resR (rcF:RcF) (b:Bk) (begun:Row) (to many:Int) (p:Int×Int):Row×Bool:=(rcF b (begun++[p]) (fin b p) to (w (many-1))).getD ([],false)
theorem x90_step {rcF:RcF} {b:Bk} {begun:Row} {at_ to many:Int} {i:Nat} {k:Unit→Option (Row×Bool)} (hi:i<b.2.length) (hs:begun.length≤1000) {t:Int} {m:Nat} (ht:t=0∨t=1)
  (hR:beg b ((i:Int),t)=at_→stands begun (i:Int)=false→∃ v,rcF b (begun++[((i:Int),t)]) (fin b ((i:Int),t)) to (w (many-1))=some v) {K:Option (Row×Bool)} (hK:x90_l2 b begun at_ to many rcF (i:Int) k m (w (t+1))=K) :
  x90_l2 b begun at_ to many rcF (i:Int) k (m+1) t=scanP b begun at_ (resR rcF b begun to many) [((i:Int),t)] K:=by
 have hst:strayP b ((i:Int),t)=false:=strayP_false.2 ⟨by simp only;omega,by simp only;omega,by simp only;omega,by simp only;omega⟩
 rw [x90_l2,if_pos (decide_eq_true (by omega)),x57_eq hst,Option.bind_some,scanP,scanP]
 by_cases h1:beg b ((i:Int),t)=at_
 ·rw [if_neg (by simpa using h1),x69_eq _ _ hs,Option.bind_some]
  cases h2:stands begun (i:Int) with
  | true =>
    rw [if_pos (show (begun.any fun q=>decide (q.1=(i:Int)))=true from h2),hK,if_neg (by simp)]
  | false =>
    obtain ⟨v,hv⟩:=hR h1 h2
    rw [if_neg (by rw [show (begun.any fun q=>decide (q.1=(i:Int)))=false from h2];decide),gd_pos (by simp;omega),gd_pos (by simp;omega),x70_eq hst,Option.bind_some,List.nil_append,hv,Option.bind_some]
    have hr:resR rcF b begun to many ((i:Int),t)=v:=by rw [resR,hv];rfl
    rw [hr,hK]
    cases h3:v.2 <;> simp [h1]
 ·rw [if_pos (decide_eq_true h1),hK,if_neg (fun e=>h1 e.1)]
theorem x90_l1_eq {rcF:RcF} {b:Bk} (hb:b.2.length≤1000) {begun:Row} {at_ to many:Int} (hs:begun.length≤1000) (hR:∀ p∈places b at_,stands begun p.1=false→∃ v,rcF b (begun++[p]) (fin b p) to (w (many-1))=some v) {k:Unit→Option (Row×Bool)} :
  ∀ (m i:Nat) (z:Int),z=i→i≤b.2.length→b.2.length-i<m→x90_l1 b begun at_ to many rcF k m z=scanP b begun at_ (resR rcF b begun to many) (plcs i (b.2.length-i)) (k ())
 | 0,i,_,_,_,h=>absurd h (by omega)
 | m+1,i,_,rfl,hi,hm=>by
   rw [x90_l1]
   by_cases h:i<b.2.length
   ·have hin:∀ t:Int,t=0∨t=1→beg b ((i:Int),t)=at_→((i:Int),t)∈places b at_:=fun t ht e=>mem_places.2 ⟨by simp only;omega,by simp only;omega,by simp only;omega,by simp only;omega,e⟩
    obtain ⟨f,hf⟩:∃ f,FU=f+1+1+1:=⟨FU-3,by decide⟩
    rw [iflt h,hf,x90_step h hs (.inl rfl) (fun e e2=>hR _ (hin 0 (.inl rfl) e) e2) rfl,show w ((0:Int)+1)=1 from rfl,x90_step h hs (.inr rfl) (fun e e2=>hR _ (hin 1 (.inr rfl) e) e2) rfl,show w ((1:Int)+1)=2 from rfl,x90_l2,if_neg (by decide),w_succ i (by omega),
     x90_l1_eq hb hs hR m (i+1) _ rfl (by omega) (by omega),show b.2.length-i=(b.2.length-(i+1))+1 by omega,plcs]
    simp only [scanP]
   ·rw [ifge h,show b.2.length-i=0 by omega];rfl
theorem x90S_eq {rcF:RcF} {b:Bk} (hb:b.2.length≤1000) {begun:Row} {at_ to:Int} {n:Nat} (hn:n≤1000) (hs:begun.length≤1000) (hR:∀ p∈places b at_,stands begun p.1=false→∃ v,rcF b (begun++[p]) (fin b p) to (n:Int)=some v) :
  x90S rcF b begun at_ to ((n+1:Nat):Int)=match (places b at_).find? (fun p=>!stands begun p.1 && ((rcF b (begun++[p]) (fin b p) to (n:Int)).getD ([],false)).2) with
  | some p=>some (((rcF b (begun++[p]) (fin b p) to (n:Int)).getD ([],false)).1,true)
  | none=>some ([],false):=by
 have hw:w (((n+1:Nat):Int)-1)=(n:Int):=by rw [w_id (by omega)];omega
 have:=x90_l1_eq (rcF:=rcF) hb (begun:=begun) (at_:=at_) (to:=to) (many:=((n+1:Nat):Int)) hs (by rw [hw];exact hR) (k:=fun _=>some ([],false)) FU 0 0 rfl (Nat.zero_le _) (FU_lt (by omega))
 rw [x90S,if_neg (by simp;omega),this,scanP_find,Nat.sub_zero,←places_eq]
 unfold resR;rw [hw]
theorem ends_of {b:Bk} {p q:Int×Int} (h:p.1=q.1):fin b p=beg b q∨fin b p=fin b q:=by
 unfold fin beg;rw [h];by_cases h1:0<p.2 <;> by_cases h2:0<q.2 <;> simp [h1,h2]
theorem far_step {b:Bk} (hB:Book b) {to f:Int} {D:List Int} (hD:FarD b (-1) to D) {p:Int×Int} (hp:p∈places b f) (hd:0≤ix D (fin b p)):ix D f≤ix D (fin b p)+1:=by
 have hf:=fin_in hB hp;have h6:=hB.f6;have h:=places_in hp
 have hw:=hD.walk (fin b p).toNat (by omega) (by rw [Int.toNat_of_nonneg hf.1];exact hd)
 rw [Int.toNat_of_nonneg hf.1] at hw
 have:=(hD.least ((ix D (fin b p)).toNat+1) f ⟨fin b p,hw,Ed.symm ⟨p,hp,by omega,rfl⟩⟩).2.2.2
 omega
theorem x90_both {b:Bk} (hB:Book b) {to:Int} {D:List Int} (hD:FarD b (-1) to D):∀ (n m:Nat) (at_:Int) (begun:Row),n<m→0≤at_→at_<b.1→begun.length+n≤1000 →
  (ix D at_=(n:Int)→(∀ q∈begun,(n:Int)≤ix D (beg b q)∧(n:Int)≤ix D (fin b q))→x90F m b begun at_ to (n:Int)=some (begun++chainP b D n at_,true)) ∧
  (¬ Wk b (-1) n to at_→∃ x,x90F m b begun at_ to (n:Int)=some (x,false))
 | _,0,_,_,h,_,_,_=>absurd h (by omega)
 | 0,m+1,at_,begun,_,h1,h2,_=>by
   have h6:=hB.f6
   refine ⟨fun h _=>?_,fun h=>⟨begun,?_⟩⟩
   ·have hw:=hD.walk at_.toNat (by omega) (by rw [Int.toNat_of_nonneg h1];omega)
    rw [Int.toNat_of_nonneg h1,h] at hw
    have hw:to=at_:=hw
    show x90S _ _ _ _ _ _=_
    rw [x90S,if_pos (by decide),chainP,List.append_nil,decide_eq_true hw.symm]
   ·show x90S _ _ _ _ _ _=_
    rw [x90S,if_pos (by decide),decide_eq_false (fun e=>h e.symm)]
 | n+1,m+1,at_,begun,h0,h1,h2,h3=>by
   have h6:=hB.f6;have hl:=hB.len
   have hfi:∀ p∈places b at_,0≤fin b p∧fin b p<b.1:=fun p hp=>fin_in hB hp
   have ih:∀ p∈places b at_,_:=fun p hp=>x90_both hB hD n m (fin b p) (begun++[p]) (by omega) (hfi p hp).1 (hfi p hp).2 (by simp;omega)
   refine ⟨fun h hq=>?_,fun h=>?_⟩
   ·have hgood:∀ p∈places b at_,nr b D at_ p=true→x90F m b (begun++[p]) (fin b p) to (n:Int)=some ((begun++[p])++chainP b D n (fin b p),true):=fun p hp hn=>by
     have hn:=of_decide_eq_true hn
     rw [h] at hn
     have hpl:=places_in hp
     refine (ih p hp).1 (by rw [hn];omega) fun q hqq=>?_
     rcases List.mem_append.1 hqq with e | e
     ·have:=hq q e;omega
     ·simp only [List.mem_singleton] at e;subst e
      rw [hpl.2.2.2.2,h,hn];omega
    have hbad:∀ p∈places b at_,nr b D at_ p=false→∃ x,x90F m b (begun++[p]) (fin b p) to (n:Int)=some (x,false):=fun p hp hn=>by
     have hn:=of_decide_eq_false hn
     refine (ih p hp).2 fun hw=>hn ?_
     have hle:=hD.least n _ hw
     have:=far_step hB hD hp hle.2.2.1
     rw [h] at this ⊢
     omega
    have hsome:∀ p∈places b at_,stands begun p.1=false→∃ v,x90F m b (begun++[p]) (fin b p) to (n:Int)=some v:=fun p hp _=>by
     cases hn:nr b D at_ p with
     | true=>exact ⟨_,hgood p hp hn⟩
     | false=>obtain ⟨x,hx⟩:=hbad p hp hn;exact ⟨_,hx⟩
    have hfree:∀ p∈places b at_,nr b D at_ p=true→stands begun p.1=false:=fun p hp hn=>by
     have hn:=of_decide_eq_true hn
     rw [h] at hn
     refine Bool.eq_false_iff.2 fun e=>?_
     obtain ⟨q,hq1,hq2⟩:=List.any_eq_true.1 e
     have hq2:=of_decide_eq_true hq2
     have hqq:=hq q hq1
     rcases ends_of (b:=b) hq2.symm with e2 | e2 <;> rw [e2] at hn <;> omega
    have hall:∀ p∈places b at_,(!stands begun p.1 && ((x90F m b (begun++[p]) (fin b p) to (n:Int)).getD ([],false)).2)=nr b D at_ p:=fun p hp=>by
     cases hn:nr b D at_ p with
     | true=>rw [hgood p hp hn,hfree p hp hn];rfl
     | false=>obtain ⟨x,hx⟩:=hbad p hp hn;rw [hx];simp
    have hfind:∀ l:Row,(∀ p∈l,p∈places b at_)→l.find? (fun p=>!stands begun p.1 && ((x90F m b (begun++[p]) (fin b p) to (n:Int)).getD ([],false)).2)=l.find? (nr b D at_):=fun l=>by
     induction l with
     | nil=>intro _;rfl
     | cons p l ihl =>
       intro hl
       rw [List.find?_cons,List.find?_cons,hall p (hl p (by simp)),ihl fun q hq=>hl q (by simp [hq])]
    show x90S (x90F m) b begun at_ to ((n+1:Nat):Int)=_
    rw [x90S_eq (by omega) (by omega) (by omega) hsome,hfind _ fun p hp=>hp,chainP]
    cases hq:(places b at_).find? (nr b D at_) with
    | none =>
      obtain ⟨p,p1,_,p2⟩:=near_ex hB hD ⟨h1,by omega⟩ h
      exact absurd (decide_eq_true (by rw [p2,h];omega)) (List.find?_eq_none.1 hq p p1)
    | some q =>
      dsimp only
      rw [hgood q (List.mem_of_find?_eq_some hq) (List.find?_some hq)]
      simp
   ·have hbad:∀ p∈places b at_,∃ x,x90F m b (begun++[p]) (fin b p) to (n:Int)=some (x,false):=fun p hp =>
     (ih p hp).2 fun hw=>h ⟨fin b p,hw,Ed.symm ⟨p,hp,by have:=places_in hp;omega,rfl⟩⟩
    refine ⟨[],?_⟩
    show x90S (x90F m) b begun at_ to ((n+1:Nat):Int)=_
    rw [x90S_eq (by omega) (by omega) (by omega) fun p hp _=>(hbad p hp).elim fun x hx=>⟨_,hx⟩]
    have:(places b at_).find? (fun p=>!stands begun p.1 && ((x90F m b (begun++[p]) (fin b p) to (n:Int)).getD ([],false)).2)=none:=List.find?_eq_none.2 fun p hp=>by
     obtain ⟨x,hx⟩:=hbad p hp
     rw [hx];simp
    rw [this]
theorem far_few {b:Bk} (hB:Book b) {wo to:Int} {D:List Int} (hD:FarD b wo to D):∀ (n:Nat) (f:Int),0≤f→f<b.1→ix D f=(n:Int)→∃ l:List Int,l.Nodup∧l.length=n+1∧∀ x∈l,0≤x∧x<b.1∧ix D x≤(n:Int)
 | 0,f,h1,h2,h=>⟨[f],by simp,rfl,fun x hx=>by simp only [List.mem_singleton] at hx;subst hx;exact ⟨h1,h2,by omega⟩⟩
 | n+1,f,h1,h2,h=>by
   have h6:=hB.f6
   obtain ⟨p,p1,_,p2⟩:=near_ex hB hD ⟨h1,by omega⟩ h
   have hf:=fin_in hB p1
   obtain ⟨l,l1,l2,l3⟩:=far_few hB hD n _ hf.1 hf.2 p2
   refine ⟨f::l,List.nodup_cons.2 ⟨fun hm=>?_,l1⟩,by simp [l2],fun x hx=>?_⟩
   ·have:=(l3 f hm).2.2;omega
   ·rcases List.mem_cons.1 hx with e | e
    ·subst e;exact ⟨h1,h2,by omega⟩
    ·have:=l3 x e;exact ⟨this.1,this.2.1,by omega⟩
theorem far_lt {b:Bk} (hB:Book b) {wo to f:Int} {D:List Int} (hD:FarD b wo to D) (h1:0≤f) (h2:f<b.1):ix D f<b.1:=by
 rcases Int.lt_or_le (ix D f) 0 with h | h
 ·omega
 ·obtain ⟨l,l1,l2,l3⟩:=far_few hB hD (ix D f).toNat f h1 h2 (by omega)
  have:=nodup_bound (n:=b.1.toNat) l1 fun x hx=>by have:=l3 x hx;omega
  omega
theorem x46_l1_eq {b:Bk} (hB:Book b) {f to:Int} {D:List Int} (hD:FarD b (-1) to D) (h1:0≤f) (h2:f<b.1) (hft:f≠to):∀ (m n:Nat) (z:Int),z=n→1≤n→(0≤ix D f→(n:Int)≤ix D f)→(n:Int)≤b.1→b.1.toNat-n<m →
  x46_l1 b f to (fun _=>some ([],(5:Int))) m z=some (chainA b D f)
 | 0,_,_,_,_,_,_,h=>absurd h (by omega)
 | m+1,n,_,rfl,hn1,hn2,hn,hm=>by
   have h6:=hB.f6
   rw [x46_l1]
   by_cases h:(n:Int)<b.1
   ·have hx:=x90_both hB hD n FU f [] (FU_lt (by omega)) h1 h2 (by simp;omega)
    rw [if_pos (decide_eq_true h),show x90 b [] f to (n:Int)=x90F FU b [] f to (n:Int) from rfl]
    by_cases hd:ix D f=(n:Int)
    ·rw [hx.1 hd (fun q hq=>absurd hq (by simp)),Option.bind_some]
     unfold chainA
     rw [if_pos rfl,if_neg (by omega),hd,Int.toNat_natCast];rfl
    ·obtain ⟨x,hx⟩:=hx.2 fun hw=>hd (by
      have:=hD.least n f hw
      have:=hn2 this.2.2.1
      omega)
     rw [hx,Option.bind_some,if_neg (by simp),w_succ n (by omega)]
     exact x46_l1_eq hB hD h1 h2 hft m (n+1) _ rfl (by omega) (fun h0=>by have:=hn2 h0;omega) (by omega) (by omega)
   ·rw [if_neg (by simpa using h)]
    have:=far_lt hB hD h1 h2
    unfold chainA
    rw [if_pos (by
     refine Classical.byContradiction fun h0=>?_
     have:=hn2 (by omega);omega)]
theorem x46_eq {b:Bk} (hB:Book b) {f t:Int} {D:List Int} (hD:FarD b (-1) t D) (h:argOk b f t):x46 b f t=some (chainA b D f):=by
 have hl:=hB.len;have h6:=hB.f6
 obtain ⟨a1,a2,a3,a4,a5⟩:=h
 have hz:=bkErr_zero.2 hB
 rw [x46,x21_eq b (by omega),Option.bind_some,if_neg (by simp [hz]),if_neg (by simp;omega),if_neg (by simp;omega),if_neg (by simp;omega),if_neg (by simp;omega),if_neg (by simp;omega)]
 have hd0:=(hD.least 0 t rfl).2.2.2
 refine x46_l1_eq hB hD a1 a2 a5 FU 1 1 rfl (by omega) (fun h0=>?_) (by omega) (FU_lt (by omega))
 refine Classical.byContradiction fun hh=>a5 ?_
 have hw:=hD.walk f.toNat (by omega) (by rw [Int.toNat_of_nonneg a1];omega)
 rw [Int.toNat_of_nonneg a1,show ix D f=0 by omega] at hw
 exact (show t=f from hw).symm
theorem x46_bad {b:Bk} (hb:b.2.length≤1000) (h:bkErr b≠0) (f t:Int):x46 b f t=some ([],bkErr b):=by
 rw [x46,x21_eq b hb,Option.bind_some,if_pos (decide_eq_true h),Option.bind_some]
theorem x46_arg {b:Bk} (hB:Book b) {f t:Int} (h:¬ argOk b f t):x46 b f t=some ([],2):=by
 have hl:=hB.len
 rw [x46,x21_eq b (by omega),Option.bind_some,if_neg (by simp [bkErr_zero.2 hB])]
 by_cases h1:f<0
 ·rw [if_pos (decide_eq_true h1)]
 rw [if_neg (by simpa using h1)]
 by_cases h2:b.1≤f
 ·rw [if_pos (decide_eq_true h2)]
 rw [if_neg (by simpa using h2)]
 by_cases h3:t<0
 ·rw [if_pos (decide_eq_true h3)]
 rw [if_neg (by simpa using h3)]
 by_cases h4:b.1≤t
 ·rw [if_pos (decide_eq_true h4)]
 rw [if_neg (by simpa using h4)]
 by_cases h5:f=t
 ·rw [if_pos (decide_eq_true h5)]
 ·exact absurd ⟨by omega,by omega,by omega,by omega,h5⟩ h
theorem chain_same (b:Bk) (hb:b.2.length≤1000) (f t:Int):∃ v:Row×Int,x45 b f t=some v∧x46 b f t=some v∧v.1.length≤1000:=by
 by_cases h:bkErr b≠0
 ·exact ⟨_,x45_bad hb h f t,x46_bad hb h f t,by simp⟩
 have hB:=bkErr_zero.1 (Decidable.not_not.1 h)
 by_cases ha:argOk b f t
 ·obtain ⟨D,hD,e⟩:=x45_eq hB ha
  refine ⟨_,e,x46_eq hB hD ha,?_⟩
  unfold chainA
  split
  ·simp
  ·have:∀ (n:Nat) (f:Int),(chainP b D n f).length≤n:=fun n=>by
    induction n with
    | zero=>intro f;simp [chainP]
    | succ n ih =>
      intro f;rw [chainP];split
      ·simp;exact ih _
      ·simp
   have h2:=this (ix D f).toNat f
   have:=far_lt hB hD ha.1 ha.2.1
   have h6:=hB.f6
   simp only;omega
 ·exact ⟨_,x45_arg hB ha,x46_arg hB ha,by simp⟩
theorem x43_l1_eq {a:Row} (ha:a.length≤1000):∀ (m i:Nat) (z:Int),z=i→i≤a.length→a.length-i<m→x43_l1 a a (fun _=>some true) m z=some true
 | 0,i,_,_,_,h=>absurd h (by omega)
 | m+1,i,_,rfl,hi,hm=>by
   rw [x43_l1]
   by_cases h:i<a.length
   ·rw [iflt h,gdi h,gdi h,if_pos (decide_eq_true rfl),w_succ i (by omega)]
    exact x43_l1_eq ha m (i+1) _ rfl (by omega) (by omega)
   ·rw [ifge h]
theorem x43_refl {a:Row} (ha:a.length≤1000):x43 a a=some true:=by
 rw [x43,if_neg (by simp),x43_l1_eq ha FU 0 0 rfl (Nat.zero_le _) (FU_lt (by omega))]
theorem x6_eq (b:Bk) (f t:Int):x6 b f t=some true:=by
 rw [x6,x16,Option.bind_some]
 by_cases h:(14:Int)<(b.2.length:Int)
 ·rw [if_pos (decide_eq_true h)];rfl
 obtain ⟨v,e1,e2,e3⟩:=chain_same b (by omega) f t
 rw [if_neg (by simpa using h),e1,Option.bind_some,e2,Option.bind_some,x43_refl e3,Option.bind_some,if_pos rfl,if_pos (decide_eq_true rfl)]
 rfl
theorem matchChains_ok {b:Bk} {f t:Int}:PO 6 [.agg [I b.1,.lst (b.2.flatMap pr) b.2.length .shared],I f,I t] (B true):=x6_ok (x6_eq b f t)
end Go.Proofs.YtfakoboiahbhaaaGreat.Ab
