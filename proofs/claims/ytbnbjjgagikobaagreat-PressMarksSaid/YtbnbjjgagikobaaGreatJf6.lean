
import Derived.Test.YtbnbjjgagikobaaGreatJf5
import Derived.KernelRfl
import Derived.Test.YtbnbjjgagikobaaGreatJf4
set_option linter.unusedSimpArgs false
set_option linter.unusedVariables false
set_option linter.unusedSectionVars false

namespace Go.Proofs.YtbnbjjgagikobaaGreat.Ab
open Go
set_option maxRecDepth 20000
set_option maxHeartbeats 4000000
noncomputable def xrc40:RC :=
 .seq (.reg false [I_ 2 [.tk 0] .box,I_ 4 [.cv (.int .i64 0)] .mv,I_ 5 [.cv (.int .i64 0)] .mv]) (.seq (.reg false [I_ 10 [.tv 2] (.ld (.str 4)),I_ 11 [.tk 1] .mv,I_ 12 [.cv (.func 69 [] []),.sl 10,.sl 11] (.call 3),I_ 9
 [.tk 12] .mv,I_ 13 [.sl 9] (.ext 0),I_ 14 [.tv 9] (.ext 1),I_ 6 [.tk 13] .mv,I_ 7 [.tk 14] .mv]) (.seq (.seq (.reg false [I_ 15 [.sl 7] .mv,I_ 16 [.tv 15,.cv (.int .i64 0)] (.bin .neq)]) (.cond (.sl 16) (.seq (.reg false
 [I_ 17 [.tk 7] .mv,I_ 4 [.cv (.int .i64 0)] .mv,I_ 5 [.tk 17] .mv]) .ret) .skip)) (.seq (.reg false [I_ 18 [.sl 6] .mv,I_ 19 [.tv 18] .nilc,I_ 20 [.tv 19] (.fa 5),I_ 21 [.tv 20] (.ld .one),I_ 22 [.tk 21] .lenS,I_ 8 [.tk
 22] .mv]) (.seq (.reg false [I_ 23 [.sl 6] .mv,I_ 24 [.sl 8] .mv,I_ 25 [.cv (.func 70 [] []),.sl 23,.sl 24] (.call 3),I_ 26 [.tk 6] .mv,I_ 27 [.tk 8] .mv,I_ 28 [.tv 27,.cv (.int .i64 1)] (.bin .add),I_ 29 [.cv (.func
 70 [] []),.sl 26,.sl 28] (.call 3),I_ 30 [.tv 25,.tv 29] (.bin .sub),I_ 4 [.tk 30] .mv,I_ 5 [.cv (.int .i64 0)] .mv]) .ret))))
theorem lxx40:linkF Tryz.prog ann40 40=some (xrc40,31,[.tmp 4,.tmp 5]):=by kernel_rfl
def x40 (b:(Int×(List Int)×Int×Int)) (panels:(List (Int×Int))):Option (Int×Int) :=
 (x69 b panels).bind fun r1 =>
 match r1 with
 | (none,q1) =>
   if (decide (q1≠(0:Int)))=true then
    some ((0:Int),q1)
   else
    none
 | (some p1,q1) =>
   if (decide (q1≠(0:Int)))=true then
    some ((0:Int),q1)
   else
    (x70 p1 (p1.2.2.1.length:Int)).bind fun r2 =>
    (x70 p1 (w ((p1.2.2.1.length:Int)+(1:Int)))).bind fun r3 =>
    some ((w (r2-r3)),(0:Int))
theorem x40_ok {b:(Int×(List Int)×Int×Int)} {panels:(List (Int×Int))} {v:(Int×Int)} (h:x40 b panels=some v):PO 40 [(.agg [(I b.1),(.lst (b.2.1.map I) b.2.1.length .shared),(I b.2.2.1),(I b.2.2.2)]),(.lst (panels.flatMap pr) panels.length .shared)] (.tuple [(I v.1),(I v.2)]):=by
 refine fn_pureW hmix lxx40 rfl (pu_tup (allc rfl (allc rfl rfl))) fun Q hQ=>?_
 have hR:∀ T H,RetW [.tmp 4,.tmp 5] (.tuple [(I v.1),(I v.2)]) .ret T H→Q .ret T H:=fun T H hh=>hQ _ T H hh
 unfold x40 at h
 unfold xrc40
 skip
 conv=>whnf
 obtain ⟨r1,hb1,h⟩:=bd_some h
 rcases r1 with ⟨_ | p1,q1⟩
 ·refine ⟨(allc (pu_agg (allc rfl (allc (pu_map (fun _=>rfl) _ _ _) (allc rfl (allc rfl rfl))))) (allc (pu_flat (fun _=>(allc rfl (allc rfl rfl))) _ _ _) rfl)),_,x69_ok hb1,?_⟩
  conv=>whnf
  rcases bt (decide (q1≠(0:Int))) with hb2 | hb2
  ·rw [hb2]
   conv=>whnf
   replace h:=it_t hb2 h
   obtain rfl:=Option.some.inj h
   exact hR _ _ ⟨.inr rfl,_,rfl,_,frz_pure (pu_tup (allc rfl (allc rfl rfl))),rfl⟩
  ·rw [hb2]
   conv=>whnf
   replace h:=it_f hb2 h
   exact none_ne h
 ·refine ⟨(allc (pu_agg (allc rfl (allc (pu_map (fun _=>rfl) _ _ _) (allc rfl (allc rfl rfl))))) (allc (pu_flat (fun _=>(allc rfl (allc rfl rfl))) _ _ _) rfl)),_,x69_ok hb1,?_⟩
  conv=>whnf
  rcases bt (decide (q1≠(0:Int))) with hb3 | hb3
  ·rw [hb3]
   conv=>whnf
   replace h:=it_t hb3 h
   obtain rfl:=Option.some.inj h
   exact hR _ _ ⟨.inr rfl,_,rfl,_,frz_pure (pu_tup (allc rfl (allc rfl rfl))),rfl⟩
  ·rw [hb3]
   conv=>whnf
   replace h:=it_f hb3 h
   obtain ⟨r2,hb4,h⟩:=bd_some h
   refine ⟨(allc (pu_lptr (allc rfl (allc (pu_map (fun _=>rfl) _ _ _) (allc rfl (allc rfl (allc (pu_flat (fun _=>(allc rfl (allc rfl rfl))) _ _ _) (allc (pu_map (fun _=>rfl) _ _ _) (pu_run (fun _=>rfl) _)))))))) (allc rfl rfl)),_,x70_ok hb4,?_⟩
   conv=>whnf
   obtain ⟨r3,hb5,h⟩:=bd_some h
   refine ⟨(allc (pu_lptr (allc rfl (allc (pu_map (fun _=>rfl) _ _ _) (allc rfl (allc rfl (allc (pu_flat (fun _=>(allc rfl (allc rfl rfl))) _ _ _) (allc (pu_map (fun _=>rfl) _ _ _) (pu_run (fun _=>rfl) _)))))))) (allc rfl rfl)),_,x70_ok hb5,?_⟩
   conv=>whnf
   obtain rfl:=Option.some.inj h
   exact hR _ _ ⟨.inr rfl,_,rfl,_,frz_pure (pu_tup (allc rfl (allc rfl rfl))),rfl⟩

end Go.Proofs.YtbnbjjgagikobaaGreat.Ab


namespace Go.Proofs.YtbnbjjgagikobaaGreat.Ab
open Go
set_option maxRecDepth 20000
set_option maxHeartbeats 4000000

theorem swo_down:Sort.SWO (fun x y:Int=>decide (y<x)):=by
 constructor <;> intros <;> simp_all <;> omega
theorem down_perm (l:List Int):(down l).Perm l:=by
 obtain ⟨⟨h1,_,h3⟩,_⟩:=Sort.insertionSort_holds (lt:=fun x y:Int=>decide (y<x)) swo_down l.toArray 0 l.length (Nat.zero_le _) (by simp)
 unfold down
 generalize Sort.insertionSort (fun x y:Int=>decide (y<x)) l.toArray 0 l.length=d at h1 h3
 have e1:(d.extract 0 l.length).toList=d.toList:=by
  have:l.length=d.size:=by rw [h1];simp
  rw [this];simp
 have e2:(l.toArray.extract 0 l.length).toList=l:=by simp
 rwa [e1,e2] at h3
def dn (l:List Int) (i:Nat):Int:=(down l).getD i 0
theorem dn_get {l:List Int} {i:Nat} (h:i<l.length):dn l i=(down l)[i]'(by rw [down_len];exact h):=by
 unfold dn;rw [List.getD_eq_getElem?_getD,List.getElem?_eq_getElem (by rw [down_len];exact h)];rfl
theorem dn_out {l:List Int} {i:Nat} (h:l.length≤i):dn l i=0:=by
 unfold dn;rw [List.getD_eq_getElem?_getD,List.getElem?_eq_none (by rw [down_len];exact h)];rfl
theorem dn_mono {l:List Int} (h0:∀ x∈l,0≤x) {i j:Nat} (hij:i≤j):dn l j≤dn l i∧0≤dn l j:=by
 have hin:∀ k,0≤dn l k:=fun k=>by
  by_cases h:k<l.length
  ·rw [dn_get h];exact h0 _ ((down_perm l).mem_iff.1 (List.getElem_mem _))
  ·rw [dn_out (by omega)];exact Int.le_refl _
 refine ⟨?_,hin j⟩
 by_cases hj:j<l.length
 ·by_cases e:i=j
  ·subst e;exact Int.le_refl _
  ·obtain ⟨⟨h1,_,_⟩,h4⟩:=Sort.insertionSort_holds (lt:=fun x y:Int=>decide (y<x)) swo_down l.toArray 0 l.length (Nat.zero_le _) (by simp)
   have h5:=h4 i j (Nat.zero_le _) (by omega) hj
   have hs:(Sort.insertionSort (fun x y:Int=>decide (y<x)) l.toArray 0 l.length).size=l.length:=by rw [ins_size];simp
   rw [getElem!_pos _ i (by omega),getElem!_pos _ j (by omega)] at h5
   rw [dn_get hj,dn_get (by omega:i<l.length)]
   unfold down
   simp only [Array.getElem_toList]
   simpa using h5
 ·rw [dn_out (by omega)];exact hin i
theorem head_dn {n:Nat} (hn:0<n) (l:List Int) (j:Nat):((l.drop (j*n)).take n).headD 0=l.getD (j*n) 0:=by
 obtain ⟨k,rfl⟩:∃ k,n=k+1:=⟨n-1,by omega⟩
 rw [List.getD_eq_getElem?_getD]
 have:l[j*(k+1)]?=(l.drop (j*(k+1)))[0]?:=by rw [List.getElem?_drop];rfl
 rw [this]
 cases l.drop (j*(k+1)) with
 | nil=>rfl
 | cons a r=>rfl
theorem hH_dn {n:Nat} (hn:0<n) (l:List Int):hH n l=((List.range ((l.length+n-1) / n)).map fun j=>dn l (j*n)).sum:=by
 unfold hH heads chunks
 rw [List.map_map,down_len]
 congr 1
 apply List.map_congr_left
 intro j _
 exact head_dn hn _ j
theorem perm_sum {a b:List Int} (h:a.Perm b):a.sum=b.sum:=by
 induction h with
 | nil=>rfl
 | cons x _ ih=>rw [List.sum_cons,List.sum_cons,ih]
 | swap x y l=>simp only [List.sum_cons];omega
 | trans _ _ h1 h2=>exact h1.trans h2
theorem hH_one (l:List Int):hH 1 l=l.sum:=by
 rw [hH_dn (by omega),←perm_sum (down_perm l)]
 congr 1
 rw [show (l.length+1-1) / 1=(down l).length by rw [down_len];simp]
 apply List.ext_getElem
 ·simp
 ·intro i h1 h2
  rw [List.getElem_map,List.getElem_range,Nat.mul_one,dn_get (by simpa [down_len] using h2)]
theorem hH_many {n:Nat} {l:List Int} (hn:0<n) (h:l.length≤n):hH n l=dn l 0:=by
 rw [hH_dn hn]
 cases l with
 | nil=>rw [dn_out (Nat.zero_le _)];simp;rw [Nat.div_eq_of_lt (by omega)];rfl
 | cons a l =>
   have:((a::l).length+n-1) / n=1:=by
    simp only [List.length_cons] at h ⊢
    rw [Nat.div_eq_iff hn];omega
   rw [this];simp

def tot (ps:List (Int×Int)):Int:=(ps.map (·.2)).sum
theorem sum_hrs (ps:List (Int×Int)) (h:∀ p∈ps,0≤p.1):∀ i,((List.range i).map fun (h:Nat)=>(hrs ps (h:Int)).sum).sum=tot (ps.filter fun p=>decide (p.1<(i:Int)))
 | 0=>by
   rw [List.filter_eq_nil_iff.2 fun p hp=>by have:=h p hp;simp;omega];rfl
 | i+1=>by
   rw [List.range_succ,List.map_append,List.sum_append,sum_hrs ps h i]
   simp only [List.map_cons,List.map_nil,List.sum_cons,List.sum_nil,Int.add_zero]
   unfold hrs tot
   clear h
   induction ps with
   | nil=>rfl
   | cons p ps ih =>
     rw [List.filter_cons,List.filter_cons,List.filter_cons]
     by_cases h1:p.1<(i:Int)
     ·rw [if_pos (decide_eq_true h1),if_neg (by simp;omega),if_pos (by simp;omega)];simp only [List.map_cons,List.sum_cons];omega
     ·by_cases h2:p.1=(i:Int)
      ·rw [if_neg (by simp;omega),if_pos (decide_eq_true h2),if_pos (by simp;omega)];simp only [List.map_cons,List.sum_cons];omega
      ·rw [if_neg (by simp;omega),if_neg (by simp;omega),if_neg (by simp;omega)];exact ih
theorem hSum_single {ps:List (Int×Int)} (hp:PsOk ps):hSum 1 ps 21=tot ps:=by
 unfold hSum
 have:=sum_hrs ps (fun p h=>(hp.heat p h).1) 21
 rw [List.filter_eq_self.2 fun p h=>by have:=hp.heat p h;simp;omega] at this
 rw [←this]
 congr 1
 exact List.map_congr_left fun h _=>hH_one _
theorem x40_eq {b:Bed} (hb:bErr b=0) (hl:b.2.1.length≤20) {ps:List (Int×Int)} (hp:PsOk ps):x40 b ps=some (hSum (wn b) ps 21-hSum (wn b+1) ps 21,0):=by
 have hw:=wn_pos (bedOk hb)
 have h1:=hSum_in (n:=wn b) (by omega) hp 21
 have h2:=hSum_in (n:=wn b+1) (by omega) hp 21
 rw [x40,x69_eq hb hl hp,Option.bind_some]
 show (if (decide ((0:Int)≠(0:Int)))=true then _ else _)=_
 rw [if_neg (by decide)]
 have e1:=x70_eq (x:=(b,ps,wholeL b.1.toNat b.2.1,wantL ps)) (N:=wn b) ⟨by omega,by omega⟩ hp
 have e2:=x70_eq (x:=(b,ps,wholeL b.1.toNat b.2.1,wantL ps)) (N:=wn b+1) ⟨by omega,by omega⟩ hp
 show (x70 (b,ps,wholeL b.1.toNat b.2.1,wantL ps) (wn b:Int)).bind (fun r2=>(x70 (b,ps,wholeL b.1.toNat b.2.1,wantL ps) (w ((wn b:Int)+1))).bind fun r3=>some (w (r2-r3),(0:Int)))=_
 rw [w_succ (wn b) (by omega),e1,e2,Option.bind_some,Option.bind_some]
 show some (w (hSum (wn b) ps 21-hSum (wn b+1) ps 21),(0:Int))=_
 rw [w_id (by omega)]

end Go.Proofs.YtbnbjjgagikobaaGreat.Ab


namespace Go.Proofs.YtbnbjjgagikobaaGreat.Ab
open Go
end Go.Proofs.YtbnbjjgagikobaaGreat.Ab


namespace Go.Proofs.YtbnbjjgagikobaaGreat.Ab
open Go
set_option maxRecDepth 20000
set_option maxHeartbeats 4000000

def sumR (n:Nat) (f:Nat→Int):Int:=((List.range n).map f).sum
theorem sumR_zero (f:Nat→Int):sumR 0 f=0:=rfl
theorem sumR_succ (n:Nat) (f:Nat→Int):sumR (n+1) f=sumR n f+f n:=by
 unfold sumR;rw [List.range_succ,List.map_append,List.sum_append];simp
theorem sumR_congr {f g:Nat→Int}:∀ {n:Nat},(∀ i,i<n→f i=g i)→sumR n f=sumR n g
 | 0,_=>rfl
 | n+1,h=>by rw [sumR_succ,sumR_succ,sumR_congr fun i hi=>h i (by omega),h n (by omega)]
theorem sumR_le {f g:Nat→Int}:∀ {n:Nat},(∀ i,i<n→f i≤g i)→sumR n f≤sumR n g
 | 0,_=>Int.le_refl _
 | n+1,h=>by
   rw [sumR_succ,sumR_succ]
   have:=sumR_le (n:=n) fun i hi=>h i (by omega)
   have:=h n (by omega)
   omega
theorem sumR_add (f g:Nat→Int):∀ n,sumR n (fun i=>f i+g i)=sumR n f+sumR n g
 | 0=>rfl
 | n+1=>by rw [sumR_succ,sumR_succ,sumR_succ,sumR_add f g n];omega
theorem sumR_const0:∀ n,sumR n (fun _=>0)=0
 | 0=>rfl
 | n+1=>by rw [sumR_succ,sumR_const0 n];rfl
theorem sumR_swap (f:Nat→Nat→Int) (m:Nat):∀ n,sumR n (fun i=>sumR m (f i))=sumR m (fun j=>sumR n fun i=>f i j)
 | 0=>(sumR_const0 m).symm
 | n+1=>by
   rw [sumR_succ,sumR_swap f m n,←sumR_add]
   exact sumR_congr fun j _=>by rw [sumR_succ]
theorem sumR_lt (c:Nat):∀ n,c≤n→sumR n (fun i=>if i<c then 1 else 0)=c
 | 0,h=>by obtain rfl:c=0:=by omega
           rfl
 | n+1,h=>by
   rw [sumR_succ]
   by_cases hc:c=n+1
   ·subst hc
    have:sumR n (fun i=>if i<n+1 then (1:Int) else 0)=sumR n (fun i=>if i<n then 1 else 0):=sumR_congr fun i hi=>by rw [if_pos (by omega),if_pos hi]
    rw [this,sumR_lt n n (Nat.le_refl _),if_pos (by omega)];omega
   ·rw [sumR_lt c n (by omega),if_neg (by omega)];omega
theorem ones {x:Int} (h:0≤x∧x≤24):sumR 24 (fun t=>if (t:Int)+1≤x then 1 else 0)=x:=by
 have:=sumR_lt x.toNat 24 (by omega)
 rw [show ((x.toNat:Nat):Int)=x by omega] at this
 rw [←this]
 exact sumR_congr fun t _=>by
  by_cases h1:t<x.toNat
  ·rw [if_pos h1,if_pos (by omega)]
  ·rw [if_neg h1,if_neg (by omega)]
theorem sorted_ge (t:Int):∀ (s:List Int),s.Pairwise (fun a b=>b≤a)→∀ (i:Nat) (hi:i<s.length),t≤s[i]↔i<s.countP (fun x=>decide (t≤x))
 | [],_,i,hi=>absurd hi (by simp)
 | a::r,hp,i,hi=>by
   obtain ⟨h1,h2⟩:=List.pairwise_cons.1 hp
   by_cases ha:t≤a
   ·rw [List.countP_cons_of_pos (by simpa using ha)]
    cases i with
    | zero=>simp [ha]
    | succ i =>
      have:=sorted_ge t r h2 i (by simpa using hi)
      rw [List.getElem_cons_succ,this];omega
   ·rw [List.countP_cons_of_neg (by simpa using ha)]
    have h0:r.countP (fun x=>decide (t≤x))=0:=by
     rw [List.countP_eq_zero];intro x hx;have:=h1 x hx;simp;omega
    rw [h0]
    cases i with
    | zero=>simp [ha]
    | succ i =>
      have:=h1 _ (List.getElem_mem (l:=r) (n:=i) (by simpa using hi))
      rw [List.getElem_cons_succ];omega
theorem down_sorted {l:List Int} (h0:∀ x∈l,0≤x):(down l).Pairwise (fun a b=>b≤a):=by
 rw [List.pairwise_iff_getElem]
 intro i j hi hj hij
 have:=(dn_mono h0 (Nat.le_of_lt hij)).1
 rw [dn_get (i:=i) (by rw [down_len] at hi;exact hi),dn_get (i:=j) (by rw [down_len] at hj;exact hj)] at this
 exact this
theorem dn_ge {l:List Int} (h0:∀ x∈l,0≤x) {t:Int} (ht:1≤t) (i:Nat):t≤dn l i↔i<l.countP (fun x=>decide (t≤x)):=by
 rw [←(down_perm l).countP_eq]
 by_cases hi:i<l.length
 ·rw [dn_get hi]
  exact sorted_ge t (down l) (down_sorted h0) i (by rw [down_len];exact hi)
 ·rw [dn_out (by omega)]
  have:=List.countP_le_length (l:=down l) (p:=fun x=>decide (t≤x))
  rw [down_len] at this
  omega
def ceil (n c:Nat):Nat:=(c+n-1) / n
theorem hH_cnt {n:Nat} (hn:0<n) {l:List Int} (h:∀ x∈l,0≤x∧x≤24):hH n l=sumR 24 (fun t=>(ceil n (l.countP fun x=>decide ((t:Int)+1≤x)):Int)):=by
 have h0:∀ x∈l,0≤x:=fun x hx=>(h x hx).1
 have hd:∀ i,0≤dn l i∧dn l i≤24:=fun i=>by
  by_cases hi:i<l.length
  ·rw [dn_get hi];exact h _ ((down_perm l).mem_iff.1 (List.getElem_mem _))
  ·rw [dn_out (by omega)];omega
 rw [hH_dn hn]
 show sumR (ceil n l.length) (fun j=>dn l (j*n))=_
 have e1:sumR (ceil n l.length) (fun j=>dn l (j*n))=sumR (ceil n l.length) (fun j=>sumR 24 fun t=>if (t:Int)+1≤dn l (j*n) then 1 else 0):=sumR_congr fun j _=>(ones (hd _)).symm
 rw [e1,sumR_swap]
 refine sumR_congr fun t _=>?_
 have hc:l.countP (fun x=>decide ((t:Int)+1≤x))≤l.length:=List.countP_le_length
 have e2:sumR (ceil n l.length) (fun j=>if (t:Int)+1≤dn l (j*n) then (1:Int) else 0)=sumR (ceil n l.length) (fun j=>if j<ceil n (l.countP fun x=>decide ((t:Int)+1≤x)) then 1 else 0):=sumR_congr fun j _=>by
  have h1:=dn_ge h0 (t:=(t:Int)+1) (by omega) (j*n)
  have h2:=chunks_lt (k:=l.countP fun x=>decide ((t:Int)+1≤x)) hn (j:=j)
  unfold ceil
  by_cases hh:(t:Int)+1≤dn l (j*n)
  ·rw [if_pos hh,if_pos (h2.2 (h1.1 hh))]
  ·rw [if_neg hh,if_neg fun hx=>hh (h1.2 (h2.1 hx))]
 rw [e2]
 refine sumR_lt _ _ ?_
 unfold ceil
 exact Nat.div_le_div_right (by omega)
def cP (ps:List (Int×Int)) (h t:Int):Nat:=ps.countP fun p=>decide (p.1=h) && decide (t≤p.2)
theorem hrs_cnt (ps:List (Int×Int)) (h t:Int):(hrs ps h).countP (fun x=>decide (t≤x))=cP ps h t:=by
 unfold hrs cP
 rw [List.countP_map,List.countP_filter]
 exact List.countP_congr fun p _=>by simp [and_comm]
theorem hSum_cnt {n:Nat} (hn:0<n) {ps:List (Int×Int)} (hp:hrsOk ps) (i:Nat):hSum n ps i=sumR i (fun h=>sumR 24 fun t=>(ceil n (cP ps h ((t:Int)+1)):Int)):=by
 show sumR i (fun h=>hH n (hrs ps (h:Int)))=_
 exact sumR_congr fun h _=>by
  rw [hH_cnt hn (hrs_in hp _)]
  exact sumR_congr fun t _=>by rw [hrs_cnt]
theorem ceil_mono (n:Nat) {a b:Nat} (h:a≤b):ceil n a≤ceil n b:=Nat.div_le_div_right (by omega)
theorem cP_snoc (ps:List (Int×Int)) (p:Int×Int) (h t:Int):cP (ps++[p]) h t=cP ps h t+if p.1=h∧t≤p.2 then 1 else 0:=by
 unfold cP
 rw [List.countP_append,List.countP_cons]
 by_cases h1:p.1=h∧t≤p.2
 ·rw [if_pos h1];simp [h1.1,h1.2]
 ·rw [if_neg h1,if_neg (by simpa using h1)];rfl

end Go.Proofs.YtbnbjjgagikobaaGreat.Ab


namespace Go.Proofs.YtbnbjjgagikobaaGreat.Ab
open Go
set_option maxRecDepth 20000
set_option maxHeartbeats 4000000
noncomputable def xrc71_1:RC :=
 .loop (some [i_,i_,o_,o_,o_,i_,i_,i_,i_,i_,o_,o_,o_,o_,o_,o_,o_,o_,o_,o_,o_,o_,o_,o_,o_,o_,o_,o_,o_,o_,o_,o_,o_,o_,o_,o_,o_,o_,o_,o_,o_,o_,o_,o_,o_,o_,o_,o_,o_,o_,o_]) (.seq (.seq (.reg false [I_ 18 [.sl 9] .mv,I_ 19 [.sl 0] .mv,I_ 20 [.tk 19] .lenS,I_ 21
 [.tv 18,.tv 20] (.bin .lss)]) (.cond (.sl 21) .skip (.exit 4))) (.seq (.block 5 (.seq (.reg false [I_ 24 [.sl 0] .mv,I_ 25 [.sl 9] .mv,I_ 26 [.tv 24,.tv 25] (.ia 2),I_ 27 [.tv 26] (.fa 0),I_ 28 [.tv 27] (.ld .one),I_ 29
 [.sl 6] .mv,I_ 30 [.tv 28,.tv 29] (.bin .eql),I_ 31 [.tk 30] .mv,⟨some 32,[.sl 0],some (31,true),none,.mv⟩,⟨some 33,[.sl 9],some (31,true),none,.mv⟩,⟨some 34,[.tv 32,.tv 33],some (31,true),none,.ia 2⟩,
 ⟨some 35,[.tv 34],some (31,true),none,.fa 1⟩,⟨some 36,[.tv 35],some (31,true),none,.ld .one⟩,⟨some 37,[.sl 7],some (31,true),none,.mv⟩,⟨some 38,[.tv 36,.tv 37],some (31,true),none,.bin .geq⟩,I_ 39 [.tv
 31,.tv 38,.cv (.bool false)] .pick]) (.cond (.sl 39) (.reg false [I_ 40 [.tk 8] .mv,I_ 41 [.tv 40,.cv (.int .i64 1)] (.bin .add),I_ 8 [.tk 41] .mv]) .skip))) (.reg false [I_ 22 [.tk 9] .mv,I_ 23 [.tv 22,.cv (.int .i64
 1)] (.bin .add),I_ 9 [.tk 23] .mv])))
noncomputable def xrc71_2:RC :=
 .loop (some [i_,i_,o_,o_,o_,i_,i_,i_,o_,o_,o_,o_,o_,o_,o_,o_,o_,o_,o_,o_,o_,o_,o_,o_,o_,o_,o_,o_,o_,o_,o_,o_,o_,o_,o_,o_,o_,o_,o_,o_,o_,o_,o_,o_,o_,o_,o_,o_,o_,o_,o_]) (.seq (.seq (.reg false [I_ 14 [.sl 7] .mv,I_ 15 [.tv 14,.cv (.int .i64 24)] (.bin
 .leq)]) (.cond (.sl 15) .skip (.exit 2))) (.seq (.block 3 (.seq (.reg false [I_ 8 [.cv (.int .i64 0)] .mv]) (.seq (.seq (.reg false [I_ 9 [.cv (.int .i64 0)] .mv]) (.block 4 xrc71_1)) (.reg false [I_ 42 [.tk 5] .mv,I_ 43 [.tk
 8] .mv,I_ 44 [.sl 1] .mv,I_ 45 [.tv 43,.tv 44] (.bin .add),I_ 46 [.tv 45,.cv (.int .i64 1)] (.bin .sub),I_ 47 [.sl 1] .mv,I_ 48 [.tv 46,.tv 47] (.bin .quo),I_ 49 [.tv 42,.tv 48] (.bin .add),I_ 5 [.tk 49] .mv]))))
 (.reg false [I_ 16 [.tk 7] .mv,I_ 17 [.tv 16,.cv (.int .i64 1)] (.bin .add),I_ 7 [.tk 17] .mv])))
noncomputable def xrc71_3:RC :=
 .loop (some [i_,i_,o_,o_,o_,i_,i_,o_,o_,o_,o_,o_,o_,o_,o_,o_,o_,o_,o_,o_,o_,o_,o_,o_,o_,o_,o_,o_,o_,o_,o_,o_,o_,o_,o_,o_,o_,o_,o_,o_,o_,o_,o_,o_,o_,o_,o_,o_,o_,o_,o_]) (.seq (.seq (.reg false [I_ 10 [.sl 6] .mv,I_ 11 [.tv 10,.cv (.int .i64 20)] (.bin
 .leq)]) (.cond (.sl 11) .skip (.exit 0))) (.seq (.block 1 (.seq (.reg false [I_ 7 [.cv (.int .i64 1)] .mv]) (.block 2 xrc71_2))) (.reg false [I_ 12 [.tk 6] .mv,I_ 13 [.tv 12,.cv (.int .i64 1)] (.bin .add),I_ 6 [.tk 13]
 .mv])))
noncomputable def xrc71:RC :=
 .seq (.reg false [I_ 4 [.cv (.int .i64 0)] .mv]) (.seq (.reg false [I_ 5 [.cv (.int .i64 0)] .mv]) (.seq (.seq (.reg false [I_ 6 [.cv (.int .i64 0)] .mv]) (.block 0 xrc71_3)) (.seq (.reg false [I_ 50 [.tk 5] .mv,I_ 4 [.tk 50]
 .mv]) .ret)))
theorem lxx71:linkF Tryz.prog ann71 71=some (xrc71,51,[.tmp 4]):=by kernel_rfl
def x71_l3 (panels:(List (Int×Int))) (s2:Int) (s4:Int) (kl3_0:Int→Option Int):Nat→Int→Int→Option Int
 | 0,_,_=>none
 | m+1,s5,s6 =>
   if (decide (s6<(panels.length:Int)))=true then
    gd (0≤s6∧s6<(panels.length:Int)) <|
    if (decide ((ix panels s6).1=s2))=true then
     gd (0≤s6∧s6<(panels.length:Int)) <|
     if (decide (s4≤(ix panels s6).2))=true then
      x71_l3 panels s2 s4 kl3_0 m (w (s5+(1:Int))) (w (s6+(1:Int)))
     else
      x71_l3 panels s2 s4 kl3_0 m s5 (w (s6+(1:Int)))
    else
     x71_l3 panels s2 s4 kl3_0 m s5 (w (s6+(1:Int)))
   else
    kl3_0 s5
def x71_l2 (panels:(List (Int×Int))) (whole:Int) (s2:Int) (kl2_0:Int→Option Int):Nat→Int→Int→Option Int
 | 0,_,_=>none
 | m+1,s3,s4 =>
   if (decide (s4≤(24:Int)))=true then
    x71_l3 panels s2 s4 (fun z1 =>
      gd (whole≠0) <|
      x71_l2 panels whole s2 kl2_0 m (w (s3+(w ((w ((w (z1+whole))-(1:Int))).tdiv whole)))) (w (s4+(1:Int)))) FU (0:Int) (0:Int)
   else
    kl2_0 s3
def x71_l1 (panels:(List (Int×Int))) (whole:Int) (kl1_0:Int→Option Int):Nat→Int→Int→Option Int
 | 0,_,_=>none
 | m+1,s1,s2 =>
   if (decide (s2≤(20:Int)))=true then
    x71_l2 panels whole s2 (fun z2 =>
      x71_l1 panels whole kl1_0 m z2 (w (s2+(1:Int)))) FU s1 (1:Int)
   else
    kl1_0 s1
def x71 (panels:(List (Int×Int))) (whole:Int):Option Int :=
 x71_l1 panels whole (fun z3 =>
   some z3) FU (0:Int) (0:Int)
theorem x71_l3_ok {panels:(List (Int×Int))} {s2:Int} {s4:Int} {kl3_0:Int→Option Int} {s5:Int} {s6:Int} {whole:Int} {s3:Int} {v:Int} {Q:Ex→List AV→List AObj→Prop}   (hkl3_0:∀ (z1:Int) (u4:AV) (u9:AV) (u10:AV) (u11:AV) (u12:AV) (u13:AV) (u14:AV) (u15:AV) (u16:AV) (u17:AV) (u18:AV) (u19:AV) (u20:AV) (u21:AV) (u22:AV) (u23:AV) (u24:AV) (u25:AV) (u26:AV) (u27:AV) (u28:AV) (u29:AV) (u30:AV) (u31:AV) (u32:AV) (u33:AV) (u34:AV) (u35:AV) (u36:AV) (u37:AV) (u38:AV) (u39:AV) (u40:AV) (u41:AV) (u42:AV) (u43:AV) (u44:AV) (u45:AV) (u46:AV) (u47:AV) (u48:AV) (u49:AV) (u50:AV),kl3_0 z1=some v→Q (.exit 4) [(.lst (panels.flatMap pr) panels.length .shared),(I whole),J,J,u4,(I s3),(I s2),(I s4),(I z1),u9,u10,u11,u12,u13,u14,u15,u16,u17,u18,u19,u20,u21,u22,u23,u24,u25,u26,u27,u28,u29,u30,u31,u32,u33,u34,u35,u36,u37,u38,u39,u40,u41,u42,u43,u44,u45,u46,u47,u48,u49,u50] []) {T:List AV} (hT:zipKeep [i_,i_,o_,o_,o_,i_,i_,i_,i_,i_,o_,o_,o_,o_,o_,o_,o_,o_,o_,o_,o_,o_,o_,o_,o_,o_,o_,o_,o_,o_,o_,o_,o_,o_,o_,o_,o_,o_,o_,o_,o_,o_,o_,o_,o_,o_,o_,o_,o_,o_,o_] T=slots 51 [(0,(.lst (panels.flatMap pr) panels.length .shared)),(1,(I whole)),(5,(I s3)),(6,(I s2)),(7,(I s4)),(8,(I s5)),(9,(I s6))]) (h:x71_l3 panels s2 s4 kl3_0 FU s5 s6=some v) :
  wpR Tryz.prog ann71 71 0 none xrc71_1 T [] Q:=by
 unfold xrc71_1
 skip
 refine wp_loop hT ?_
 refine .intro (fun m T H=>∃ (s5:Int) (s6:Int),T=slots 51 [(0,(.lst (panels.flatMap pr) panels.length .shared)),(1,(I whole)),(5,(I s3)),(6,(I s2)),(7,(I s4)),(8,(I s5)),(9,(I s6))]∧H=[]∧x71_l3 panels s2 s4 kl3_0 m s5 s6=some v) FU ⟨s5,s6,rfl,rfl,h⟩ ?_
 clear h hT
 rintro m T H ⟨s5,s6,rfl,rfl,h⟩
 cases m
 ·exact none_ne h
 rename_i m
 rw [x71_l3.eq_2] at h
 conv=>whnf
 rcases bt (decide (s6<(panels.length:Int))) with hb3 | hb3
 ·rw [hb3]
  conv=>whnf
  replace h:=it_t hb3 h
  obtain ⟨hb4,h⟩:=gd_some h
  refine ⟨hb4,?_⟩
  rw [dropS pr 2 pr_len panels s6 hb4]
  conv=>whnf
  rcases bt (decide ((ix panels s6).1=s2)) with hb5 | hb5
  ·rw [hb5]
   conv=>whnf
   replace h:=it_t hb5 h
   obtain ⟨hb6,h⟩:=gd_some h
   refine ⟨hb6,?_⟩
   rw [dropS pr 2 pr_len panels s6 hb6]
   conv=>whnf
   rcases bt (decide (s4≤(ix panels s6).2)) with hb7 | hb7
   ·rw [hb7]
    conv=>whnf
    replace h:=it_t hb7 h
    exact ⟨m,Nat.lt_succ_self m,(w (s5+(1:Int))),(w (s6+(1:Int))),rfl,rfl,h⟩
   ·rw [hb7]
    conv=>whnf
    replace h:=it_f hb7 h
    exact ⟨m,Nat.lt_succ_self m,s5,(w (s6+(1:Int))),rfl,rfl,h⟩
  ·rw [hb5]
   conv=>whnf
   replace h:=it_f hb5 h
   exact ⟨m,Nat.lt_succ_self m,s5,(w (s6+(1:Int))),rfl,rfl,h⟩
 ·rw [hb3]
  conv=>whnf
  replace h:=it_f hb3 h
  exact hkl3_0 _ _ _ _ _ _ _ _ _ _ _ _ _ _ _ _ _ _ _ _ _ _ _ _ _ _ _ _ _ _ _ _ _ _ _ _ _ _ _ _ _ _ _ _ h
theorem x71_l2_ok {panels:(List (Int×Int))} {whole:Int} {s2:Int} {kl2_0:Int→Option Int} {s3:Int} {s4:Int} {v:Int} {Q:Ex→List AV→List AObj→Prop}   (hkl2_0:∀ (z2:Int) (u4:AV) (u7:AV) (u8:AV) (u9:AV) (u10:AV) (u11:AV) (u12:AV) (u13:AV) (u14:AV) (u15:AV) (u16:AV) (u17:AV) (u18:AV) (u19:AV) (u20:AV) (u21:AV) (u22:AV) (u23:AV) (u24:AV) (u25:AV) (u26:AV) (u27:AV) (u28:AV) (u29:AV) (u30:AV) (u31:AV) (u32:AV) (u33:AV) (u34:AV) (u35:AV) (u36:AV) (u37:AV) (u38:AV) (u39:AV) (u40:AV) (u41:AV) (u42:AV) (u43:AV) (u44:AV) (u45:AV) (u46:AV) (u47:AV) (u48:AV) (u49:AV) (u50:AV),kl2_0 z2=some v→Q (.exit 2) [(.lst (panels.flatMap pr) panels.length .shared),(I whole),J,J,u4,(I z2),(I s2),u7,u8,u9,u10,u11,u12,u13,u14,u15,u16,u17,u18,u19,u20,u21,u22,u23,u24,u25,u26,u27,u28,u29,u30,u31,u32,u33,u34,u35,u36,u37,u38,u39,u40,u41,u42,u43,u44,u45,u46,u47,u48,u49,u50] []) {T:List AV} (hT:zipKeep [i_,i_,o_,o_,o_,i_,i_,i_,o_,o_,o_,o_,o_,o_,o_,o_,o_,o_,o_,o_,o_,o_,o_,o_,o_,o_,o_,o_,o_,o_,o_,o_,o_,o_,o_,o_,o_,o_,o_,o_,o_,o_,o_,o_,o_,o_,o_,o_,o_,o_,o_] T=slots 51 [(0,(.lst (panels.flatMap pr) panels.length .shared)),(1,(I whole)),(5,(I s3)),(6,(I s2)),(7,(I s4))]) (h:x71_l2 panels whole s2 kl2_0 FU s3 s4=some v) :
  wpR Tryz.prog ann71 71 0 none xrc71_2 T [] Q:=by
 unfold xrc71_2
 obtain ⟨c_1,g_1⟩:∃ c,xrc71_1=c:=⟨_,rfl⟩
 rw [g_1]
 refine wp_loop hT ?_
 refine .intro (fun m T H=>∃ (s3:Int) (s4:Int),T=slots 51 [(0,(.lst (panels.flatMap pr) panels.length .shared)),(1,(I whole)),(5,(I s3)),(6,(I s2)),(7,(I s4))]∧H=[]∧x71_l2 panels whole s2 kl2_0 m s3 s4=some v) FU ⟨s3,s4,rfl,rfl,h⟩ ?_
 clear h hT
 rintro m T H ⟨s3,s4,rfl,rfl,h⟩
 cases m
 ·exact none_ne h
 rename_i m
 rw [x71_l2.eq_2] at h
 conv=>whnf
 rcases bt (decide (s4≤(24:Int))) with hb2 | hb2
 ·rw [hb2]
  conv=>whnf
  replace h:=it_t hb2 h
  subst g_1
  refine x71_l3_ok ?_ (by exact rfl) h
  intro z1 u4 u9 u10 u11 u12 u13 u14 u15 u16 u17 u18 u19 u20 u21 u22 u23 u24 u25 u26 u27 u28 u29 u30 u31 u32 u33 u34 u35 u36 u37 u38 u39 u40 u41 u42 u43 u44 u45 u46 u47 u48 u49 u50 h
  conv=>whnf
  obtain ⟨hb8,h⟩:=gd_some h
  refine ⟨hb8,?_⟩
  conv=>whnf
  exact ⟨m,Nat.lt_succ_self m,(w (s3+(w ((w ((w (z1+whole))-(1:Int))).tdiv whole)))),(w (s4+(1:Int))),rfl,rfl,h⟩
 ·rw [hb2]
  conv=>whnf
  replace h:=it_f hb2 h
  exact hkl2_0 _ _ _ _ _ _ _ _ _ _ _ _ _ _ _ _ _ _ _ _ _ _ _ _ _ _ _ _ _ _ _ _ _ _ _ _ _ _ _ _ _ _ _ _ _ _ h
theorem x71_l1_ok {panels:(List (Int×Int))} {whole:Int} {kl1_0:Int→Option Int} {s1:Int} {s2:Int} {v:Int} {Q:Ex→List AV→List AObj→Prop}   (hkl1_0:∀ (z3:Int) (u0:AV) (u1:AV) (u4:AV) (u6:AV) (u7:AV) (u8:AV) (u9:AV) (u10:AV) (u11:AV) (u12:AV) (u13:AV) (u14:AV) (u15:AV) (u16:AV) (u17:AV) (u18:AV) (u19:AV) (u20:AV) (u21:AV) (u22:AV) (u23:AV) (u24:AV) (u25:AV) (u26:AV) (u27:AV) (u28:AV) (u29:AV) (u30:AV) (u31:AV) (u32:AV) (u33:AV) (u34:AV) (u35:AV) (u36:AV) (u37:AV) (u38:AV) (u39:AV) (u40:AV) (u41:AV) (u42:AV) (u43:AV) (u44:AV) (u45:AV) (u46:AV) (u47:AV) (u48:AV) (u49:AV) (u50:AV),kl1_0 z3=some v→Q (.exit 0) [u0,u1,J,J,u4,(I z3),u6,u7,u8,u9,u10,u11,u12,u13,u14,u15,u16,u17,u18,u19,u20,u21,u22,u23,u24,u25,u26,u27,u28,u29,u30,u31,u32,u33,u34,u35,u36,u37,u38,u39,u40,u41,u42,u43,u44,u45,u46,u47,u48,u49,u50] []) {T:List AV} (hT:zipKeep [i_,i_,o_,o_,o_,i_,i_,o_,o_,o_,o_,o_,o_,o_,o_,o_,o_,o_,o_,o_,o_,o_,o_,o_,o_,o_,o_,o_,o_,o_,o_,o_,o_,o_,o_,o_,o_,o_,o_,o_,o_,o_,o_,o_,o_,o_,o_,o_,o_,o_,o_] T=slots 51 [(0,(.lst (panels.flatMap pr) panels.length .shared)),(1,(I whole)),(5,(I s1)),(6,(I s2))]) (h:x71_l1 panels whole kl1_0 FU s1 s2=some v) :
  wpR Tryz.prog ann71 71 0 none xrc71_3 T [] Q:=by
 unfold xrc71_3
 obtain ⟨c_2,g_2⟩:∃ c,xrc71_2=c:=⟨_,rfl⟩
 rw [g_2]
 refine wp_loop hT ?_
 refine .intro (fun m T H=>∃ (s1:Int) (s2:Int),T=slots 51 [(0,(.lst (panels.flatMap pr) panels.length .shared)),(1,(I whole)),(5,(I s1)),(6,(I s2))]∧H=[]∧x71_l1 panels whole kl1_0 m s1 s2=some v) FU ⟨s1,s2,rfl,rfl,h⟩ ?_
 clear h hT
 rintro m T H ⟨s1,s2,rfl,rfl,h⟩
 cases m
 ·exact none_ne h
 rename_i m
 rw [x71_l1.eq_2] at h
 conv=>whnf
 rcases bt (decide (s2≤(20:Int))) with hb1 | hb1
 ·rw [hb1]
  conv=>whnf
  replace h:=it_t hb1 h
  subst g_2
  refine x71_l2_ok ?_ (by exact rfl) h
  intro z2 u4 u7 u8 u9 u10 u11 u12 u13 u14 u15 u16 u17 u18 u19 u20 u21 u22 u23 u24 u25 u26 u27 u28 u29 u30 u31 u32 u33 u34 u35 u36 u37 u38 u39 u40 u41 u42 u43 u44 u45 u46 u47 u48 u49 u50 h
  conv=>whnf
  exact ⟨m,Nat.lt_succ_self m,z2,(w (s2+(1:Int))),rfl,rfl,h⟩
 ·rw [hb1]
  conv=>whnf
  replace h:=it_f hb1 h
  exact hkl1_0 _ _ _ _ _ _ _ _ _ _ _ _ _ _ _ _ _ _ _ _ _ _ _ _ _ _ _ _ _ _ _ _ _ _ _ _ _ _ _ _ _ _ _ _ _ _ _ _ _ h
theorem x71_ok {panels:(List (Int×Int))} {whole:Int} {v:Int} (h:x71 panels whole=some v):PO 71 [(.lst (panels.flatMap pr) panels.length .shared),(I whole)] (I v):=by
 refine fn_pureW hmix lxx71 rfl rfl fun Q hQ=>?_
 have hR:∀ T H,RetW [.tmp 4] (I v) .ret T H→Q .ret T H:=fun T H hh=>hQ _ T H hh
 unfold x71 at h
 unfold xrc71
 obtain ⟨c_3,g_3⟩:∃ c,xrc71_3=c:=⟨_,rfl⟩
 rw [g_3]
 conv=>whnf
 subst g_3
 refine x71_l1_ok ?_ (by exact rfl) h
 intro z3 u0 u1 u4 u6 u7 u8 u9 u10 u11 u12 u13 u14 u15 u16 u17 u18 u19 u20 u21 u22 u23 u24 u25 u26 u27 u28 u29 u30 u31 u32 u33 u34 u35 u36 u37 u38 u39 u40 u41 u42 u43 u44 u45 u46 u47 u48 u49 u50 h
 conv=>whnf
 obtain rfl:=Option.some.inj h
 exact hR _ _ ⟨.inr rfl,_,rfl,_,frz_pure rfl,rfl⟩

noncomputable def xrc34:RC :=
 .seq (.reg false [I_ 2 [.tk 0] .box,I_ 4 [.cv (.int .i64 0)] .mv,I_ 5 [.cv (.int .i64 0)] .mv]) (.seq (.seq (.reg false [I_ 6 [.sl 2] (.ld (.str 4)),I_ 7 [.sl 1] .mv,I_ 8 [.cv (.func 66 [] []),.sl 6,.sl 7] (.call 3),I_ 9
 [.tv 8,.cv (.int .i64 0)] (.bin .neq)]) (.cond (.sl 9) (.seq (.reg false [I_ 10 [.tv 2] (.ld (.str 4)),I_ 11 [.tk 1] .mv,I_ 12 [.cv (.func 66 [] []),.sl 10,.sl 11] (.call 3),I_ 4 [.cv (.int .i64 0)] .mv,I_ 5 [.tk 12]
 .mv]) .ret) .skip)) (.seq (.reg false [I_ 13 [.tk 1] .mv,I_ 14 [.tv 2] (.ld (.str 4)),I_ 15 [.cv (.func 51 [] []),.sl 14] (.call 3),I_ 16 [.tk 15] .lenS,I_ 17 [.cv (.func 71 [] []),.sl 13,.sl 16] (.call 3),I_ 4 [.tk 17]
 .mv,I_ 5 [.cv (.int .i64 0)] .mv]) .ret))
theorem lxx34:linkF Tryz.prog ann34 34=some (xrc34,18,[.tmp 4,.tmp 5]):=by kernel_rfl
def x34 (b:(Int×(List Int)×Int×Int)) (panels:(List (Int×Int))):Option (Int×Int) :=
 (x66 b panels).bind fun r1 =>
 if (decide (r1≠(0:Int)))=true then
  (x66 b panels).bind fun r2 =>
  some ((0:Int),r2)
 else
  (x51 b).bind fun r3 =>
  (x71 panels (r3.length:Int)).bind fun r4 =>
  some (r4,(0:Int))
theorem x34_ok {b:(Int×(List Int)×Int×Int)} {panels:(List (Int×Int))} {v:(Int×Int)} (h:x34 b panels=some v):PO 34 [(.agg [(I b.1),(.lst (b.2.1.map I) b.2.1.length .shared),(I b.2.2.1),(I b.2.2.2)]),(.lst (panels.flatMap pr) panels.length .shared)] (.tuple [(I v.1),(I v.2)]):=by
 refine fn_pureW hmix lxx34 rfl (pu_tup (allc rfl (allc rfl rfl))) fun Q hQ=>?_
 have hR:∀ T H,RetW [.tmp 4,.tmp 5] (.tuple [(I v.1),(I v.2)]) .ret T H→Q .ret T H:=fun T H hh=>hQ _ T H hh
 unfold x34 at h
 unfold xrc34
 skip
 conv=>whnf
 obtain ⟨r1,hb1,h⟩:=bd_some h
 refine ⟨(allc (pu_agg (allc rfl (allc (pu_map (fun _=>rfl) _ _ _) (allc rfl (allc rfl rfl))))) (allc (pu_flat (fun _=>(allc rfl (allc rfl rfl))) _ _ _) rfl)),_,x66_ok hb1,?_⟩
 conv=>whnf
 rcases bt (decide (r1≠(0:Int))) with hb2 | hb2
 ·rw [hb2]
  conv=>whnf
  replace h:=it_t hb2 h
  obtain ⟨r2,hb3,h⟩:=bd_some h
  refine ⟨(allc (pu_agg (allc rfl (allc (pu_map (fun _=>rfl) _ _ _) (allc rfl (allc rfl rfl))))) (allc (pu_flat (fun _=>(allc rfl (allc rfl rfl))) _ _ _) rfl)),_,x66_ok hb3,?_⟩
  conv=>whnf
  obtain rfl:=Option.some.inj h
  exact hR _ _ ⟨.inr rfl,_,rfl,_,frz_pure (pu_tup (allc rfl (allc rfl rfl))),rfl⟩
 ·rw [hb2]
  conv=>whnf
  replace h:=it_f hb2 h
  obtain ⟨r3,hb4,h⟩:=bd_some h
  refine ⟨(allc (pu_agg (allc rfl (allc (pu_map (fun _=>rfl) _ _ _) (allc rfl (allc rfl rfl))))) rfl),_,x51_ok hb4,?_⟩
  conv=>whnf
  obtain ⟨r4,hb5,h⟩:=bd_some h
  refine ⟨(allc (pu_flat (fun _=>(allc rfl (allc rfl rfl))) _ _ _) (allc rfl rfl)),_,x71_ok hb5,?_⟩
  conv=>whnf
  obtain rfl:=Option.some.inj h
  exact hR _ _ ⟨.inr rfl,_,rfl,_,frz_pure (pu_tup (allc rfl (allc rfl rfl))),rfl⟩

noncomputable def xrc72_1:RC :=
 .loop (some [o_,o_,o_,i_,i_,o_,o_,o_,o_,o_,o_,o_,o_,i_,i_,i_,o_,o_,o_,o_,o_,o_,o_,o_,o_,o_,o_]) (.seq (.reg false [I_ 16 [.sl
 15,.sl 14] (.bin .lss)]) (.seq (.cond (.sl 16) .skip (.exit 0)) (.seq (.block 1 (.seq (.reg false [I_ 17 [.sl 13,.sl 15] (.ia 1),I_ 18 [.tv 17] (.ld .one),I_ 6 [.tk 18] .mv]) (.seq (.reg false [I_ 19 [.tk 4] .mv,I_ 20 [.tk
 3] .mv,I_ 21 [.sl 6] .mv,I_ 22 [.cv (.func 93 [] []),.sl 20,.sl 21] (.call 3),I_ 23 [.tv 19,.tv 22] (.bin .add),I_ 4 [.tk 23] .mv]) (.reg false [I_ 24 [.tk 6] .mv,I_ 3 [.tk 24] .mv])))) (.reg false [I_ 25 [.tv 15,.cv
 (.int .i64 1)] (.bin .add),I_ 15 [.tk 25] .mv]))))
noncomputable def xrc72:RC :=
 .seq (.reg false [I_ 2 [.cv (.int .i64 0)] .mv]) (.seq (.reg false [I_ 7 [.sl 0] .mv,I_ 8 [.tv 7] .nilc,I_ 9 [.tv 8] (.fa 0),I_ 10 [.tv 9] (.fa 2),I_ 11 [.tv 10] (.ld .one),I_ 3 [.tk 11] .mv,I_ 4 [.cv (.int .i64 0)] .mv])
 (.seq (.seq (.reg false [I_ 12 [.tk 0] .mv,I_ 13 [.cv (.func 74 [] []),.sl 12] (.call 3),I_ 14 [.sl 13] .lenS,I_ 15 [.cv (.int .i64 0)] .mv]) (.block 0 xrc72_1)) (.seq (.reg false [I_ 26 [.tk 4] .mv,I_ 2 [.tk 26] .mv])
 .ret)))
theorem lxx72:linkF Tryz.prog ann72 72=some (xrc72,27,[.tmp 2]):=by kernel_rfl
def x72_l1 (r1:(List Int)) (kl1_0:Int→Option Int):Nat→Int→Int→Int→Option Int
 | 0,_,_,_=>none
 | m+1,s1,s2,s3 =>
   if (decide (s3<(r1.length:Int)))=true then
    gd (0≤s3∧s3<(r1.length:Int)) <|
    (x93 s1 (ix r1 s3)).bind fun r2 =>
    x72_l1 r1 kl1_0 m (ix r1 s3) (w (s2+r2)) (w (s3+(1:Int)))
   else
    kl1_0 s2
def x72 (x:((Int×(List Int)×Int×Int)×(List (Int×Int))×(List Int)×(List Int))):Option Int :=
 (x74 x).bind fun r1 =>
 x72_l1 r1 (fun z1 =>
   some z1) FU x.1.2.2.1 (0:Int) (0:Int)
theorem x72_l1_ok {r1:(List Int)} {kl1_0:Int→Option Int} {s1:Int} {s2:Int} {s3:Int} {v:Int} {Q:Ex→List AV→List AObj→Prop}   (hkl1_0:∀ (z1:Int) (u0:AV) (u2:AV) (u3:AV) (u6:AV) (u7:AV) (u8:AV) (u9:AV) (u10:AV) (u11:AV) (u12:AV) (u13:AV) (u14:AV) (u15:AV) (u16:AV) (u17:AV) (u18:AV) (u19:AV) (u20:AV) (u21:AV) (u22:AV) (u23:AV) (u24:AV) (u25:AV) (u26:AV),kl1_0 z1=some v→Q (.exit 0) [u0,J,u2,u3,(I z1),J,u6,u7,u8,u9,u10,u11,u12,u13,u14,u15,u16,u17,u18,u19,u20,u21,u22,u23,u24,u25,u26] []) {T:List AV} (hT:zipKeep [o_,o_,o_,i_,i_,o_,o_,o_,o_,o_,o_,o_,o_,i_,i_,i_,o_,o_,o_,o_,o_,o_,o_,o_,o_,o_,o_] T=slots 27 [(3,(I s1)),(4,(I s2)),(13,(.lst (r1.map I) r1.length .shared)),(14,(I (r1.length:Int))),(15,(I s3))]) (h:x72_l1 r1 kl1_0 FU s1 s2 s3=some v) :
  wpR Tryz.prog ann72 72 0 none xrc72_1 T [] Q:=by
 unfold xrc72_1
 skip
 refine wp_loop hT ?_
 refine .intro (fun m T H=>∃ (s1:Int) (s2:Int) (s3:Int),T=slots 27 [(3,(I s1)),(4,(I s2)),(13,(.lst (r1.map I) r1.length .shared)),(14,(I (r1.length:Int))),(15,(I s3))]∧H=[]∧x72_l1 r1 kl1_0 m s1 s2 s3=some v) FU ⟨s1,s2,s3,rfl,rfl,h⟩ ?_
 clear h hT
 rintro m T H ⟨s1,s2,s3,rfl,rfl,h⟩
 cases m
 ·exact none_ne h
 rename_i m
 rw [x72_l1.eq_2] at h
 conv=>whnf
 rcases bt (decide (s3<(r1.length:Int))) with hb2 | hb2
 ·rw [hb2]
  conv=>whnf
  replace h:=it_t hb2 h
  obtain ⟨hb3,h⟩:=gd_some h
  refine ⟨hb3,?_⟩
  rw [drop1 I r1 s3 hb3]
  conv=>whnf
  obtain ⟨r2,hb4,h⟩:=bd_some h
  refine ⟨(allc rfl (allc rfl rfl)),_,x93_ok hb4,?_⟩
  conv=>whnf
  exact ⟨m,Nat.lt_succ_self m,(ix r1 s3),(w (s2+r2)),(w (s3+(1:Int))),rfl,rfl,h⟩
 ·rw [hb2]
  conv=>whnf
  replace h:=it_f hb2 h
  exact hkl1_0 _ _ _ _ _ _ _ _ _ _ _ _ _ _ _ _ _ _ _ _ _ _ _ _ _ h
theorem x72_ok {x:((Int×(List Int)×Int×Int)×(List (Int×Int))×(List Int)×(List Int))} {v:Int} (h:x72 x=some v):PO 72 [(.lptr ((I x.1.1)::(.lst (x.1.2.1.map I) x.1.2.1.length .shared)::(I x.1.2.2.1)::(I x.1.2.2.2)::(.lst (x.2.1.flatMap pr) x.2.1.length .shared)::(.lst (x.2.2.1.map I) x.2.2.1.length .shared)::(x.2.2.2.map I)))] (I v):=by
 refine fn_pureW hmix lxx72 rfl rfl fun Q hQ=>?_
 have hR:∀ T H,RetW [.tmp 2] (I v) .ret T H→Q .ret T H:=fun T H hh=>hQ _ T H hh
 unfold x72 at h
 unfold xrc72
 obtain ⟨c_1,g_1⟩:∃ c,xrc72_1=c:=⟨_,rfl⟩
 rw [g_1]
 conv=>whnf
 obtain ⟨r1,hb1,h⟩:=bd_some h
 refine ⟨(allc (pu_lptr (allc rfl (allc (pu_map (fun _=>rfl) _ _ _) (allc rfl (allc rfl (allc (pu_flat (fun _=>(allc rfl (allc rfl rfl))) _ _ _) (allc (pu_map (fun _=>rfl) _ _ _) (pu_run (fun _=>rfl) _)))))))) rfl),_,x74_ok hb1,?_⟩
 conv=>whnf
 subst g_1
 refine x72_l1_ok ?_ (by exact rfl) h
 intro z1 u0 u2 u3 u6 u7 u8 u9 u10 u11 u12 u13 u14 u15 u16 u17 u18 u19 u20 u21 u22 u23 u24 u25 u26 h
 conv=>whnf
 obtain rfl:=Option.some.inj h
 exact hR _ _ ⟨.inr rfl,_,rfl,_,frz_pure rfl,rfl⟩

def x35 (b:(Int×(List Int)×Int×Int)) (panels:(List (Int×Int))):Option (Int×Int) :=
 (x69 b panels).bind fun r1 =>
 match r1 with
 | (none,q1) =>
   if (decide (q1≠(0:Int)))=true then
    some ((0:Int),q1)
   else
    none
 | (some p1,q1) =>
   if (decide (q1≠(0:Int)))=true then
    some ((0:Int),q1)
   else
    (x72 p1).bind fun r2 =>
    some (r2,(0:Int))

noncomputable def xrc73_1:RC :=
 .loop (some [o_,i_,i_,o_,o_,i_,i_,i_,o_,o_,o_,o_,o_,o_,o_,o_,o_,o_,o_,o_,o_,o_,o_,o_,o_,o_,o_,o_,o_,o_,o_,o_,o_,o_,o_,o_,o_,o_,o_,o_,o_,o_,o_,o_,o_]) (.seq (.seq (.reg false [I_ 12 [.sl 7] .mv,I_ 13 [.sl 1] .mv,I_ 14 [.tk 13] .lenS,I_ 15 [.tv 12,.tv 14] (.bin .lss)]) (.cond
 (.sl 15) .skip (.exit 0))) (.seq (.block 1 (.reg true [I_ 18 [.tk 5] .mv,I_ 19 [.sl 1] .mv,I_ 20 [.sl 7] .mv,I_ 21 [.tv 19,.tv 20] (.ia 2),I_ 22 [.tv 21] (.fa 0),I_ 23 [.tv 22] (.ld .one),I_ 24 [.tk 18,.tk 23] .min,I_
 25 [.tk 6] .mv,I_ 26 [.sl 1] .mv,I_ 27 [.sl 7] .mv,I_ 28 [.tv 26,.tv 27] (.ia 2),I_ 29 [.tv 28] (.fa 0),I_ 30 [.tv 29] (.ld .one),I_ 31 [.tk 25,.tk 30] .max,I_ 5 [.tk 24] .mv,I_ 6 [.tk 31] .mv])) (.reg false [I_ 16
 [.tk 7] .mv,I_ 17 [.tv 16,.cv (.int .i64 1)] (.bin .add),I_ 7 [.tk 17] .mv])))
noncomputable def xrc73:RC :=
 .seq (.reg false [I_ 2 [.tk 0] .box,I_ 4 [.cv (.int .i64 0)] .mv]) (.seq (.reg true [I_ 8 [.sl 2] (.fa 2),I_ 9 [.tv 8] (.ld .one),I_ 10 [.sl 2] (.fa 2),I_ 11 [.tv 10] (.ld .one),I_ 5 [.tk 9] .mv,I_ 6 [.tk 11] .mv]) (.seq
 (.seq (.reg false [I_ 7 [.cv (.int .i64 0)] .mv]) (.block 0 xrc73_1)) (.seq (.reg false [I_ 32 [.sl 6] .mv,I_ 33 [.sl 5] .mv,I_ 34 [.tv 32,.tv 33] (.bin .sub),I_ 35 [.sl 2] (.fa 2),I_ 36 [.tv 35] (.ld .one),I_ 37 [.tk 5]
 .mv,I_ 38 [.tv 36,.tv 37] (.bin .sub),I_ 39 [.tk 6] .mv,I_ 40 [.tv 2] (.fa 2),I_ 41 [.tv 40] (.ld .one),I_ 42 [.tv 39,.tv 41] (.bin .sub),I_ 43 [.tk 38,.tk 42] .min,I_ 44 [.tv 34,.tv 43] (.bin .add),I_ 4 [.tk 44]
 .mv]) .ret)))
theorem lxx73:linkF Tryz.prog ann73 73=some (xrc73,45,[.tmp 4]):=by kernel_rfl
def x73_l1 (panels:(List (Int×Int))) (kl1_0:Int→Int→Option Int):Nat→Int→Int→Int→Option Int
 | 0,_,_,_=>none
 | m+1,s1,s2,s3 =>
   if (decide (s3<(panels.length:Int)))=true then
    gd (0≤s3∧s3<(panels.length:Int)) <|
    gd (0≤s3∧s3<(panels.length:Int)) <|
    x73_l1 panels kl1_0 m (min s1 ((ix panels s3).1)) (max s2 ((ix panels s3).1)) (w (s3+(1:Int)))
   else
    kl1_0 s1 s2
def x73 (b:(Int×(List Int)×Int×Int)) (panels:(List (Int×Int))):Option Int :=
 x73_l1 panels (fun z1 z2 =>
   some (w ((w (z2-z1))+(min (w (b.2.2.1-z1)) (w (z2-b.2.2.1)))))) FU b.2.2.1 b.2.2.1 (0:Int)
theorem x73_l1_ok {panels:(List (Int×Int))} {kl1_0:Int→Int→Option Int} {s1:Int} {s2:Int} {s3:Int} {b:(Int×(List Int)×Int×Int)} {v:Int} {Q:Ex→List AV→List AObj→Prop}   (hkl1_0:∀ (z1:Int) (z2:Int) (u0:AV) (u1:AV) (u4:AV) (u7:AV) (u8:AV) (u9:AV) (u10:AV) (u11:AV) (u12:AV) (u13:AV) (u14:AV) (u15:AV) (u16:AV) (u17:AV) (u18:AV) (u19:AV) (u20:AV) (u21:AV) (u22:AV) (u23:AV) (u24:AV) (u25:AV) (u26:AV) (u27:AV) (u28:AV) (u29:AV) (u30:AV) (u31:AV) (u32:AV) (u33:AV) (u34:AV) (u35:AV) (u36:AV) (u37:AV) (u38:AV) (u39:AV) (u40:AV) (u41:AV) (u42:AV) (u43:AV) (u44:AV),kl1_0 z1 z2=some v→Q (.exit 0) [u0,u1,(.ptr 0 0),J,u4,(I z1),(I z2),u7,u8,u9,u10,u11,u12,u13,u14,u15,u16,u17,u18,u19,u20,u21,u22,u23,u24,u25,u26,u27,u28,u29,u30,u31,u32,u33,u34,u35,u36,u37,u38,u39,u40,u41,u42,u43,u44] [AObj.cells [(I b.1),(.lst (b.2.1.map I) b.2.1.length .shared),(I b.2.2.1),(I b.2.2.2)]]) {T:List AV} (hT:zipKeep [o_,i_,i_,o_,o_,i_,i_,i_,o_,o_,o_,o_,o_,o_,o_,o_,o_,o_,o_,o_,o_,o_,o_,o_,o_,o_,o_,o_,o_,o_,o_,o_,o_,o_,o_,o_,o_,o_,o_,o_,o_,o_,o_,o_,o_] T=slots 45 [(1,(.lst (panels.flatMap pr) panels.length .shared)),(2,(.ptr 0 0)),(5,(I s1)),(6,(I s2)),(7,(I s3))]) (h:x73_l1 panels kl1_0 FU s1 s2 s3=some v) :
  wpR Tryz.prog ann73 73 0 none xrc73_1 T [AObj.cells [(I b.1),(.lst (b.2.1.map I) b.2.1.length .shared),(I b.2.2.1),(I b.2.2.2)]] Q:=by
 unfold xrc73_1
 skip
 refine wp_loop hT ?_
 refine .intro (fun m T H=>∃ (s1:Int) (s2:Int) (s3:Int),T=slots 45 [(1,(.lst (panels.flatMap pr) panels.length .shared)),(2,(.ptr 0 0)),(5,(I s1)),(6,(I s2)),(7,(I s3))]∧H=[AObj.cells [(I b.1),(.lst (b.2.1.map I) b.2.1.length .shared),(I b.2.2.1),(I b.2.2.2)]]∧x73_l1 panels kl1_0 m s1 s2 s3=some v) FU ⟨s1,s2,s3,rfl,rfl,h⟩ ?_
 clear h hT
 rintro m T H ⟨s1,s2,s3,rfl,rfl,h⟩
 cases m
 ·exact none_ne h
 rename_i m
 rw [x73_l1.eq_2] at h
 conv=>whnf
 rcases bt (decide (s3<(panels.length:Int))) with hb1 | hb1
 ·rw [hb1]
  conv=>whnf
  replace h:=it_t hb1 h
  obtain ⟨hb2,h⟩:=gd_some h
  refine ⟨hb2,?_⟩
  rw [dropS pr 2 pr_len panels s3 hb2]
  conv=>whnf
  obtain ⟨hb3,h⟩:=gd_some h
  refine ⟨hb3,?_⟩
  rw [dropS pr 2 pr_len panels s3 hb3]
  conv=>whnf
  exact ⟨m,Nat.lt_succ_self m,(min s1 ((ix panels s3).1)),(max s2 ((ix panels s3).1)),(w (s3+(1:Int))),rfl,rfl,h⟩
 ·rw [hb1]
  conv=>whnf
  replace h:=it_f hb1 h
  exact hkl1_0 _ _ _ _ _ _ _ _ _ _ _ _ _ _ _ _ _ _ _ _ _ _ _ _ _ _ _ _ _ _ _ _ _ _ _ _ _ _ _ _ _ _ _ h
theorem x73_ok {b:(Int×(List Int)×Int×Int)} {panels:(List (Int×Int))} {v:Int} (h:x73 b panels=some v):PO 73 [(.agg [(I b.1),(.lst (b.2.1.map I) b.2.1.length .shared),(I b.2.2.1),(I b.2.2.2)]),(.lst (panels.flatMap pr) panels.length .shared)] (I v):=by
 refine fn_pureW hmix lxx73 rfl rfl fun Q hQ=>?_
 have hR:∀ T H,RetW [.tmp 4] (I v) .ret T H→Q .ret T H:=fun T H hh=>hQ _ T H hh
 unfold x73 at h
 unfold xrc73
 obtain ⟨c_1,g_1⟩:∃ c,xrc73_1=c:=⟨_,rfl⟩
 rw [g_1]
 conv=>whnf
 subst g_1
 refine x73_l1_ok ?_ (by exact rfl) h
 intro z1 z2 u0 u1 u4 u7 u8 u9 u10 u11 u12 u13 u14 u15 u16 u17 u18 u19 u20 u21 u22 u23 u24 u25 u26 u27 u28 u29 u30 u31 u32 u33 u34 u35 u36 u37 u38 u39 u40 u41 u42 u43 u44 h
 conv=>whnf
 obtain rfl:=Option.some.inj h
 exact hR _ _ ⟨.inr rfl,_,rfl,_,frz_pure rfl,rfl⟩

def x36 (b:(Int×(List Int)×Int×Int)) (panels:(List (Int×Int))):Option (Int×Int) :=
 (x66 b panels).bind fun r1 =>
 if (decide (r1≠(0:Int)))=true then
  (x66 b panels).bind fun r2 =>
  some ((0:Int),r2)
 else
  (x73 b panels).bind fun r3 =>
  some (r3,(0:Int))

theorem take_snoc {α:Type} {l:List α} {i:Nat} (h:i<l.length):l.take (i+1)=l.take i++[l[i]]:=by
 rw [List.take_add_one,List.getElem?_eq_getElem h,Option.toList_some]
theorem cP_le (ps:List (Int×Int)) (h t:Int):cP ps h t≤ps.length:=List.countP_le_length
theorem ceil_le {n:Nat} (hn:0<n) (c:Nat):ceil n c≤c:=by
 unfold ceil
 cases c with
 | zero=>rw [Nat.zero_add,Nat.div_eq_of_lt (by omega)];exact Nat.le_refl 0
 | succ c =>
   rw [show c+1+n-1=c+n by omega,Nat.add_div_right _ hn]
   exact Nat.succ_le_succ (Nat.div_le_self c n)
theorem ceil_w {n c:Nat} (hn:1≤n∧n≤1000) (hc:c≤1000):w ((w ((w ((c:Int)+(n:Int)))-1)).tdiv (n:Int))=(ceil n c:Int):=by
 have e:w (w ((c:Int)+(n:Int))-1)=((c+n-1:Nat):Int):=by rw [w_id (n:=(c:Int)+n) (by omega),w_id (by omega)];omega
 have h1:=ceil_le (n:=n) (by omega) c
 rw [e,←Int.ofNat_tdiv]
 show w ((ceil n c:Nat):Int)=_
 exact w_id (by omega)
theorem sumR_bd {f:Nat→Int} {M:Int}:∀ (n:Nat),(∀ i,i<n→0≤f i∧f i≤M)→0≤sumR n f∧sumR n f≤M*n
 | 0,_=>by rw [sumR_zero];simp
 | n+1,h=>by
   have h1:=sumR_bd n fun i hi=>h i (by omega)
   have h2:=h n (by omega)
   rw [sumR_succ,show M*((n+1:Nat):Int)=M*(n:Int)+M by rw [Int.natCast_add,Int.mul_add];simp]
   omega
def hF (n:Nat) (ps:List (Int×Int)) (he:Int) (t:Nat):Int:=(ceil n (cP ps he ((t:Int)+1)):Int)
theorem hF_in {n:Nat} (hn:0<n) {ps:List (Int×Int)} (hl:ps.length≤1000) (he:Int) (t:Nat):0≤hF n ps he t∧hF n ps he t≤1000:=by
 have h1:=cP_le ps he ((t:Int)+1)
 have h2:=ceil_le hn (cP ps he ((t:Int)+1))
 unfold hF;omega
theorem x71_l3_eq {ps:List (Int×Int)} {he t:Int} {k:Int→Option Int} (hl:ps.length≤1000):∀ (m i:Nat) (z:Int),z=i→i≤ps.length→ps.length-i<m→x71_l3 ps he t k m ((cP (ps.take i) he t:Nat):Int) z=k ((cP ps he t:Nat):Int)
 | 0,i,_,_,_,h=>absurd h (by omega)
 | m+1,i,_,rfl,hi,hm=>by
   rw [x71_l3]
   by_cases hlt:i<ps.length
   ·have ih:=x71_l3_eq (he:=he) (t:=t) (k:=k) hl m (i+1) _ rfl (by omega) (by omega)
    have hc:=cP_le (ps.take i) he t
    rw [List.length_take] at hc
    rw [take_snoc hlt,cP_snoc] at ih
    rw [iflt hlt,gdi hlt,ix_nat hlt,w_succ i (by omega)]
    by_cases h1:ps[i].1=he
    ·rw [if_pos (decide_eq_true h1),gdi hlt]
     by_cases h2:t≤ps[i].2
     ·rw [if_pos (decide_eq_true h2),w_succ _ (by omega)]
      rw [if_pos ⟨h1,h2⟩] at ih
      exact ih
     ·rw [if_neg (by simpa using h2),←ih,if_neg (fun x=>h2 x.2)];rfl
    ·rw [if_neg (by simpa using h1),←ih,if_neg (fun x=>h1 x.1)];rfl
   ·obtain rfl:i=ps.length:=by omega
    rw [ifge hlt,List.take_length]
theorem x71_l3_all {ps:List (Int×Int)} {he t:Int} {k:Int→Option Int} (hl:ps.length≤1000):x71_l3 ps he t k FU 0 0=k ((cP ps he t:Nat):Int):=by
 have:=x71_l3_eq (he:=he) (t:=t) (k:=k) hl FU 0 0 rfl (Nat.zero_le _) (FU_lt (by omega))
 rw [List.take_zero] at this
 exact this
theorem x71_l2_eq {ps:List (Int×Int)} {n:Nat} (hl:ps.length≤1000) (hn:1≤n∧n≤1000) {he:Int} {k:Int→Option Int} {a:Int} (ha:0≤a∧a≤1000000000):∀ (m i:Nat) (z:Int),z=(i:Int)+1→i≤24→24-i<m→x71_l2 ps (n:Int) he k m (a+sumR i (hF n ps he)) z=k (a+sumR 24 (hF n ps he))
 | 0,i,_,_,_,h=>absurd h (by omega)
 | m+1,i,_,rfl,hi,hm=>by
   rw [x71_l2]
   by_cases hlt:i<24
   ·have hc:=cP_le ps he ((i:Int)+1)
    have hs:=sumR_bd (f:=hF n ps he) (M:=1000) i fun t _=>hF_in (by omega) hl he t
    have hb:=hF_in (n:=n) (by omega) hl he i
    have ih:=x71_l2_eq hl hn (he:=he) (k:=k) ha m (i+1) (w ((i:Int)+1+1)) (by rw [w_id (by omega)];omega) (by omega) (by omega)
    rw [if_pos (decide_eq_true (by omega)),x71_l3_all hl,gd_pos (by omega),ceil_w hn (by omega)]
    rw [sumR_succ,←Int.add_assoc] at ih
    rw [w_id (n:=a+sumR i (hF n ps he)+((ceil n (cP ps he ((i:Int)+1)):Nat):Int)) (by unfold hF at hb ⊢;unfold hF at hs;omega)]
    exact ih
   ·obtain rfl:i=24:=by omega
    rw [if_neg (by decide)]
theorem x71_l1_eq {ps:List (Int×Int)} {n:Nat} (hl:ps.length≤1000) (hn:1≤n∧n≤1000) {k:Int→Option Int}:∀ (m i:Nat) (z:Int),z=i→i≤21→21-i<m→x71_l1 ps (n:Int) k m (sumR i fun h=>sumR 24 (hF n ps (h:Int))) z=k (sumR 21 fun h=>sumR 24 (hF n ps (h:Int)))
 | 0,i,_,_,_,h=>absurd h (by omega)
 | m+1,i,_,rfl,hi,hm=>by
   rw [x71_l1]
   by_cases hlt:i<21
   ·have hs:=sumR_bd (f:=fun h=>sumR 24 (hF n ps (h:Int))) (M:=24000) i fun h _=>by
     have:=sumR_bd (f:=hF n ps (h:Int)) (M:=1000) 24 fun t _=>hF_in (by omega) hl _ t
     omega
    have h2:=x71_l2_eq hl hn (he:=(i:Int)) (k:=fun z2=>x71_l1 ps (n:Int) k m z2 (w ((i:Int)+(1:Int)))) (a:=sumR i fun h=>sumR 24 (hF n ps (h:Int))) (by omega) FU 0 1 rfl (by omega) (FU_lt (by omega))
    rw [sumR_zero,Int.add_zero] at h2
    rw [if_pos (decide_eq_true (by omega))]
    refine h2.trans ?_
    have ih:=x71_l1_eq hl hn (k:=k) m (i+1) _ rfl (by omega) (by omega)
    rw [sumR_succ] at ih
    rw [w_succ i (by omega)]
    exact ih
   ·obtain rfl:i=21:=by omega
    rw [if_neg (by decide)]
theorem x71_eq {ps:List (Int×Int)} (hp:PsOk ps) {n:Nat} (hn:1≤n∧n≤1000):x71 ps (n:Int)=some (hSum n ps 21):=by
 have hl:=hp.len
 have:=x71_l1_eq (ps:=ps) (n:=n) (by omega) hn (k:=fun z=>some z) FU 0 0 rfl (by omega) (FU_lt (by omega))
 rw [hSum_cnt (by omega) hp.hrs,x71]
 exact this
def eB (b:Bed) (ps:List (Int×Int)):Int:=if bErr b=0 then pErr ps else bErr b
theorem eB_ok {b:Bed} {ps:List (Int×Int)} (h:eB b ps=0):bErr b=0∧PsOk ps:=by
 unfold eB at h
 by_cases hb:bErr b=0
 ·rw [if_pos hb] at h;exact ⟨hb,(pErr_iff ps).1 h⟩
 ·rw [if_neg hb] at h;exact absurd h hb
theorem eB_of {b:Bed} {ps:List (Int×Int)} (hb:bErr b=0) (hp:PsOk ps):eB b ps=0:=by
 unfold eB;rw [if_pos hb];exact (pErr_iff ps).2 hp
theorem x69_err {b:Bed} (hl:b.2.1.length≤1000) {ps:List (Int×Int)} (he:eB b ps≠0):x69 b ps=some (none,eB b ps):=by
 rw [x69,x20_eq b hl,Option.bind_some]
 unfold eB at he ⊢
 by_cases hb:bErr b=0
 ·rw [if_pos hb] at he ⊢
  rw [if_neg (by simp [hb]),x22_eq,Option.bind_some,if_pos (decide_eq_true he)]
 ·rw [if_neg hb] at he ⊢
  rw [if_pos (decide_eq_true hb)]
theorem x66_eB {b:Bed} (hl:b.2.1.length≤20) (ps:List (Int×Int)):x66 b ps=some (eB b ps):=x66_eq hl ps
def minL (s:Int) (l:List Int):Int:=l.foldl min s
def maxL (s:Int) (l:List Int):Int:=l.foldl max s
theorem minL_spec:∀ (l:List Int) (s:Int),minL s l≤s∧(∀ x∈l,minL s l≤x)∧(minL s l=s∨minL s l∈l)
 | [],s=>⟨Int.le_refl _,by simp,.inl rfl⟩
 | a::r,s=>by
   have e:minL s (a::r)=minL (min s a) r:=rfl
   obtain ⟨h1,h2,h3⟩:=minL_spec r (min s a)
   rw [e]
   refine ⟨by omega,fun x hx=>?_,?_⟩
   ·rcases List.mem_cons.1 hx with rfl | hx
    ·omega
    ·exact h2 x hx
   ·rcases h3 with h3 | h3
    ·by_cases h:s≤a
     ·exact .inl (by omega)
     ·exact .inr (by rw [h3,show min s a=a by omega];simp)
    ·exact .inr (by simp [h3])
theorem maxL_spec:∀ (l:List Int) (s:Int),s≤maxL s l∧(∀ x∈l,x≤maxL s l)∧(maxL s l=s∨maxL s l∈l)
 | [],s=>⟨Int.le_refl _,by simp,.inl rfl⟩
 | a::r,s=>by
   have e:maxL s (a::r)=maxL (max s a) r:=rfl
   obtain ⟨h1,h2,h3⟩:=maxL_spec r (max s a)
   rw [e]
   refine ⟨by omega,fun x hx=>?_,?_⟩
   ·rcases List.mem_cons.1 hx with rfl | hx
    ·omega
    ·exact h2 x hx
   ·rcases h3 with h3 | h3
    ·by_cases h:a≤s
     ·exact .inl (by omega)
     ·exact .inr (by rw [h3,show max s a=a by omega];simp)
    ·exact .inr (by simp [h3])
theorem minL_sub {l l':List Int} (h:∀ x∈l',x∈l) (s:Int):minL s l≤minL s l':=by
 have h1:=minL_spec l s
 rcases (minL_spec l' s).2.2 with h2 | h2
 ·omega
 ·exact h1.2.1 _ (h _ h2)
theorem maxL_sub {l l':List Int} (h:∀ x∈l',x∈l) (s:Int):maxL s l'≤maxL s l:=by
 have h1:=maxL_spec l s
 rcases (maxL_spec l' s).2.2 with h2 | h2
 ·omega
 ·exact h1.2.1 _ (h _ h2)
theorem minL_set {l l':List Int} (h:∀ x,x∈l↔x∈l') (s:Int):minL s l=minL s l' :=
 Int.le_antisymm (minL_sub (fun x hx=>(h x).2 hx) s) (minL_sub (fun x hx=>(h x).1 hx) s)
theorem maxL_set {l l':List Int} (h:∀ x,x∈l↔x∈l') (s:Int):maxL s l=maxL s l' :=
 Int.le_antisymm (maxL_sub (fun x hx=>(h x).1 hx) s) (maxL_sub (fun x hx=>(h x).2 hx) s)
theorem minL_min:∀ (r:List Int) (s a:Int),minL (min s a) r=min s (minL a r)
 | [],_,_=>rfl
 | b::r,s,a=>by
   show minL (min (min s a) b) r=min s (minL (min a b) r)
   rw [show min (min s a) b=min s (min a b) by omega,minL_min r]
theorem maxL_max:∀ (r:List Int) (s a:Int),maxL (max s a) r=max s (maxL a r)
 | [],_,_=>rfl
 | b::r,s,a=>by
   show maxL (max (max s a) b) r=max s (maxL (max a b) r)
   rw [show max (max s a) b=max s (max a b) by omega,maxL_max r]
def walk:Int→List Int→Int
 | _,[]=>0
 | s,a::r=>max (s-a) (a-s)+walk a r
def wayM (h:Int) (l:List Int):Int:=(maxL h l-minL h l)+min (h-minL h l) (maxL h l-h)
theorem wayM_set {l l':List Int} (h:∀ x,x∈l↔x∈l') (s:Int):wayM s l=wayM s l':=by unfold wayM;rw [minL_set h,maxL_set h]
theorem walk_ge:∀ (l:List Int) (s:Int),wayM s l≤walk s l
 | [],s=>by unfold wayM walk minL maxL;simp
 | a::r,s=>by
   have ih:=walk_ge r a
   have e1:minL s (a::r)=min s (minL a r):=minL_min r s a
   have e2:maxL s (a::r)=max s (maxL a r):=maxL_max r s a
   have h1:=(minL_spec r a).1
   have h2:=(maxL_spec r a).1
   unfold wayM at ih ⊢
   rw [e1,e2,walk]
   omega
theorem walk_up:∀ (r:List Int) (a:Int),(a::r).Pairwise (·<·)→walk a r=maxL a r-a
 | [],a,_=>by show (0:Int)=a-a;omega
 | b::r,a,h=>by
   obtain ⟨h1,h2⟩:=List.pairwise_cons.1 h
   have h3:=h1 b (by simp)
   have e:maxL a (b::r)=maxL b r:=by show maxL (max a b) r=_;rw [show max a b=b by omega]
   have h4:=(maxL_spec r b).1
   rw [walk,walk_up r b h2,e]
   omega
theorem walk_dn:∀ (r:List Int) (a:Int),(a::r).Pairwise (fun x y=>y<x)→walk a r=a-minL a r
 | [],a,_=>by show (0:Int)=a-a;omega
 | b::r,a,h=>by
   obtain ⟨h1,h2⟩:=List.pairwise_cons.1 h
   have h3:=h1 b (by simp)
   have e:minL a (b::r)=minL b r:=by show minL (min a b) r=_;rw [show min a b=b by omega]
   have h4:=(minL_spec r b).1
   rw [walk,walk_dn r b h2,e]
   omega
theorem farD_eq {a b:Int} (ha:0≤a∧a≤1000) (hb:0≤b∧b≤1000):farD a b=max (a-b) (b-a):=by
 unfold farD;rw [w_id (by omega),w_id (by omega)]
theorem order_way {up:List Int} {h:Int} (hp:up.Pairwise (·<·)) (hne:up≠[]) (hr:∀ x∈up,0≤x∧x≤1000) (hh:0≤h∧h≤1000):walk h (if nearer h up.reverse up=true then up.reverse else up)=wayM h up:=by
 cases up with
 | nil=>exact absurd rfl hne
 | cons a r =>
   have hw1:walk h (a::r)=max (h-a) (a-h)+(maxL a r-a):=by rw [walk,walk_up r a hp]
   have hrev:(a::r).reverse.Pairwise (fun x y=>y<x):=List.pairwise_reverse.2 hp
   have hmem:∀ x,x∈(a::r).reverse↔x∈a::r:=fun x=>List.mem_reverse
   cases hc:(a::r).reverse with
   | nil=>have:=congrArg List.length hc;simp at this
   | cons c r' =>
     rw [hc] at hrev hmem
     have hw2:walk h (c::r')=max (h-c) (c-h)+(c-minL c r'):=by rw [walk,walk_dn r' c hrev]
     have ha:=hr a (by simp)
     have hcm:=(hmem c).1 (by simp)
     have hc2:=hr c hcm
     have p1:=(List.pairwise_cons.1 hp).1
     have p2:=(List.pairwise_cons.1 hrev).1
     have hac:∀ x∈a::r,a≤x:=fun x hx=>by
      rcases List.mem_cons.1 hx with rfl | hx
      ·omega
      ·have:=p1 x hx;omega
     have hcc:∀ x∈a::r,x≤c:=fun x hx=>by
      rcases List.mem_cons.1 ((hmem x).2 hx) with rfl | hx
      ·omega
      ·have:=p2 x hx;omega
     have e1:maxL a r=c:=by
      have s:=maxL_spec r a
      refine Int.le_antisymm ?_ ?_
      ·rcases s.2.2 with h | h
       ·rw [h];exact hcc a (by simp)
       ·exact hcc _ (by simp [h])
      ·rcases List.mem_cons.1 hcm with h | h
       ·rw [h];exact s.1
       ·exact s.2.1 c h
     have e2:minL a r=a:=by
      have s:=minL_spec r a
      refine Int.le_antisymm s.1 ?_
      rcases s.2.2 with h | h
      ·rw [h];exact Int.le_refl _
      ·exact hac _ (by simp [h])
     have e3:minL c r'=a:=by
      have s:=minL_spec r' c
      refine Int.le_antisymm ?_ ?_
      ·rcases List.mem_cons.1 ((hmem a).2 (by simp)) with h | h
       ·rw [h];exact s.1
       ·exact s.2.1 a h
      ·rcases s.2.2 with h | h
       ·rw [h];exact hac _ hcm
       ·exact hac _ ((hmem _).1 (by simp [h]))
     have e4:minL h (a::r)=min h a:=(minL_min r h a).trans (by rw [e2])
     have e5:maxL h (a::r)=max h c:=(maxL_max r h a).trans (by rw [e1])
     have e6:nearer h (c::r') (a::r)=decide (max (h-c) (c-h)<max (h-a) (a-h)):=by
      show decide (farD h c<farD h a)=_
      rw [farD_eq hh hc2,farD_eq hh ha]
     have hle:=hcc a (by simp)
     rw [e6]
     unfold wayM
     rw [e4,e5]
     by_cases hn:max (h-c) (c-h)<max (h-a) (a-h)
     ·rw [if_pos (decide_eq_true hn),hw2,e3];omega
     ·rw [if_neg (by simpa using hn),hw1,e1];omega
theorem mem_upTo {want:List Int} {i:Nat} {x:Int}:x∈upTo want i↔∃ j:Nat,j<i∧0<ix want (j:Int)∧x=(j:Int):=by
 unfold upTo
 rw [List.mem_map]
 constructor
 ·rintro ⟨j,hj,rfl⟩
  obtain ⟨h1,h2⟩:=List.mem_filter.1 hj
  exact ⟨j,by simpa using h1,by simpa using h2,rfl⟩
 ·rintro ⟨j,h1,h2,rfl⟩
  exact ⟨j,List.mem_filter.2 ⟨by simpa using h1,by simpa using h2⟩,rfl⟩
theorem upTo_up (want:List Int) (i:Nat):(upTo want i).Pairwise (·<·):=by
 unfold upTo
 rw [List.pairwise_map]
 exact (List.pairwise_lt_range.filter _).imp fun h=>by omega
theorem want_mem {ps:List (Int×Int)} (hp:∀ p∈ps,0≤p.1∧p.1≤20) (x:Int):x∈upTo (wantL ps) 21↔x∈ps.map (·.1):=by
 have hg:∀ j:Nat,j<21→(0<ix (wantL ps) (j:Int)↔∃ p∈ps,p.1=(j:Int)):=fun j hj=>by
  have hl:j<(wantL ps).length:=by rw [wantL_len];exact hj
  rw [ix_nat hl,wantL_get]
  constructor
  ·intro h
   obtain ⟨p,hp⟩:=List.exists_mem_of_length_pos (l:=ps.filter fun p=>decide (p.1=(j:Int))) (by omega)
   obtain ⟨h1,h2⟩:=List.mem_filter.1 hp
   exact ⟨p,h1,by simpa using h2⟩
  ·rintro ⟨p,h1,h2⟩
   have:=List.length_pos_of_mem (l:=ps.filter fun p=>decide (p.1=(j:Int))) (List.mem_filter.2 ⟨h1,by simpa using h2⟩)
   omega
 rw [mem_upTo,List.mem_map]
 constructor
 ·rintro ⟨j,hj,h1,rfl⟩
  exact (hg j hj).1 h1
 ·rintro ⟨p,h1,rfl⟩
  have h2:=hp p h1
  exact ⟨p.1.toNat,by omega,(hg _ (by omega)).2 ⟨p,h1,by omega⟩,by omega⟩
def ordP (h:Int) (ps:List (Int×Int)):List Int:=if nearer h (upTo (wantL ps) 21).reverse (upTo (wantL ps) 21)=true then (upTo (wantL ps) 21).reverse else upTo (wantL ps) 21
theorem ordP_mem {h:Int} {ps:List (Int×Int)} (hp:∀ p∈ps,0≤p.1∧p.1≤20) (x:Int):x∈ordP h ps↔x∈ps.map (·.1):=by
 unfold ordP
 rw [←want_mem hp]
 split
 ·exact List.mem_reverse
 ·exact Iff.rfl
theorem ordP_nodup (h:Int) (ps:List (Int×Int)):(ordP h ps).Nodup:=by
 have h1:(upTo (wantL ps) 21).Nodup:=(upTo_up _ _).imp fun h=>by omega
 unfold ordP
 split
 ·exact List.pairwise_reverse.2 (h1.imp fun h=>Ne.symm h)
 ·exact h1
theorem ordP_len (h:Int) (ps:List (Int×Int)):(ordP h ps).length≤21:=by
 have:=upTo_len (wantL ps) 21
 unfold ordP
 split
 ·rw [List.length_reverse];exact this
 ·exact this
theorem upTo_nil {ps:List (Int×Int)} (hp:∀ p∈ps,0≤p.1∧p.1≤20):ps=[]↔upTo (wantL ps) 21=[]:=by
 constructor
 ·intro h
  refine List.eq_nil_iff_forall_not_mem.2 fun x hx=>?_
  have:=(want_mem hp x).1 hx
  rw [h] at this;cases this
 ·intro h
  refine List.eq_nil_iff_forall_not_mem.2 fun p hx=>?_
  have:=(want_mem hp p.1).2 (List.mem_map.2 ⟨p,hx,rfl⟩)
  rw [h] at this;cases this
theorem want_zero {ps:List (Int×Int)} (hp:∀ p∈ps,0≤p.1∧p.1≤20):wantL ps=List.replicate 21 0↔ps=[]:=by
 constructor
 ·intro h
  refine (upTo_nil hp).2 ?_
  refine List.eq_nil_iff_forall_not_mem.2 fun x hx=>?_
  obtain ⟨j,h1,h2,_⟩:=mem_upTo.1 hx
  rw [h,ix_nat (by simpa using h1),List.getElem_replicate] at h2
  omega
 ·rintro rfl;rfl
theorem orderL_eq {b:Bed} {ps:List (Int×Int)} {wl:List Int} (hp:∀ p∈ps,0≤p.1∧p.1≤20):orderL (b,ps,wl,wantL ps)=ordP b.2.2.1 ps:=by
 show (if wantL ps=List.replicate 21 0 then [] else ordP b.2.2.1 ps)=_
 by_cases h:wantL ps=List.replicate 21 0
 ·rw [if_pos h]
  have:=(upTo_nil hp).1 ((want_zero hp).1 h)
  unfold ordP
  rw [this]
  split <;> rfl
 ·rw [if_neg h]
theorem x74_eq {b:Bed} {ps:List (Int×Int)} {wl:List Int} (hp:∀ p∈ps,0≤p.1∧p.1≤20):x74 (b,ps,wl,wantL ps)=some (ordP b.2.2.1 ps):=by
 rw [x74,if_pos,orderL_eq hp]
 refine ⟨wantL_len ps,?_⟩
 by_cases h:wantL ps=List.replicate 21 0
 ·exact .inr h
 ·refine .inl ?_
  rcases Nat.eq_zero_or_pos (upTo (wantL ps) 21).length with h0 | h0
  ·exact absurd ((want_zero hp).2 ((upTo_nil hp).2 (List.eq_nil_of_length_eq_zero h0))) h
  ·exact h0
theorem ordP_way {h:Int} (hh:0≤h∧h≤20) {ps:List (Int×Int)} (hp:∀ p∈ps,0≤p.1∧p.1≤20):walk h (ordP h ps)=wayM h (ps.map (·.1)):=by
 rw [←wayM_set (want_mem hp) h]
 by_cases h0:upTo (wantL ps) 21=[]
 ·unfold ordP
  rw [h0]
  have:∀ b:Bool,walk h (if b=true then ([]:List Int).reverse else [])=wayM h []:=fun b=>by
   cases b <;> (unfold wayM walk minL maxL;simp;try omega)
  exact this _
 ·unfold ordP
  refine order_way (upTo_up _ _) h0 (fun x hx=>?_) (by omega)
  have:=(want_mem hp x).1 hx
  obtain ⟨p,h1,rfl⟩:=List.mem_map.1 this
  have:=hp p h1;omega
theorem x72_l1_eq {r:List Int} {k:Int→Option Int} (hl:r.length≤1000) (hr:∀ x∈r,0≤x∧x≤20):∀ (m i:Nat) (z s a:Int),z=i→i≤r.length→r.length-i<m→0≤s∧s≤20→0≤a∧a≤20*i→x72_l1 r k m s a z=k (a+walk s (r.drop i))
 | 0,i,_,_,_,_,_,h,_,_=>absurd h (by omega)
 | m+1,i,_,s,a,rfl,hi,hm,hs,ha=>by
   rw [x72_l1]
   by_cases hlt:i<r.length
   ·have h1:=hr _ (List.getElem_mem hlt)
    have e:x93 s (ix r (i:Int))=some (max (s-r[i]) (r[i]-s)):=by
     rw [ix_nat hlt];show some (farD s r[i])=_;rw [farD_eq (by omega) (by omega)]
    rw [iflt hlt,gdi hlt,e,Option.bind_some,w_succ i (by omega),ix_nat hlt,w_id (by omega),x72_l1_eq hl hr m (i+1) _ _ _ rfl (by omega) (by omega) h1 (by omega),List.drop_eq_getElem_cons hlt,walk,Int.add_assoc]
   ·obtain rfl:i=r.length:=by omega
    rw [ifge hlt,List.drop_length]
    show k a=k (a+0)
    rw [Int.add_zero]
theorem x72_eq {b:Bed} {ps:List (Int×Int)} {wl:List Int} (hh:0≤b.2.2.1∧b.2.2.1≤20) (hp:∀ p∈ps,0≤p.1∧p.1≤20):x72 (b,ps,wl,wantL ps)=some (wayM b.2.2.1 (ps.map (·.1))):=by
 have hl:=ordP_len b.2.2.1 ps
 have:=x72_l1_eq (r:=ordP b.2.2.1 ps) (k:=fun z=>some z) (by omega) (fun x hx=>by
  obtain ⟨p,h1,rfl⟩:=List.mem_map.1 ((ordP_mem hp x).1 hx)
  exact hp p h1) FU 0 0 b.2.2.1 0 rfl (Nat.zero_le _) (FU_lt (by omega)) hh (by omega)
 rw [List.drop_zero,ordP_way hh hp,Int.zero_add] at this
 rw [x72,x74_eq hp,Option.bind_some]
 exact this
theorem x73_l1_eq {ps:List (Int×Int)} {k:Int→Int→Option Int} (hl:ps.length≤1000):∀ (m i:Nat) (z s t:Int),z=i→i≤ps.length→ps.length-i<m→x73_l1 ps k m s t z=k (minL s ((ps.drop i).map (·.1))) (maxL t ((ps.drop i).map (·.1)))
 | 0,i,_,_,_,_,_,h=>absurd h (by omega)
 | m+1,i,_,s,t,rfl,hi,hm=>by
   rw [x73_l1]
   by_cases hlt:i<ps.length
   ·rw [iflt hlt,gdi hlt,gdi hlt,w_succ i (by omega),ix_nat hlt,x73_l1_eq hl m (i+1) _ _ _ rfl (by omega) (by omega),List.drop_eq_getElem_cons hlt]
    rfl
   ·obtain rfl:i=ps.length:=by omega
    rw [ifge hlt,List.drop_length]
    rfl
theorem heats_in {ps:List (Int×Int)} (hp:∀ p∈ps,0≤p.1∧p.1≤20) {h:Int} (hh:0≤h∧h≤20):0≤minL h (ps.map (·.1))∧minL h (ps.map (·.1))≤h∧h≤maxL h (ps.map (·.1))∧maxL h (ps.map (·.1))≤20:=by
 have h1:=minL_spec (ps.map (·.1)) h
 have h2:=maxL_spec (ps.map (·.1)) h
 have hm:∀ x∈ps.map (·.1),0≤x∧x≤20:=fun x hx=>by
  obtain ⟨p,h1,rfl⟩:=List.mem_map.1 hx
  exact hp p h1
 refine ⟨?_,h1.1,h2.1,?_⟩
 ·rcases h1.2.2 with h | h
  ·rw [h];exact hh.1
  ·exact (hm _ h).1
 ·rcases h2.2.2 with h | h
  ·rw [h];exact hh.2
  ·exact (hm _ h).2
theorem wayM_in {ps:List (Int×Int)} (hp:∀ p∈ps,0≤p.1∧p.1≤20) {h:Int} (hh:0≤h∧h≤20):0≤wayM h (ps.map (·.1))∧wayM h (ps.map (·.1))≤40:=by
 have:=heats_in hp hh
 unfold wayM;omega
theorem x73_eq {b:Bed} {ps:List (Int×Int)} (hl:ps.length≤1000) (hh:0≤b.2.2.1∧b.2.2.1≤20) (hp:∀ p∈ps,0≤p.1∧p.1≤20):x73 b ps=some (wayM b.2.2.1 (ps.map (·.1))):=by
 have h1:=x73_l1_eq (k:=fun z1 z2=>some (w ((w (z2-z1))+(min (w (b.2.2.1-z1)) (w (z2-b.2.2.1)))))) hl FU 0 0 b.2.2.1 b.2.2.1 rfl (Nat.zero_le _) (FU_lt (by omega))
 have h2:=heats_in hp hh
 rw [List.drop_zero] at h1
 rw [x73]
 refine h1.trans ?_
 unfold wayM
 rw [w_id (n:=maxL _ _-minL _ _) (by omega),w_id (n:=b.2.2.1-minL _ _) (by omega),w_id (n:=maxL _ _-b.2.2.1) (by omega),w_id (by omega)]
theorem x34_eq {b:Bed} (hb:bErr b=0) (hl:b.2.1.length≤20) {ps:List (Int×Int)} (hp:PsOk ps):x34 b ps=some (hSum (wn b) ps 21,0):=by
 have hB:=bedOk hb
 have hw:=wn_pos hB
 have h1:=hB.o1;have h10:=hB.o10
 rw [x34,x66_eB hl,Option.bind_some,eB_of hb hp,if_neg (by decide),x51_eq b (by omega) (by omega),Option.bind_some]
 have:=x71_eq hp (n:=wn b) (by omega)
 unfold wn at this ⊢
 rw [this];rfl
theorem x34_err {b:Bed} (hl:b.2.1.length≤20) {ps:List (Int×Int)} (he:eB b ps≠0):x34 b ps=some (0,eB b ps):=by
 rw [x34,x66_eB hl,Option.bind_some,if_pos (decide_eq_true he),Option.bind_some]

def x89 (i:Int) (c0:(List (Int×Int))) (c1:(List Int)):Option Bool :=
 gd (0≤i∧i<(c0.length:Int)) <|
 gd (0≤(0:Int)∧(0:Int)<(c1.length:Int)) <|
 gd (0≤(ix c1 (0:Int))∧(ix c1 (0:Int))<(c0.length:Int)) <|
 some (decide ((ix c0 i).1≠(ix c0 (ix c1 (0:Int))).1))

def x90 (i:Int) (c0:(List Int)):Option Bool :=
 gd (0≤i∧i<(c0.length:Int)) <|
 some (decide ((0:Int)<(ix c0 i)))

def x91_l1 (l:(List Int)) (better:(Int→Int→Option Bool)) (kl1_0:Int→Option Int):Nat→Int→Int→Option Int
 | 0,_,_=>none
 | m+1,s1,s2 =>
   if (decide (s2<((l.drop (1:Int).toNat).length:Int)))=true then
    gd (0≤s2∧s2<((l.drop (1:Int).toNat).length:Int)) <|
    (better (ix (l.drop (1:Int).toNat) s2) s1).bind fun r1 =>
    if r1=true then
     x91_l1 l better kl1_0 m (ix (l.drop (1:Int).toNat) s2) (w (s2+(1:Int)))
    else
     x91_l1 l better kl1_0 m s1 (w (s2+(1:Int)))
   else
    kl1_0 s1
def x91 (l:(List Int)) (better:(Int→Int→Option Bool)):Option Int :=
 gd (0≤(0:Int)∧(0:Int)<(l.length:Int)) <|
 gd (0≤(1:Int)∧(1:Int)≤(l.length:Int)) <|
 x91_l1 l better (fun z1 =>
   some z1) FU (ix l (0:Int)) (0:Int)

def x65_j2  (j1:Bool):Option ((Option ((Int×(List Int)×Int×Int)×(List (Int×Int))×(List Int)×(List Int)))×(List ((List Int)×Int×Int))×Int) :=
 if j1=true then
  some (none,[],(2:Int))
 else
  none
def x65_l1 (panels:(List (Int×Int))) (turns:(List (List Int))) (kl1_0:Unit→Option ((Option ((Int×(List Int)×Int×Int)×(List (Int×Int))×(List Int)×(List Int)))×(List ((List Int)×Int×Int))×Int)):Nat→Option ((Option ((Int×(List Int)×Int×Int)×(List (Int×Int))×(List Int)×(List Int)))×(List ((List Int)×Int×Int))×Int)
 | 0=>none
 | m+1 =>
   if (decide ((0:Int)<(turns.length:Int)))=true then
    gd (0≤(0:Int)∧(0:Int)<(turns.length:Int)) <|
    if (decide (((ix turns (0:Int)).length:Int)=(0:Int)))=true then
     x65_j2 true
    else
     (x61 (ix turns (0:Int)) (panels.length:Int)).bind fun r2 =>
     x65_j2 (!r2)
   else
    kl1_0 ()
def x65_j4 (panels:(List (Int×Int))) (turns:(List (List Int))) (p1:((Int×(List Int)×Int×Int)×(List (Int×Int))×(List Int)×(List Int))) (s4:Int) (s5:(List Int)) (kj4_0:Unit→Option ((Option ((Int×(List Int)×Int×Int)×(List (Int×Int))×(List Int)×(List Int)))×(List ((List Int)×Int×Int))×Int)) (j2:Bool):Option ((Option ((Int×(List Int)×Int×Int)×(List (Int×Int))×(List Int)×(List Int)))×(List ((List Int)×Int×Int))×Int) :=
 if j2=true then
  some (none,[],(2:Int))
 else
  if (decide ((p1.2.2.1.length:Int)<((ix turns s4).length:Int)))=true then
   some (none,[],(10:Int))
  else
   (x86 (ix turns s4) (fun y0=>x89 y0 panels (ix turns s4))).bind fun r3 =>
   if r3=true then
    some (none,[],(24:Int))
   else
    gd ((panels.length:Int).toNat=s5.length) <|
    (x86 (ix turns s4) (fun y0=>x90 y0 s5)).bind fun r4 =>
    if r4=true then
     some (none,[],(16:Int))
    else
     kj4_0 ()
def x65_l6 (panels:(List (Int×Int))) (turns:(List (List Int))) (s4:Int) (kl6_0:(List Int)→Option ((Option ((Int×(List Int)×Int×Int)×(List (Int×Int))×(List Int)×(List Int)))×(List ((List Int)×Int×Int))×Int)):Nat→Int→(List Int)→Option ((Option ((Int×(List Int)×Int×Int)×(List (Int×Int))×(List Int)×(List Int)))×(List ((List Int)×Int×Int))×Int)
 | 0,_,_=>none
 | m+1,s6,s7 =>
   if (decide (s6<((ix turns s4).length:Int)))=true then
    gd (0≤s6∧s6<((ix turns s4).length:Int)) <|
    gd (0≤(ix (ix turns s4) s6)∧(ix (ix turns s4) s6)<(((panels.length:Int).toNat:Nat):Int)∧(panels.length:Int).toNat=s7.length) <|
    gd (0≤(ix (ix turns s4) s6)∧(ix (ix turns s4) s6)<(((panels.length:Int).toNat:Nat):Int)∧(panels.length:Int).toNat=s7.length) <|
    x65_l6 panels turns s4 kl6_0 m (w (s6+(1:Int))) (s7.set (ix (ix turns s4) s6).toNat (w ((ix s7 (ix (ix turns s4) s6))+(1:Int))))
   else
    kl6_0 s7
def x65_j5 (panels:(List (Int×Int))) (turns:(List (List Int))) (p1:((Int×(List Int)×Int×Int)×(List (Int×Int))×(List Int)×(List Int))) (s1:(List ((List Int)×Int×Int))) (s2:Int) (s4:Int) (s5:(List Int)) (kj5_0:(List ((List Int)×Int×Int))→(List Int)→Option ((Option ((Int×(List Int)×Int×Int)×(List (Int×Int))×(List Int)×(List Int)))×(List ((List Int)×Int×Int))×Int))  : Option ((Option ((Int×(List Int)×Int×Int)×(List (Int×Int))×(List Int)×(List Int)))×(List ((List Int)×Int×Int))×Int) :=
 x65_l6 panels turns s4 (fun z1 =>
   gd (0≤(0:Int)∧(0:Int)<((ix turns s4).length:Int)) <|
   gd (0≤(ix (ix turns s4) (0:Int))∧(ix (ix turns s4) (0:Int))<(panels.length:Int)) <|
   (x91 (ix turns s4) (fun y0 y1=>x92 p1 y0 y1)).bind fun r5 =>
   gd (0≤r5∧r5<(panels.length:Int)) <|
   (x93 s2 ((ix panels (ix (ix turns s4) (0:Int))).1)).bind fun r6 =>
   gd ((s1.length+1)*40≤140737488355328) <|
   kj5_0 (s1++[((ix turns s4),(ix panels r5).2,r6)]) z1) FU (0:Int) s5
def x65_l3 (panels:(List (Int×Int))) (turns:(List (List Int))) (p1:((Int×(List Int)×Int×Int)×(List (Int×Int))×(List Int)×(List Int))) (kl3_0:(List ((List Int)×Int×Int))→Int→Option ((Option ((Int×(List Int)×Int×Int)×(List (Int×Int))×(List Int)×(List Int)))×(List ((List Int)×Int×Int))×Int)):Nat→(List ((List Int)×Int×Int))→Int→Int→Int→(List Int)→Option ((Option ((Int×(List Int)×Int×Int)×(List (Int×Int))×(List Int)×(List Int)))×(List ((List Int)×Int×Int))×Int)
 | 0,_,_,_,_,_=>none
 | m+1,s1,s2,s3,s4,s5 =>
   if (decide (s4<(turns.length:Int)))=true then
    gd (0≤s4∧s4<(turns.length:Int)) <|
    if (decide (((ix turns s4).length:Int)=(0:Int)))=true then
     x65_j4 panels turns p1 s4 s5 (fun _ =>
       x65_j5 panels turns p1 s1 s2 s4 s5 (fun z2 z3 =>
         x65_l3 panels turns p1 kl3_0 m z2 ((ix panels (ix (ix turns s4) (0:Int))).1) (w (s3+((ix turns s4).length:Int))) (w (s4+(1:Int))) z3)) true
    else
     (x61 (ix turns s4) (panels.length:Int)).bind fun r7 =>
     x65_j4 panels turns p1 s4 s5 (fun _ =>
       x65_j5 panels turns p1 s1 s2 s4 s5 (fun z2 z3 =>
         x65_l3 panels turns p1 kl3_0 m z2 ((ix panels (ix (ix turns s4) (0:Int))).1) (w (s3+((ix turns s4).length:Int))) (w (s4+(1:Int))) z3)) (!r7)
   else
    kl3_0 s1 s3
def x65 (b:(Int×(List Int)×Int×Int)) (panels:(List (Int×Int))) (turns:(List (List Int))):Option ((Option ((Int×(List Int)×Int×Int)×(List (Int×Int))×(List Int)×(List Int)))×(List ((List Int)×Int×Int))×Int) :=
 (x69 b panels).bind fun r1 =>
 match r1 with
 | (none,q1) =>
   if (decide (q1≠(0:Int)))=true then
    some (none,[],q1)
   else
    gd (0≤(panels.length:Int)∧(panels.length:Int)≤(panels.length:Int)∧(panels.length:Int).toNat*8≤140737488355328) <|
    x65_l1 panels turns (fun _ =>
      if (decide ((0:Int)<(panels.length:Int)))=true then
       some (none,[],(14:Int))
      else
       some (none,[],(0:Int))) FU
 | (some p1,q1) =>
   if (decide (q1≠(0:Int)))=true then
    some (none,[],q1)
   else
    gd (0≤(panels.length:Int)∧(panels.length:Int)≤(panels.length:Int)∧(panels.length:Int).toNat*8≤140737488355328) <|
    x65_l3 panels turns p1 (fun z4 z5 =>
      if (decide (z5<(panels.length:Int)))=true then
       some (none,[],(14:Int))
      else
       some ((some p1),z4,(0:Int))) FU ([]:List ((List Int)×Int×Int)) b.2.2.1 (0:Int) (0:Int) (List.replicate (panels.length:Int).toNat (0:Int))

def x26_l1 (q1:((List ((List Int)×Int×Int))×Int)) (kl1_0:Int→Int→Option (Int×Int×Int)):Nat→Int→Int→Int→Option (Int×Int×Int)
 | 0,_,_,_=>none
 | m+1,s1,s2,s3 =>
   if (decide (s3<(q1.1.length:Int)))=true then
    gd (0≤s3∧s3<(q1.1.length:Int)) <|
    x26_l1 q1 kl1_0 m (w (s1+(ix q1.1 s3).2.1)) (w (s2+(ix q1.1 s3).2.2)) (w (s3+(1:Int)))
   else
    kl1_0 s1 s2
def x26 (b:(Int×(List Int)×Int×Int)) (panels:(List (Int×Int))) (turns:(List (List Int))):Option (Int×Int×Int) :=
 (x65 b panels turns).bind fun r1 =>
 match r1 with
 | (none,q1) =>
   x26_l1 q1 (fun z1 z2 =>
     some (z1,z2,q1.2)) FU (0:Int) (0:Int) (0:Int)
 | (some p1,q1) =>
   x26_l1 q1 (fun z3 z4 =>
     some (z3,z4,q1.2)) FU (0:Int) (0:Int) (0:Int)

def x52 (a:Int) (b:Int):Option Int :=
 some (max (w (a-b)) (w (b-a)))

def x67_l2 (panels:(List (Int×Int))) (turns:(List (List Int))) (s2:Int) (kl2_0:Unit→Option Int):Nat→Int→Option Int
 | 0,_=>none
 | m+1,s3 =>
   if (decide (s3<((ix turns s2).length:Int)))=true then
    gd (0≤s3∧s3<((ix turns s2).length:Int)) <|
    gd (0≤(ix (ix turns s2) s3)∧(ix (ix turns s2) s3)<(panels.length:Int)) <|
    gd (0≤(0:Int)∧(0:Int)<((ix turns s2).length:Int)) <|
    gd (0≤(ix (ix turns s2) (0:Int))∧(ix (ix turns s2) (0:Int))<(panels.length:Int)) <|
    if (decide ((ix panels (ix (ix turns s2) s3)).1≠(ix panels (ix (ix turns s2) (0:Int))).1))=true then
     some (24:Int)
    else
     x67_l2 panels turns s2 kl2_0 m (w (s3+(1:Int)))
   else
    kl2_0 ()
def x67_l3 (turns:(List (List Int))) (s1:(List Int)) (s2:Int) (kl3_0:Unit→Option Int):Nat→Int→Option Int
 | 0,_=>none
 | m+1,s4 =>
   if (decide (s4<((ix turns s2).length:Int)))=true then
    gd (0≤s4∧s4<((ix turns s2).length:Int)) <|
    (x53 s1 (ix (ix turns s2) s4)).bind fun r3 =>
    if r3=true then
     some (16:Int)
    else
     x67_l3 turns s1 s2 kl3_0 m (w (s4+(1:Int)))
   else
    kl3_0 ()
def x67_l1 (b:(Int×(List Int)×Int×Int)) (panels:(List (Int×Int))) (turns:(List (List Int))) (kl1_0:(List Int)→Option Int):Nat→(List Int)→Int→Option Int
 | 0,_,_=>none
 | m+1,s1,s2 =>
   if (decide (s2<(turns.length:Int)))=true then
    gd (0≤s2∧s2<(turns.length:Int)) <|
    if (decide (((ix turns s2).length:Int)=(0:Int)))=true then
     some (2:Int)
    else
     (x62 (ix turns s2) (panels.length:Int)).bind fun r1 =>
     if r1=true then
      (x51 b).bind fun r2 =>
      if (decide ((r2.length:Int)<((ix turns s2).length:Int)))=true then
       some (10:Int)
      else
       x67_l2 panels turns s2 (fun _ =>
         x67_l3 turns s1 s2 (fun _ =>
           gd ((s1.length+(ix turns s2).length)*8≤140737488355328) <|
           x67_l1 b panels turns kl1_0 m (s1++(ix turns s2)) (w (s2+(1:Int)))) FU (0:Int)) FU (0:Int)
     else
      some (2:Int)
   else
    kl1_0 s1
def x67 (b:(Int×(List Int)×Int×Int)) (panels:(List (Int×Int))) (turns:(List (List Int))):Option Int :=
 x67_l1 b panels turns (fun z1 =>
   if (decide ((z1.length:Int)<(panels.length:Int)))=true then
    some (14:Int)
   else
    some (0:Int)) FU ([]:List Int) (0:Int)

def x68_l1 (panels:(List (Int×Int))) (turn:(List Int)) (kl1_0:Int→Option Int):Nat→Int→Int→Option Int
 | 0,_,_=>none
 | m+1,s1,s2 =>
   if (decide (s2<(turn.length:Int)))=true then
    gd (0≤s2∧s2<(turn.length:Int)) <|
    gd (0≤(ix turn s2)∧(ix turn s2)<(panels.length:Int)) <|
    x68_l1 panels turn kl1_0 m (max s1 ((ix panels (ix turn s2)).2)) (w (s2+(1:Int)))
   else
    kl1_0 s1
def x68 (panels:(List (Int×Int))) (turn:(List Int)):Option Int :=
 x68_l1 panels turn (fun z1 =>
   some z1) FU (0:Int) (0:Int)

def x27_l1 (panels:(List (Int×Int))) (turns:(List (List Int))) (kl1_0:Int→Int→Option (Int×Int×Int)):Nat→Int→Int→Int→Int→Option (Int×Int×Int)
 | 0,_,_,_,_=>none
 | m+1,s1,s2,s3,s4 =>
   if (decide (s4<(turns.length:Int)))=true then
    gd (0≤s4∧s4<(turns.length:Int)) <|
    gd (0≤(0:Int)∧(0:Int)<((ix turns s4).length:Int)) <|
    gd (0≤(ix (ix turns s4) (0:Int))∧(ix (ix turns s4) (0:Int))<(panels.length:Int)) <|
    gd (0≤s4∧s4<(turns.length:Int)) <|
    (x68 panels (ix turns s4)).bind fun r5 =>
    (x52 s3 ((ix panels (ix (ix turns s4) (0:Int))).1)).bind fun r6 =>
    x27_l1 panels turns kl1_0 m (w (s1+r5)) (w (s2+r6)) ((ix panels (ix (ix turns s4) (0:Int))).1) (w (s4+(1:Int)))
   else
    kl1_0 s1 s2
def x27 (b:(Int×(List Int)×Int×Int)) (panels:(List (Int×Int))) (turns:(List (List Int))):Option (Int×Int×Int) :=
 (x66 b panels).bind fun r1 =>
 if (decide (r1≠(0:Int)))=true then
  (x66 b panels).bind fun r2 =>
  some ((0:Int),(0:Int),r2)
 else
  (x67 b panels turns).bind fun r3 =>
  if (decide (r3≠(0:Int)))=true then
   (x67 b panels turns).bind fun r4 =>
   some ((0:Int),(0:Int),r4)
  else
   x27_l1 panels turns (fun z1 z2 =>
     some (z1,z2,(0:Int))) FU (0:Int) (0:Int) b.2.2.1 (0:Int)

def heatT (ps:List (Int×Int)) (t:List Int):Int:=(ix ps (ix t 0)).1
def hourT (ps:List (Int×Int)) (t:List Int):Int:=maxL 0 (t.map fun x=>(ix ps x).2)
theorem ix0_mem {t:List Int} (h:0<t.length):ix t 0∈t:=by
 rw [show (0:Int)=((0:Nat):Int) from rfl,ix_nat h];exact List.getElem_mem _
structure TOk (n:Nat) (ps:List (Int×Int)) (dn:List Int) (ts:List (List Int)):Prop where
 ne:∀ t∈ts,0<t.length
 rng:∀ t∈ts,∀ x∈t,0≤x∧x<(ps.length:Int)
 up:∀ t∈ts,t.Pairwise (·<·)
 len:∀ t∈ts,t.length≤n
 heat:∀ t∈ts,∀ x∈t,(ix ps x).1=heatT ps t
 nd:(dn++ts.flatten).Nodup
 all:ps.length≤(dn++ts.flatten).length
def tHours (ps:List (Int×Int)) (ts:List (List Int)):Int:=(ts.map (hourT ps)).sum
theorem ixps_mem {ps:List (Int×Int)} {x:Int} (h:0≤x∧x<(ps.length:Int)):ix ps x∈ps:=by rw [ix_of h];exact List.getElem_mem _
theorem hourT_in {ps:List (Int×Int)} (hp:hrsOk ps) {t:List Int} (hr:∀ x∈t,0≤x∧x<(ps.length:Int)):0≤hourT ps t∧hourT ps t≤24:=by
 have h1:=maxL_spec (t.map fun x=>(ix ps x).2) 0
 unfold hourT
 refine ⟨h1.1,?_⟩
 rcases h1.2.2 with h | h
 ·rw [h];omega
 ·obtain ⟨x,hx,e⟩:=List.mem_map.1 h
  have:=hp _ (ixps_mem (hr x hx))
  rw [←e];exact this.2
theorem heatT_in {ps:List (Int×Int)} (hp:PsOk ps) {t:List Int} (h0:0<t.length) (hr:∀ x∈t,0≤x∧x<(ps.length:Int)):0≤heatT ps t∧heatT ps t≤20:=hp.heat _ (ixps_mem (hr _ (ix0_mem h0)))

def sortU (l:List Int):List Int:=(Sort.insertionSort Sort.ltInt l.toArray 0 l.length).toList
theorem insS_len (lt:Int→Int→Bool) (d:Array Int) (a b:Nat):(Sort.insertionSort lt d a b).size=d.size:=by
 have hI:∀ (j:Nat) (d:Array Int),(Sort.insInner lt a j d).size=d.size:=fun j=>by
  induction j with
  | zero=>intro d;rfl
  | succ j ih =>
    intro d
    rw [Sort.insInner]
    split
    ·rw [ih,swp_size]
    ·rfl
 show (Sort.insOuter lt a b (a+1) d).size=d.size
 have:∀ (n i:Nat) (d:Array Int),b-i=n→(Sort.insOuter lt a b i d).size=d.size:=fun n=>by
  induction n with
  | zero=>intro i d h;rw [Sort.insOuter.eq_1,if_neg (by omega)]
  | succ n ih=>intro i d h;rw [Sort.insOuter.eq_1,if_pos (by omega),ih _ _ (by omega),hI]
 exact this _ _ d rfl
def x77 (l:List Int):Option (List Int):=if 0<l.length∧l.length≤12 then some (sortU l) else none

def x78 (s:(List Int)):Option Unit :=
 some ()

def x37_r1  (t1:(List (List Int))) (e1:(List Int)):Option ((List (List Int))) :=
 gd ((t1.length:Int)=(t1.length:Int)∧0≤(t1.length:Int)∧(t1.length:Int)≤(t1.length:Int)) <|
 (x78 e1).bind fun r5 =>
 (x77 e1).bind fun r6 =>
 gd ((1≠0)∧((t1.take (t1.length:Int).toNat).length+1)*24≤140737488355328) <|
 some ((t1.take (t1.length:Int).toNat)++[r6])
def x37_l1 (p1:((Int×(List Int)×Int×Int)×(List (Int×Int))×(List Int)×(List Int))) (r2:(List Int)) (kl1_0:(List (List Int))→Option ((List (List Int))×Int)):Nat→Int→(List (List Int))→Option ((List (List Int))×Int)
 | 0,_,_=>none
 | m+1,s1,s2 =>
   if (decide (s1<(r2.length:Int)))=true then
    gd (0≤s1∧s1<(r2.length:Int)) <|
    (x76 p1 (ix r2 s1)).bind fun r3 =>
    (x75 r3 (p1.2.2.1.length:Int)).bind fun r4 =>
    (s98 r3 (p1.2.2.1.length:Int)).bind fun l1 =>
    (foldO x37_r1 l1 s2).bind fun r7 =>
    x37_l1 p1 r2 kl1_0 m (w (s1+(1:Int))) r7
   else
    kl1_0 s2
def x37 (b:(Int×(List Int)×Int×Int)) (panels:(List (Int×Int))):Option ((List (List Int))×Int) :=
 (x69 b panels).bind fun r1 =>
 match r1 with
 | (none,q1) =>
   if (decide (q1≠(0:Int)))=true then
    some ([],q1)
   else
    none
 | (some p1,q1) =>
   if (decide (q1≠(0:Int)))=true then
    some ([],q1)
   else
    (x74 p1).bind fun r2 =>
    x37_l1 p1 r2 (fun z1 =>
      some (z1,(0:Int))) FU (0:Int) ([]:List (List Int))

end Go.Proofs.YtbnbjjgagikobaaGreat.Ab


namespace Go.Proofs.YtbnbjjgagikobaaGreat.Ab
open Go
set_option maxRecDepth 20000
set_option maxHeartbeats 4000000
def x5 (b:(Int×(List Int)×Int×Int)) (panels:(List (Int×Int))):Option Bool :=
 (x16 b panels).bind fun r1 =>
 if r1=true then
  (x17).bind fun r2 =>
  some r2
 else
  (x33 b panels).bind fun r3 =>
  (x34 b panels).bind fun r4 =>
  (x35 b panels).bind fun r5 =>
  (x36 b panels).bind fun r6 =>
  (x37 b panels).bind fun r7 =>
  if (decide (r3.1≠r4.1))=true then
   some false
  else
   if (decide (r3.2≠r4.2))=true then
    some false
   else
    if (decide (r5.1≠r6.1))=true then
     some false
    else
     if (decide (r5.2≠r6.2))=true then
      some false
     else
      if (decide (r7.2≠r4.2))=true then
       some false
      else
       (x25 r7.1).bind fun r8 =>
       if r8=true then
        some false
       else
        if (decide (r4.2≠(0:Int)))=true then
         if (decide ((r7.1.length:Int)=(0:Int)))=true then
          (x17).bind fun r9 =>
          some r9
         else
          some false
        else
         (x27 b panels r7.1).bind fun r10 =>
         if (decide (r10.2.2=(0:Int)))=true then
          if (decide (r10.1=r4.1))=true then
           if (decide (r10.2.1=r6.1))=true then
            (x17).bind fun r11 =>
            some r11
           else
            some false
          else
           some false
         else
          some false

theorem swo_up:Sort.SWO Sort.ltInt:=by
 constructor <;> intros <;> simp_all [Sort.ltInt] <;> omega
theorem sortU_perm (l:List Int):(sortU l).Perm l:=by
 obtain ⟨⟨h1,_,h3⟩,_⟩:=Sort.insertionSort_holds (lt:=Sort.ltInt) swo_up l.toArray 0 l.length (Nat.zero_le _) (by simp)
 unfold sortU
 generalize Sort.insertionSort Sort.ltInt l.toArray 0 l.length=d at h1 h3
 have e1:(d.extract 0 l.length).toList=d.toList:=by
  have:l.length=d.size:=by rw [h1];simp
  rw [this];simp
 have e2:(l.toArray.extract 0 l.length).toList=l:=by simp
 rwa [e1,e2] at h3
theorem sortU_len (l:List Int):(sortU l).length=l.length:=(sortU_perm l).length_eq
theorem sortU_mem (l:List Int) (x:Int):x∈sortU l↔x∈l:=(sortU_perm l).mem_iff
theorem sortU_up {l:List Int} (hn:l.Nodup):(sortU l).Pairwise (·<·):=by
 have hn2:(sortU l).Nodup:=(sortU_perm l).nodup_iff.2 hn
 obtain ⟨⟨h1,_,_⟩,h4⟩:=Sort.insertionSort_holds (lt:=Sort.ltInt) swo_up l.toArray 0 l.length (Nat.zero_le _) (by simp)
 rw [List.pairwise_iff_getElem]
 intro i j hi hj hij
 have hl:=sortU_len l
 have hs:(Sort.insertionSort Sort.ltInt l.toArray 0 l.length).size=l.length:=by rw [h1];simp
 have h5:=h4 i j (Nat.zero_le _) (by omega) (by omega)
 rw [getElem!_pos _ i (by omega),getElem!_pos _ j (by omega)] at h5
 have h6:(sortU l)[i]≤(sortU l)[j]:=by
  have g:∀ k (hk:k<(sortU l).length),(sortU l)[k]=(Sort.insertionSort Sort.ltInt l.toArray 0 l.length)[k]'(by omega):=fun k hk=>rfl
  rw [g i hi,g j hj]
  simp only [Sort.ltInt,decide_eq_false_iff_not] at h5
  omega
 have h7:=List.pairwise_iff_getElem.1 hn2 i j hi hj hij
 omega
theorem chunk_eq {n:Nat} {l e:List Int} (h:e∈chunks n l):∃ j,e=(l.drop (j*n)).take n:=by
 obtain ⟨j,_,rfl⟩:=List.mem_map.1 h
 exact ⟨j,rfl⟩
theorem chunk_sub {n:Nat} {l e:List Int} (h:e∈chunks n l):e.Sublist l:=by
 obtain ⟨j,rfl⟩:=chunk_eq h
 exact (List.take_sublist _ _).trans (List.drop_sublist _ _)
theorem ofL_perm (ps:List (Int×Int)) (h:Int):(ofL ps h).Perm (idxs ps h):=by
 have hS:Sort.SWO (longer ps):=by
  constructor <;> intros <;> simp_all [longer] <;> omega
 obtain ⟨⟨h1,_,h3⟩,_⟩:=Sort.insertionSort_holds (lt:=longer ps) hS (idxs ps h).toArray 0 (idxs ps h).length (Nat.zero_le _) (by simp)
 unfold ofL
 generalize Sort.insertionSort (longer ps) (idxs ps h).toArray 0 (idxs ps h).length=d at h1 h3
 have e1:(d.extract 0 (idxs ps h).length).toList=d.toList:=by
  have:(idxs ps h).length=d.size:=by rw [h1];simp
  rw [this];simp
 have e2:((idxs ps h).toArray.extract 0 (idxs ps h).length).toList=idxs ps h:=by simp
 rwa [e1,e2] at h3
theorem idxs_mem {ps:List (Int×Int)} {h x:Int}:x∈idxs ps h↔(0≤x∧x<(ps.length:Int))∧(ix ps x).1=h:=by
 unfold idxs wants
 rw [List.mem_map]
 constructor
 ·rintro ⟨i,hi,rfl⟩
  obtain ⟨h1,h2⟩:=List.mem_filter.1 hi
  have h1:=List.mem_range.1 h1
  exact ⟨by omega,of_decide_eq_true h2⟩
 ·rintro ⟨h1,h2⟩
  have e:((x.toNat:Nat):Int)=x:=by omega
  exact ⟨x.toNat,List.mem_filter.2 ⟨List.mem_range.2 (by omega),by rw [e];exact decide_eq_true h2⟩,e⟩
theorem idxs_nodup (ps:List (Int×Int)) (h:Int):(idxs ps h).Nodup:=by
 unfold idxs
 rw [List.nodup_iff_pairwise_ne,List.pairwise_map]
 exact (List.nodup_range.filter _).imp fun h e=>h (by omega)
theorem ofL_mem {ps:List (Int×Int)} {h x:Int}:x∈ofL ps h↔(0≤x∧x<(ps.length:Int))∧(ix ps x).1=h:=by
 rw [(ofL_perm ps h).mem_iff,idxs_mem]
theorem ofL_nodup (ps:List (Int×Int)) (h:Int):(ofL ps h).Nodup:=(ofL_perm ps h).nodup_iff.2 (idxs_nodup ps h)
def turnsOf (n:Nat) (ps:List (Int×Int)) (h:Int):List (List Int):=(chunks n (ofL ps h)).map sortU
def turnsL (n:Nat) (ps:List (Int×Int)) (l:List Int):List (List Int):=(l.map (turnsOf n ps)).flatten
theorem turnsL_cons (n:Nat) (ps:List (Int×Int)) (h:Int) (l:List Int):turnsL n ps (h::l)=turnsOf n ps h++turnsL n ps l:=rfl
theorem hourT_set {ps:List (Int×Int)} {t e:List Int} (h:∀ x,x∈t↔x∈e):hourT ps t=hourT ps e:=by
 unfold hourT
 refine maxL_set (fun x=>?_) 0
 rw [List.mem_map,List.mem_map]
 exact ⟨fun ⟨y,hy,e⟩=>⟨y,(h y).1 hy,e⟩,fun ⟨y,hy,e⟩=>⟨y,(h y).2 hy,e⟩⟩
theorem maxL_head {a:Int} {r:List Int} (ha:0≤a) (h:∀ x∈r,x≤a):maxL 0 (a::r)=a:=by
 have s:=maxL_spec (a::r) 0
 refine Int.le_antisymm ?_ (s.2.1 a (by simp))
 rcases s.2.2 with h1 | h1
 ·omega
 ·rcases List.mem_cons.1 h1 with h2 | h2
  ·omega
  ·exact h _ h2
theorem chunk_hour {n:Nat} (hn:0<n) {ps:List (Int×Int)} (hp:hrsOk ps) {h:Int} {e:List Int} (he:e∈chunks n (ofL ps h)):hourT ps (sortU e)=(ix ps (e.headD 0)).2:=by
 rw [hourT_set (sortU_mem e)]
 have hs:(e.map fun x=>(ix ps x).2).Pairwise (fun a b=>b≤a):=by
  have h1:((ofL ps h).map fun x=>(ix ps x).2).Pairwise (fun a b=>b≤a):=by
   rw [ofL_hrs];exact down_sorted fun x hx=>(hrs_in hp h x hx).1
  exact h1.sublist ((chunk_sub he).map _)
 have hne:=chunk_ne hn he
 have hm:=chunk_mem he
 cases e with
 | nil=>exact absurd rfl hne
 | cons a r =>
   have ha:=(ofL_mem.1 (hm a (by simp))).1
   have:=hp _ (ixps_mem ha)
   exact maxL_head this.1 (List.pairwise_cons.1 hs).1
theorem tHours_app (ps:List (Int×Int)) (a b:List (List Int)):tHours ps (a++b)=tHours ps a+tHours ps b:=by
 unfold tHours;rw [List.map_append,List.sum_append]
theorem turnsOf_hours {n:Nat} (hn:0<n) {ps:List (Int×Int)} (hp:hrsOk ps) (h:Int):tHours ps (turnsOf n ps h)=hH n (hrs ps h):=by
 rw [←sum_heads n hn ps h]
 unfold tHours turnsOf
 rw [List.map_map]
 congr 1
 exact List.map_congr_left fun e he=>chunk_hour hn hp he
theorem turnsL_sum {n:Nat} (hn:0<n) {ps:List (Int×Int)} (hp:hrsOk ps):∀ l:List Int,tHours ps (turnsL n ps l)=(l.map fun h=>hH n (hrs ps h)).sum
 | []=>rfl
 | h::l=>by rw [turnsL_cons,tHours_app,turnsOf_hours hn hp,turnsL_sum hn hp l,List.map_cons,List.sum_cons]
theorem sum_filter0 {f:Nat→Int} {p:Nat→Bool}:∀ l:List Nat,(∀ x∈l,p x=false→f x=0)→((l.filter p).map f).sum=(l.map f).sum
 | [],_=>rfl
 | a::l,h=>by
   have ih:=sum_filter0 l fun x hx=>h x (by simp [hx])
   cases hp:p a with
   | true=>rw [List.filter_cons_of_pos hp,List.map_cons,List.map_cons,List.sum_cons,List.sum_cons,ih]
   | false=>rw [List.filter_cons_of_neg (by simp [hp]),List.map_cons,List.sum_cons,ih,h a (by simp) hp,Int.zero_add]
theorem turnsL_hours {n:Nat} (hn:0<n) {ps:List (Int×Int)} (hp:PsOk ps) (h:Int):tHours ps (turnsL n ps (ordP h ps))=hSum n ps 21:=by
 rw [turnsL_sum hn hp.hrs]
 have h1:((upTo (wantL ps) 21).map fun h=>hH n (hrs ps h)).sum=hSum n ps 21:=by
  unfold upTo hSum
  rw [List.map_map]
  refine sum_filter0 _ fun x hx hf=>?_
  have hx:=List.mem_range.1 hx
  have h2:(x:Int) ∉ ps.map (·.1):=fun hm=>by
   obtain ⟨j,_,h3,h4⟩:=mem_upTo.1 ((want_mem hp.heat _).2 hm)
   rw [←h4] at h3
   exact absurd (decide_eq_true h3) (by rw [hf];decide)
  show hH n (hrs ps (x:Int))=0
  have h3:hrs ps (x:Int)=[]:=by
   unfold hrs
   rw [List.map_eq_nil_iff,List.filter_eq_nil_iff]
   intro p hp e
   exact h2 (List.mem_map.2 ⟨p,hp,of_decide_eq_true e⟩)
  rw [h3,hH_nil n hn]
 unfold ordP
 split
 ·rw [←h1]
  exact perm_sum ((List.reverse_perm _).map _)
 ·exact h1
theorem len_flat:∀ L:List (List Int),L.flatten.length=(L.map List.length).sum
 | []=>rfl
 | e::L=>by rw [List.flatten_cons,List.length_append,len_flat L,List.map_cons,List.sum_cons]
theorem cnt_flat:∀ L:List (List Int),(∀ t∈L,0<t.length)→L.length≤L.flatten.length
 | [],_=>Nat.le_refl _
 | e::L,h=>by
   have h1:=(List.forall_mem_cons.1 h).1
   have h2:=cnt_flat L (List.forall_mem_cons.1 h).2
   rw [List.flatten_cons,List.length_append,List.length_cons];omega
theorem len_of_flat {L:List (List Int)} {t:List Int} (h:t∈L):t.length≤L.flatten.length:=by
 rw [len_flat]
 induction L with
 | nil=>cases h
 | cons e L ih =>
   rw [List.map_cons,List.sum_cons]
   rcases List.mem_cons.1 h with rfl | h
   ·omega
   ·have:=ih h;omega
theorem TOk.flat {n:Nat} {ps:List (Int×Int)} {ts:List (List Int)} (h:TOk n ps [] ts):ts.flatten.length=ps.length:=by
 have h1:=h.all
 have h2:=h.nd
 rw [List.nil_append] at h1 h2
 refine Nat.le_antisymm ?_ h1
 have:=pig ts.flatten ((List.range ps.length).map fun (i:Nat)=>(i:Int)) h2 fun x hx=>by
  obtain ⟨t,ht,hxt⟩:=List.mem_flatten.1 hx
  have:=h.rng t ht x hxt
  exact List.mem_map.2 ⟨x.toNat,List.mem_range.2 (by omega),by omega⟩
 simpa using this
theorem TOk.cnt {n:Nat} {ps:List (Int×Int)} {ts:List (List Int)} (h:TOk n ps [] ts):ts.length≤ps.length:=by
 have:=cnt_flat ts h.ne;rw [h.flat] at this;exact this
theorem TOk.one {n:Nat} {ps:List (Int×Int)} {ts:List (List Int)} (h:TOk n ps [] ts):∀ t∈ts,t.length≤ps.length:=fun t ht=>by
 have:=len_of_flat ht;rw [h.flat] at this;exact this

noncomputable def xrc43_1:RC :=
 .loop (some [o_,i_,i_,i_,o_,o_,o_,o_,i_,o_,o_,o_,o_,o_,o_,o_,o_,o_,o_,o_,o_,o_,o_,o_,o_,o_,o_,o_,o_,o_,o_,o_,o_,o_,o_,o_,o_,o_]) (.seq (.seq (.reg false [I_ 18 [.sl 8] .mv,I_ 19 [.sl 1] .mv,I_ 20 [.tk 19] .lenS,I_ 21 [.cv (.int .i64 1),.tk 20] .max,I_ 22 [.tv 18,.tv 21] (.bin .leq)]) (.cond (.sl 22)
 .skip (.exit 0))) (.seq (.block 1 (.seq (.reg true [I_ 25 [.sl 1] .mv,I_ 26 [.sl 8] .mv,I_ 27 [.cv (.func 71 [] []),.sl 25,.sl 26] (.call 3),I_ 28 [.sl 3] (.fa 3),I_ 29 [.tv 28] (.ld .one),I_ 30 [.sl 3] (.ld (.str 4)),
 I_ 31 [.sl 1] .mv,I_ 32 [.cv (.func 73 [] []),.sl 30,.sl 31] (.call 3),I_ 33 [.tv 29,.tv 32] (.bin .mul),I_ 34 [.tv 27,.tv 33] (.bin .add),I_ 35 [.sl 2] .mv,I_ 36 [.tv 34,.tv 35] (.bin .leq)]) (.cond (.sl 36) (.seq
 (.reg false [I_ 37 [.tk 8] .mv,I_ 6 [.tk 37] .mv,I_ 7 [.cv (.int .i64 0)] .mv]) .ret) .skip))) (.reg false [I_ 23 [.tk 8] .mv,I_ 24 [.tv 23,.cv (.int .i64 1)] (.bin .add),I_ 8 [.tk 24] .mv])))
noncomputable def xrc43:RC :=
 .seq (.reg false [I_ 3 [.tk 0] .box,I_ 6 [.cv (.int .i64 0)] .mv,I_ 7 [.cv (.int .i64 0)] .mv]) (.seq (.seq (.reg false [I_ 9 [.sl 3] (.ld (.str 4)),I_ 10 [.sl 1] .mv,I_ 11 [.cv (.func 66 [] []),.sl 9,.sl 10] (.call 3),I_
 12 [.tv 11,.cv (.int .i64 0)] (.bin .neq)]) (.cond (.sl 12) (.seq (.reg false [I_ 13 [.tv 3] (.ld (.str 4)),I_ 14 [.tk 1] .mv,I_ 15 [.cv (.func 66 [] []),.sl 13,.sl 14] (.call 3),I_ 6 [.cv (.int .i64 0)] .mv,I_ 7 [.tk
 15] .mv]) .ret) .skip)) (.seq (.seq (.reg false [I_ 16 [.sl 2] .mv,I_ 17 [.tv 16,.cv (.int .i64 0)] (.bin .lss)]) (.cond (.sl 17) (.seq (.reg false [I_ 6 [.cv (.int .i64 0)] .mv,I_ 7 [.cv (.int .i64 2)] .mv]) .ret) .skip))
 (.seq (.seq (.reg false [I_ 8 [.cv (.int .i64 1)] .mv]) (.block 0 xrc43_1)) (.seq (.reg false [I_ 6 [.cv (.int .i64 0)] .mv,I_ 7 [.cv (.int .i64 5)] .mv]) .ret))))
theorem lxx43:linkF Tryz.prog ann43 43=some (xrc43,38,[.tmp 6,.tmp 7]):=by kernel_rfl
def x43_l1 (b:(Int×(List Int)×Int×Int)) (panels:(List (Int×Int))) (hours:Int) (kl1_0:Unit→Option (Int×Int)):Nat→Int→Option (Int×Int)
 | 0,_=>none
 | m+1,s1 =>
   if (decide (s1≤(max (1:Int) (panels.length:Int))))=true then
    (x71 panels s1).bind fun r3 =>
    (x73 b panels).bind fun r4 =>
    if (decide ((w (r3+(w (b.2.2.2*r4))))≤hours))=true then
     some (s1,(0:Int))
    else
     x43_l1 b panels hours kl1_0 m (w (s1+(1:Int)))
   else
    kl1_0 ()
def x43 (b:(Int×(List Int)×Int×Int)) (panels:(List (Int×Int))) (hours:Int):Option (Int×Int) :=
 (x66 b panels).bind fun r1 =>
 if (decide (r1≠(0:Int)))=true then
  (x66 b panels).bind fun r2 =>
  some ((0:Int),r2)
 else
  if (decide (hours<(0:Int)))=true then
   some ((0:Int),(2:Int))
  else
   x43_l1 b panels hours (fun _ =>
     some ((0:Int),(5:Int))) FU (1:Int)
theorem x43_l1_ok {b:(Int×(List Int)×Int×Int)} {panels:(List (Int×Int))} {hours:Int} {kl1_0:Unit→Option (Int×Int)} {s1:Int} {v:(Int×Int)} {Q:Ex→List AV→List AObj→Prop}   (hR:∀ T H,RetW [.tmp 6,.tmp 7] (.tuple [(I v.1),(I v.2)]) .ret T H→Q .ret T H) (hkl1_0:∀ (u0:AV) (u1:AV) (u2:AV) (u3:AV) (u6:AV) (u7:AV) (u8:AV) (u9:AV) (u10:AV) (u11:AV) (u12:AV) (u13:AV) (u14:AV) (u15:AV) (u16:AV) (u17:AV) (u18:AV) (u19:AV) (u20:AV) (u21:AV) (u22:AV) (u23:AV) (u24:AV) (u25:AV) (u26:AV) (u27:AV) (u28:AV) (u29:AV) (u30:AV) (u31:AV) (u32:AV) (u33:AV) (u34:AV) (u35:AV) (u36:AV) (u37:AV) (o1:AObj),kl1_0 ()=some v→Q (.exit 0) [u0,u1,u2,u3,J,J,u6,u7,u8,u9,u10,u11,u12,u13,u14,u15,u16,u17,u18,u19,u20,u21,u22,u23,u24,u25,u26,u27,u28,u29,u30,u31,u32,u33,u34,u35,u36,u37] [o1]) {T:List AV} (hT:zipKeep [o_,i_,i_,i_,o_,o_,o_,o_,i_,o_,o_,o_,o_,o_,o_,o_,o_,o_,o_,o_,o_,o_,o_,o_,o_,o_,o_,o_,o_,o_,o_,o_,o_,o_,o_,o_,o_,o_] T=slots 38 [(1,(.lst (panels.flatMap pr) panels.length .shared)),(2,(I hours)),(3,(.ptr 0 0)),(8,(I s1))]) (h:x43_l1 b panels hours kl1_0 FU s1=some v) :
  wpR Tryz.prog ann43 43 0 none xrc43_1 T [AObj.cells [(I b.1),(.lst (b.2.1.map I) b.2.1.length .shared),(I b.2.2.1),(I b.2.2.2)]] Q:=by
 unfold xrc43_1
 skip
 refine wp_loop hT ?_
 refine .intro (fun m T H=>∃ (s1:Int),T=slots 38 [(1,(.lst (panels.flatMap pr) panels.length .shared)),(2,(I hours)),(3,(.ptr 0 0)),(8,(I s1))]∧H=[AObj.cells [(I b.1),(.lst (b.2.1.map I) b.2.1.length .shared),(I b.2.2.1),(I b.2.2.2)]]∧x43_l1 b panels hours kl1_0 m s1=some v) FU ⟨s1,rfl,rfl,h⟩ ?_
 clear h hT
 rintro m T H ⟨s1,rfl,rfl,h⟩
 cases m
 ·exact none_ne h
 rename_i m
 rw [x43_l1.eq_2] at h
 conv=>whnf
 rcases bt (decide (s1≤(max (1:Int) (panels.length:Int)))) with hb5 | hb5
 ·rw [hb5]
  conv=>whnf
  replace h:=it_t hb5 h
  obtain ⟨r3,hb6,h⟩:=bd_some h
  refine ⟨(allc (pu_flat (fun _=>(allc rfl (allc rfl rfl))) _ _ _) (allc rfl rfl)),_,x71_ok hb6,acc0,?_⟩
  conv=>whnf
  obtain ⟨r4,hb7,h⟩:=bd_some h
  refine ⟨(allc (pu_agg (allc rfl (allc (pu_map (fun _=>rfl) _ _ _) (allc rfl (allc rfl rfl))))) (allc (pu_flat (fun _=>(allc rfl (allc rfl rfl))) _ _ _) rfl)),_,x73_ok hb7,accN rfl,?_⟩
  conv=>whnf
  rcases bt (decide ((w (r3+(w (b.2.2.2*r4))))≤hours)) with hb8 | hb8
  ·rw [hb8]
   conv=>whnf
   replace h:=it_t hb8 h
   obtain rfl:=Option.some.inj h
   exact hR _ _ ⟨.inr rfl,_,rfl,_,frz_pure (pu_tup (allc rfl (allc rfl rfl))),rfl⟩
  ·rw [hb8]
   conv=>whnf
   replace h:=it_f hb8 h
   exact ⟨m,Nat.lt_succ_self m,(w (s1+(1:Int))),rfl,rfl,h⟩
 ·rw [hb5]
  conv=>whnf
  replace h:=it_f hb5 h
  exact hkl1_0 _ _ _ _ _ _ _ _ _ _ _ _ _ _ _ _ _ _ _ _ _ _ _ _ _ _ _ _ _ _ _ _ _ _ _ _ _ h
theorem x43_ok {b:(Int×(List Int)×Int×Int)} {panels:(List (Int×Int))} {hours:Int} {v:(Int×Int)} (h:x43 b panels hours=some v):PO 43 [(.agg [(I b.1),(.lst (b.2.1.map I) b.2.1.length .shared),(I b.2.2.1),(I b.2.2.2)]),(.lst (panels.flatMap pr) panels.length .shared),(I hours)] (.tuple [(I v.1),(I v.2)]):=by
 refine fn_pureW hmix lxx43 rfl (pu_tup (allc rfl (allc rfl rfl))) fun Q hQ=>?_
 have hR:∀ T H,RetW [.tmp 6,.tmp 7] (.tuple [(I v.1),(I v.2)]) .ret T H→Q .ret T H:=fun T H hh=>hQ _ T H hh
 unfold x43 at h
 unfold xrc43
 obtain ⟨c_1,g_1⟩:∃ c,xrc43_1=c:=⟨_,rfl⟩
 rw [g_1]
 conv=>whnf
 obtain ⟨r1,hb1,h⟩:=bd_some h
 refine ⟨(allc (pu_agg (allc rfl (allc (pu_map (fun _=>rfl) _ _ _) (allc rfl (allc rfl rfl))))) (allc (pu_flat (fun _=>(allc rfl (allc rfl rfl))) _ _ _) rfl)),_,x66_ok hb1,?_⟩
 conv=>whnf
 rcases bt (decide (r1≠(0:Int))) with hb2 | hb2
 ·rw [hb2]
  conv=>whnf
  replace h:=it_t hb2 h
  obtain ⟨r2,hb3,h⟩:=bd_some h
  refine ⟨(allc (pu_agg (allc rfl (allc (pu_map (fun _=>rfl) _ _ _) (allc rfl (allc rfl rfl))))) (allc (pu_flat (fun _=>(allc rfl (allc rfl rfl))) _ _ _) rfl)),_,x66_ok hb3,?_⟩
  conv=>whnf
  obtain rfl:=Option.some.inj h
  exact hR _ _ ⟨.inr rfl,_,rfl,_,frz_pure (pu_tup (allc rfl (allc rfl rfl))),rfl⟩
 ·rw [hb2]
  conv=>whnf
  replace h:=it_f hb2 h
  rcases bt (decide (hours<(0:Int))) with hb4 | hb4
  ·rw [hb4]
   conv=>whnf
   replace h:=it_t hb4 h
   obtain rfl:=Option.some.inj h
   exact hR _ _ ⟨.inr rfl,_,rfl,_,frz_pure (pu_tup (allc rfl (allc rfl rfl))),rfl⟩
  ·rw [hb4]
   conv=>whnf
   replace h:=it_f hb4 h
   subst g_1
   refine x43_l1_ok ?_ ?_ (by exact rfl) h
   ·exact fun T H hh=>hR T H hh
   ·intro u0 u1 u2 u3 u6 u7 u8 u9 u10 u11 u12 u13 u14 u15 u16 u17 u18 u19 u20 u21 u22 u23 u24 u25 u26 u27 u28 u29 u30 u31 u32 u33 u34 u35 u36 u37 o1 h
    conv=>whnf
    obtain rfl:=Option.some.inj h
    exact hR _ _ ⟨.inr rfl,_,rfl,_,frz_pure (pu_tup (allc rfl (allc rfl rfl))),rfl⟩

noncomputable def xrc42_1:RC :=
 .loop (some [o_,i_,o_,o_,o_,o_,o_,o_,i_,o_,i_,i_,o_,o_,o_,o_,o_,o_,o_,o_,o_,o_,o_,o_,o_,o_,o_,o_,o_,o_,o_,o_,o_,o_,o_,o_,o_,o_,o_,o_,o_,o_,o_,o_,o_,o_,o_,o_,o_]) (.seq (.seq (.reg false [I_ 32 [.sl 8] .mv,I_ 33 [.sl 10] .mv,I_ 34 [.cv (.func 70 [] []),.sl 32,
 .sl 33] (.call 3),I_ 35 [.sl 11] .mv,I_ 36 [.tv 34,.tv 35] (.bin .gtr)]) (.cond (.sl 36) .skip (.exit 1))) (.seq (.block 2 (.seq (.reg false [I_ 39 [.sl 10] .mv,I_ 40 [.sl 1] .mv,I_ 41 [.tk 40] .lenS,I_ 42 [.tv 39,.tv
 41] (.bin .gtr)]) (.cond (.sl 42) (.exit 1) .skip))) (.reg false [I_ 37 [.tk 10] .mv,I_ 38 [.tv 37,.cv (.int .i64 1)] (.bin .add),I_ 10 [.tk 38] .mv])))
noncomputable def xrc42:RC :=
 .seq (.reg false [I_ 3 [.tk 0] .box,I_ 6 [.cv (.int .i64 0)] .mv,I_ 7 [.cv (.int .i64 0)] .mv]) (.seq (.reg false [I_ 13 [.sl 3] (.ld (.str 4)),I_ 14 [.sl 1] .mv,I_ 15 [.cv (.func 69 [] []),.sl 13,.sl 14] (.call 3),I_ 12
 [.tk 15] .mv,I_ 16 [.sl 12] (.ext 0),I_ 17 [.tv 12] (.ext 1),I_ 8 [.tk 16] .mv,I_ 9 [.tk 17] .mv]) (.seq (.block 0 (.seq (.reg false [I_ 19 [.sl 9] .mv,I_ 20 [.tv 19,.cv (.int .i64 0)] (.bin .neq),I_ 18 [.tk 20] .mv])
 (.cond (.sl 18) (.seq (.reg false [I_ 21 [.tk 9] .mv,I_ 6 [.cv (.int .i64 0)] .mv,I_ 7 [.tk 21] .mv]) .ret) (.seq (.reg false [I_ 23 [.sl 2] .mv,I_ 24 [.tv 23,.cv (.int .i64 0)] (.bin .lss),I_ 22 [.tk 24] .mv]) (.cond (.sl
 22) (.seq (.reg false [I_ 6 [.cv (.int .i64 0)] .mv,I_ 7 [.cv (.int .i64 2)] .mv]) .ret) .skip))))) (.seq (.reg true [I_ 25 [.tk 2] .mv,I_ 26 [.tv 3] (.fa 3),I_ 27 [.tv 26] (.ld .one),I_ 28 [.sl 8] .mv,I_ 29 [.cv (.func 72
 [] []),.sl 28] (.call 3),I_ 30 [.tv 27,.tv 29] (.bin .mul),I_ 31 [.tv 25,.tv 30] (.bin .sub),I_ 10 [.cv (.int .i64 1)] .mv,I_ 11 [.tk 31] .mv]) (.seq .skip (.seq (.block 1 xrc42_1) (.seq (.seq (.reg false [I_ 43 [.tk 8]
 .mv,I_ 44 [.sl 10] .mv,I_ 45 [.cv (.func 70 [] []),.sl 43,.sl 44] (.call 3),I_ 46 [.tk 11] .mv,I_ 47 [.tv 45,.tv 46] (.bin .gtr)]) (.cond (.sl 47) (.seq (.reg false [I_ 6 [.cv (.int .i64 0)] .mv,I_ 7 [.cv (.int .i64 5)]
 .mv]) .ret) .skip)) (.seq (.reg false [I_ 48 [.tk 10] .mv,I_ 6 [.tk 48] .mv,I_ 7 [.cv (.int .i64 0)] .mv]) .ret)))))))
theorem lxx42:linkF Tryz.prog ann42 42=some (xrc42,49,[.tmp 6,.tmp 7]):=by kernel_rfl
def x42_l1 (b:(Int×(List Int)×Int×Int)) (panels:(List (Int×Int))) (hours:Int) (p1:((Int×(List Int)×Int×Int)×(List (Int×Int))×(List Int)×(List Int))) (r2:Int) (kl1_0:Int→Option (Int×Int)):Nat→Int→Option (Int×Int)
 | 0,_=>none
 | m+1,s1 =>
   (x70 p1 s1).bind fun r3 =>
   if (decide ((w (hours-(w (b.2.2.2*r2))))<r3))=true then
    if (decide ((panels.length:Int)<s1))=true then
     kl1_0 s1
    else
     x42_l1 b panels hours p1 r2 kl1_0 m (w (s1+(1:Int)))
   else
    kl1_0 s1
def x42 (b:(Int×(List Int)×Int×Int)) (panels:(List (Int×Int))) (hours:Int):Option (Int×Int) :=
 (x69 b panels).bind fun r1 =>
 match r1 with
 | (none,q1) =>
   if (decide (q1≠(0:Int)))=true then
    some ((0:Int),q1)
   else
    if (decide (hours<(0:Int)))=true then
     some ((0:Int),(2:Int))
    else
     none
 | (some p1,q1) =>
   if (decide (q1≠(0:Int)))=true then
    some ((0:Int),q1)
   else
    if (decide (hours<(0:Int)))=true then
     some ((0:Int),(2:Int))
    else
     (x72 p1).bind fun r2 =>
     x42_l1 b panels hours p1 r2 (fun z1 =>
       (x70 p1 z1).bind fun r4 =>
       if (decide ((w (hours-(w (b.2.2.2*r2))))<r4))=true then
        some ((0:Int),(5:Int))
       else
        some (z1,(0:Int))) FU (1:Int)
theorem x42_l1_ok {b:(Int×(List Int)×Int×Int)} {panels:(List (Int×Int))} {hours:Int} {p1:((Int×(List Int)×Int×Int)×(List (Int×Int))×(List Int)×(List Int))} {r2:Int} {kl1_0:Int→Option (Int×Int)} {s1:Int} {v:(Int×Int)} {Q:Ex→List AV→List AObj→Prop} {o1:AObj}  (hkl1_0:∀ (z1:Int) (u0:AV) (u1:AV) (u2:AV) (u3:AV) (u6:AV) (u7:AV) (u9:AV) (u12:AV) (u13:AV) (u14:AV) (u15:AV) (u16:AV) (u17:AV) (u18:AV) (u19:AV) (u20:AV) (u21:AV) (u22:AV) (u23:AV) (u24:AV) (u25:AV) (u26:AV) (u27:AV) (u28:AV) (u29:AV) (u30:AV) (u31:AV) (u32:AV) (u33:AV) (u34:AV) (u35:AV) (u36:AV) (u37:AV) (u38:AV) (u39:AV) (u40:AV) (u41:AV) (u42:AV) (u43:AV) (u44:AV) (u45:AV) (u46:AV) (u47:AV) (u48:AV),kl1_0 z1=some v→Q (.exit 1) [u0,u1,u2,u3,J,J,u6,u7,(.lptr ((I p1.1.1)::(.lst (p1.1.2.1.map I) p1.1.2.1.length .shared)::(I p1.1.2.2.1)::(I p1.1.2.2.2)::(.lst (p1.2.1.flatMap pr) p1.2.1.length .shared)::(.lst (p1.2.2.1.map I) p1.2.2.1.length .shared)::(p1.2.2.2.map I))),u9,(I z1),(I (w (hours-(w (b.2.2.2*r2))))),u12,u13,u14,u15,u16,u17,u18,u19,u20,u21,u22,u23,u24,u25,u26,u27,u28,u29,u30,u31,u32,u33,u34,u35,u36,u37,u38,u39,u40,u41,u42,u43,u44,u45,u46,u47,u48] [o1]) {T:List AV} (hT:zipKeep [o_,i_,o_,o_,o_,o_,o_,o_,i_,o_,i_,i_,o_,o_,o_,o_,o_,o_,o_,o_,o_,o_,o_,o_,o_,o_,o_,o_,o_,o_,o_,o_,o_,o_,o_,o_,o_,o_,o_,o_,o_,o_,o_,o_,o_,o_,o_,o_,o_] T=slots 49 [(1,(.lst (panels.flatMap pr) panels.length .shared)),(8,(.lptr ((I p1.1.1)::(.lst (p1.1.2.1.map I) p1.1.2.1.length .shared)::(I p1.1.2.2.1)::(I p1.1.2.2.2)::(.lst (p1.2.1.flatMap pr) p1.2.1.length .shared)::(.lst (p1.2.2.1.map I) p1.2.2.1.length .shared)::(p1.2.2.2.map I)))),(10,(I s1)),(11,(I (w (hours-(w (b.2.2.2*r2))))))]) (h:x42_l1 b panels hours p1 r2 kl1_0 FU s1=some v) :
  wpR Tryz.prog ann42 42 0 none xrc42_1 T [o1] Q:=by
 unfold xrc42_1
 skip
 refine wp_loop hT ?_
 refine .intro (fun m T H=>∃ (s1:Int),T=slots 49 [(1,(.lst (panels.flatMap pr) panels.length .shared)),(8,(.lptr ((I p1.1.1)::(.lst (p1.1.2.1.map I) p1.1.2.1.length .shared)::(I p1.1.2.2.1)::(I p1.1.2.2.2)::(.lst (p1.2.1.flatMap pr) p1.2.1.length .shared)::(.lst (p1.2.2.1.map I) p1.2.2.1.length .shared)::(p1.2.2.2.map I)))),(10,(I s1)),(11,(I (w (hours-(w (b.2.2.2*r2))))))]∧H=[o1]∧x42_l1 b panels hours p1 r2 kl1_0 m s1=some v) FU ⟨s1,rfl,rfl,h⟩ ?_
 clear h hT
 rintro m T H ⟨s1,rfl,rfl,h⟩
 cases m
 ·exact none_ne h
 rename_i m
 rw [x42_l1.eq_2] at h
 conv=>whnf
 obtain ⟨r3,hb7,h⟩:=bd_some h
 refine ⟨(allc (pu_lptr (allc rfl (allc (pu_map (fun _=>rfl) _ _ _) (allc rfl (allc rfl (allc (pu_flat (fun _=>(allc rfl (allc rfl rfl))) _ _ _) (allc (pu_map (fun _=>rfl) _ _ _) (pu_run (fun _=>rfl) _)))))))) (allc rfl rfl)),_,x70_ok hb7,?_⟩
 conv=>whnf
 rcases bt (decide ((w (hours-(w (b.2.2.2*r2))))<r3)) with hb8 | hb8
 ·rw [hb8]
  conv=>whnf
  replace h:=it_t hb8 h
  rcases bt (decide ((panels.length:Int)<s1)) with hb9 | hb9
  ·rw [hb9]
   conv=>whnf
   replace h:=it_t hb9 h
   exact hkl1_0 _ _ _ _ _ _ _ _ _ _ _ _ _ _ _ _ _ _ _ _ _ _ _ _ _ _ _ _ _ _ _ _ _ _ _ _ _ _ _ _ _ _ _ _ _ h
  ·rw [hb9]
   conv=>whnf
   replace h:=it_f hb9 h
   exact ⟨m,Nat.lt_succ_self m,(w (s1+(1:Int))),rfl,rfl,h⟩
 ·rw [hb8]
  conv=>whnf
  replace h:=it_f hb8 h
  exact hkl1_0 _ _ _ _ _ _ _ _ _ _ _ _ _ _ _ _ _ _ _ _ _ _ _ _ _ _ _ _ _ _ _ _ _ _ _ _ _ _ _ _ _ _ _ _ _ h
theorem x42_ok {b:(Int×(List Int)×Int×Int)} {panels:(List (Int×Int))} {hours:Int} {v:(Int×Int)} (h:x42 b panels hours=some v):PO 42 [(.agg [(I b.1),(.lst (b.2.1.map I) b.2.1.length .shared),(I b.2.2.1),(I b.2.2.2)]),(.lst (panels.flatMap pr) panels.length .shared),(I hours)] (.tuple [(I v.1),(I v.2)]):=by
 refine fn_pureW hmix lxx42 rfl (pu_tup (allc rfl (allc rfl rfl))) fun Q hQ=>?_
 have hR:∀ T H,RetW [.tmp 6,.tmp 7] (.tuple [(I v.1),(I v.2)]) .ret T H→Q .ret T H:=fun T H hh=>hQ _ T H hh
 unfold x42 at h
 unfold xrc42
 obtain ⟨c_1,g_1⟩:∃ c,xrc42_1=c:=⟨_,rfl⟩
 rw [g_1]
 conv=>whnf
 obtain ⟨r1,hb1,h⟩:=bd_some h
 rcases r1 with ⟨_ | p1,q1⟩
 ·refine ⟨(allc (pu_agg (allc rfl (allc (pu_map (fun _=>rfl) _ _ _) (allc rfl (allc rfl rfl))))) (allc (pu_flat (fun _=>(allc rfl (allc rfl rfl))) _ _ _) rfl)),_,x69_ok hb1,?_⟩
  conv=>whnf
  rcases bt (decide (q1≠(0:Int))) with hb2 | hb2
  ·rw [hb2]
   conv=>whnf
   replace h:=it_t hb2 h
   obtain rfl:=Option.some.inj h
   exact hR _ _ ⟨.inr rfl,_,rfl,_,frz_pure (pu_tup (allc rfl (allc rfl rfl))),rfl⟩
  ·rw [hb2]
   conv=>whnf
   replace h:=it_f hb2 h
   rcases bt (decide (hours<(0:Int))) with hb3 | hb3
   ·rw [hb3]
    conv=>whnf
    replace h:=it_t hb3 h
    obtain rfl:=Option.some.inj h
    exact hR _ _ ⟨.inr rfl,_,rfl,_,frz_pure (pu_tup (allc rfl (allc rfl rfl))),rfl⟩
   ·rw [hb3]
    conv=>whnf
    replace h:=it_f hb3 h
    exact none_ne h
 ·refine ⟨(allc (pu_agg (allc rfl (allc (pu_map (fun _=>rfl) _ _ _) (allc rfl (allc rfl rfl))))) (allc (pu_flat (fun _=>(allc rfl (allc rfl rfl))) _ _ _) rfl)),_,x69_ok hb1,?_⟩
  conv=>whnf
  rcases bt (decide (q1≠(0:Int))) with hb4 | hb4
  ·rw [hb4]
   conv=>whnf
   replace h:=it_t hb4 h
   obtain rfl:=Option.some.inj h
   exact hR _ _ ⟨.inr rfl,_,rfl,_,frz_pure (pu_tup (allc rfl (allc rfl rfl))),rfl⟩
  ·rw [hb4]
   conv=>whnf
   replace h:=it_f hb4 h
   rcases bt (decide (hours<(0:Int))) with hb5 | hb5
   ·rw [hb5]
    conv=>whnf
    replace h:=it_t hb5 h
    obtain rfl:=Option.some.inj h
    exact hR _ _ ⟨.inr rfl,_,rfl,_,frz_pure (pu_tup (allc rfl (allc rfl rfl))),rfl⟩
   ·rw [hb5]
    conv=>whnf
    replace h:=it_f hb5 h
    obtain ⟨r2,hb6,h⟩:=bd_some h
    refine ⟨(allc (pu_lptr (allc rfl (allc (pu_map (fun _=>rfl) _ _ _) (allc rfl (allc rfl (allc (pu_flat (fun _=>(allc rfl (allc rfl rfl))) _ _ _) (allc (pu_map (fun _=>rfl) _ _ _) (pu_run (fun _=>rfl) _)))))))) rfl),_,x72_ok hb6,acc0,?_⟩
    conv=>whnf
    subst g_1
    refine x42_l1_ok ?_ (by exact rfl) h
    intro z1 u0 u1 u2 u3 u6 u7 u9 u12 u13 u14 u15 u16 u17 u18 u19 u20 u21 u22 u23 u24 u25 u26 u27 u28 u29 u30 u31 u32 u33 u34 u35 u36 u37 u38 u39 u40 u41 u42 u43 u44 u45 u46 u47 u48 h
    conv=>whnf
    obtain ⟨r4,hb10,h⟩:=bd_some h
    refine ⟨(allc (pu_lptr (allc rfl (allc (pu_map (fun _=>rfl) _ _ _) (allc rfl (allc rfl (allc (pu_flat (fun _=>(allc rfl (allc rfl rfl))) _ _ _) (allc (pu_map (fun _=>rfl) _ _ _) (pu_run (fun _=>rfl) _)))))))) (allc rfl rfl)),_,x70_ok hb10,?_⟩
    conv=>whnf
    rcases bt (decide ((w (hours-(w (b.2.2.2*r2))))<r4)) with hb11 | hb11
    ·rw [hb11]
     conv=>whnf
     replace h:=it_t hb11 h
     obtain rfl:=Option.some.inj h
     exact hR _ _ ⟨.inr rfl,_,rfl,_,frz_pure (pu_tup (allc rfl (allc rfl rfl))),rfl⟩
    ·rw [hb11]
     conv=>whnf
     replace h:=it_f hb11 h
     obtain rfl:=Option.some.inj h
     exact hR _ _ ⟨.inr rfl,_,rfl,_,frz_pure (pu_tup (allc rfl (allc rfl rfl))),rfl⟩

end Go.Proofs.YtbnbjjgagikobaaGreat.Ab


namespace Go.Proofs.YtbnbjjgagikobaaGreat.Ab
open Go
set_option maxRecDepth 20000
set_option maxHeartbeats 4000000

abbrev hts (ps:List (Int×Int)):List Int:=ps.map (·.1)
def Nd (b:Bed) (ps:List (Int×Int)) (T:Int) (r:Int×Int):Prop :=
 (∃ z:Nat,r=((z:Int),0)∧1≤z∧z≤max 1 ps.length∧hSum z ps 21+b.2.2.2*wayM b.2.2.1 (hts ps)≤T∧∀ j:Nat,1≤j→j<z→T<hSum j ps 21+b.2.2.2*wayM b.2.2.1 (hts ps)) ∨
 (r=(0,5)∧∀ j:Nat,1≤j→j≤max 1 ps.length→T<hSum j ps 21+b.2.2.2*wayM b.2.2.1 (hts ps))
theorem Nd.uniq {b:Bed} {ps:List (Int×Int)} {T:Int} {r r':Int×Int} (h:Nd b ps T r) (h':Nd b ps T r'):r=r':=by
 rcases h with ⟨z,rfl,h1,h2,h3,h4⟩ | ⟨rfl,h4⟩ <;> rcases h' with ⟨z',rfl,g1,g2,g3,g4⟩ | ⟨rfl,g4⟩
 ·have:z=z':=by
   rcases Nat.lt_trichotomy z z' with h | h | h
   ·have:=g4 z h1 h;omega
   ·exact h
   ·have:=h4 z' g1 h;omega
  rw [this]
 ·have:=g4 z h1 h2;omega
 ·have:=h4 z' g1 g2;omega
 ·rfl
theorem cway_in {b:Bed} (hB:BedOk b) {ps:List (Int×Int)} (hp:PsOk ps):0≤b.2.2.2*wayM b.2.2.1 (hts ps)∧b.2.2.2*wayM b.2.2.1 (hts ps)≤400:=by
 have h1:0≤wayM b.2.2.1 (hts ps)∧wayM b.2.2.1 (hts ps)≤40:=wayM_in hp.heat hB.h0
 have h2:=hB.c0
 refine ⟨Int.mul_nonneg h2.1 h1.1,?_⟩
 have:=Int.mul_le_mul h2.2 h1.2 h1.1 (by omega)
 omega
theorem hSum_big {n n':Nat} {ps:List (Int×Int)} (h:ps.length≤n) (h':ps.length≤n') (h0:0<n) (h0':0<n'):∀ i,hSum n ps i=hSum n' ps i
 | 0=>rfl
 | i+1=>by
   have hl:(hrs ps (i:Int)).length≤ps.length:=by unfold hrs;rw [List.length_map];exact List.length_filter_le _ _
   rw [hSum_succ,hSum_succ,hSum_big h h' h0 h0' i,hH_many h0 (by omega),hH_many h0' (by omega)]
theorem x42_l1_eq {b:Bed} {ps:List (Int×Int)} {hours:Int} {p1:Bench} (hp1:p1.2.1=ps) (hp:PsOk ps) {wy:Int} (hT:0≤hours∧hours≤9223372036854775807) (hc:0≤b.2.2.2*wy∧b.2.2.2*wy≤400) {k:Int→Option (Int×Int)}:∀ (m i:Nat) (z:Int),z=i→1≤i→i≤ps.length+1→ps.length+1-i<m→(∀ j:Nat,1≤j→j<i→hours<hSum j ps 21+b.2.2.2*wy)→∃ q:Nat,x42_l1 b ps hours p1 wy k m z=k (q:Int)∧1≤q∧q≤ps.length+1∧(∀ j:Nat,1≤j→j<q→hours<hSum j ps 21+b.2.2.2*wy)∧(hSum q ps 21+b.2.2.2*wy≤hours∨q=ps.length+1)
 | 0,i,_,_,_,_,h,_=>absurd h (by omega)
 | m+1,i,_,rfl,h1,hi,hm,hj=>by
   have hpl:=hp.len
   have hs:=hSum_in (n:=i) (by omega) hp 21
   rw [x42_l1,x70_eq (x:=p1) (N:=i) ⟨h1,by omega⟩ (by rw [hp1];exact hp),hp1,Option.bind_some,w_id (n:=b.2.2.2*wy) (by omega),w_id (n:=hours-_) (by omega)]
   by_cases hlt:hours-b.2.2.2*wy<hSum i ps 21
   ·rw [if_pos (decide_eq_true hlt)]
    by_cases hle:ps.length<i
    ·rw [if_pos (decide_eq_true (by omega))]
     exact ⟨i,rfl,h1,hi,hj,.inr (by omega)⟩
    ·rw [if_neg (by rw [decide_eq_true_eq];omega),w_succ i (by omega)]
     refine x42_l1_eq hp1 hp hT hc m (i+1) _ rfl (by omega) (by omega) (by omega) fun j hj1 hj2=>?_
     by_cases e:j=i
     ·subst e;omega
     ·exact hj j hj1 (by omega)
   ·rw [if_neg (by simpa using hlt)]
    exact ⟨i,rfl,h1,hi,hj,.inl (by omega)⟩
theorem x42_nd {b:Bed} {ps:List (Int×Int)} (hf:FineOk b ps) {T:Int} (hT:0≤T∧T≤9223372036854775807):∃ r,x42 b ps T=some r∧Nd b ps T r:=by
 obtain ⟨hl,hb,hp⟩:=hf
 have hB:=bedOk hb
 have hpl:=hp.len
 have hc:=cway_in hB hp
 obtain ⟨q,e,q1,q2,q3,q4⟩:=x42_l1_eq (b:=b) (ps:=ps) (p1:=(b,ps,wholeL b.1.toNat b.2.1,wantL ps)) rfl hp (wy:=wayM b.2.2.1 (hts ps)) hT hc (k:=fun z1 =>
      (x70 (b,ps,wholeL b.1.toNat b.2.1,wantL ps) z1).bind fun r4 =>
      if (decide ((w (T-(w (b.2.2.2*wayM b.2.2.1 (hts ps)))))<r4))=true then
       some ((0:Int),(5:Int))
      else
       some (z1,(0:Int))) FU 1 1 rfl (Nat.le_refl _) (by omega) (FU_lt (by omega)) (fun j h1 h2=>by omega)
 have hs:=hSum_in (n:=q) (by omega) hp 21
 have e0:x42 b ps T=x42_l1 b ps T (b,ps,wholeL b.1.toNat b.2.1,wantL ps) (wayM b.2.2.1 (hts ps)) (fun z1 =>
         (x70 (b,ps,wholeL b.1.toNat b.2.1,wantL ps) z1).bind fun r4 =>
         if (decide ((w (T-(w (b.2.2.2*wayM b.2.2.1 (hts ps)))))<r4))=true then
          some ((0:Int),(5:Int))
         else
          some (z1,(0:Int))) FU 1:=by
  rw [x42,x69_eq hb hl hp,Option.bind_some]
  show (if (decide ((0:Int)≠(0:Int)))=true then _ else _)=_
  rw [if_neg (by decide),if_neg (by rw [decide_eq_true_eq];omega),x72_eq hB.h0 hp.heat,Option.bind_some]
 rw [e0,e,x70_eq (x:=(b,ps,wholeL b.1.toNat b.2.1,wantL ps)) (N:=q) ⟨q1,by omega⟩ hp,Option.bind_some,w_id (n:=b.2.2.2*_) (by omega),w_id (n:=T-_) (by omega)]
 show ∃ r,(if (decide (T-b.2.2.2*wayM b.2.2.1 (hts ps)<hSum q ps 21))=true then some ((0:Int),(5:Int)) else some ((q:Int),0))=some r∧_
 by_cases hlt:T-b.2.2.2*wayM b.2.2.1 (hts ps)<hSum q ps 21
 ·rw [if_pos (decide_eq_true hlt)]
  refine ⟨_,rfl,.inr ⟨rfl,fun j h1 h2=>?_⟩⟩
  by_cases hj:j<q
  ·exact q3 j h1 hj
  ·rcases q4 with q4 | q4
   ·omega
   ·have:j=q:=by omega
    subst this;omega
 ·rw [if_neg (by simpa using hlt)]
  refine ⟨_,rfl,.inl ⟨q,rfl,q1,?_,by omega,q3⟩⟩
  rcases Nat.lt_or_ge (max 1 ps.length) q with h | h
  ·exfalso
   have h2:=q3 (q-1) (by omega) (by omega)
   rw [hSum_big (n:=q-1) (n':=q) (by omega) (by omega) (by omega) (by omega)] at h2
   omega
  ·exact h
theorem x43_l1_eq {b:Bed} {ps:List (Int×Int)} (hB:BedOk b) (hp:PsOk ps) {hours:Int} {k:Unit→Option (Int×Int)} (hk:k ()=some (0,5)):∀ (m i:Nat) (z:Int),z=i→1≤i→i≤max 1 ps.length+1→max 1 ps.length+1-i<m→(∀ j:Nat,1≤j→j<i→hours<hSum j ps 21+b.2.2.2*wayM b.2.2.1 (hts ps))→∃ r,x43_l1 b ps hours k m z=some r∧Nd b ps hours r
 | 0,i,_,_,_,_,h,_=>absurd h (by omega)
 | m+1,i,_,rfl,h1,hi,hm,hj=>by
   have hpl:=hp.len
   have hc:=cway_in hB hp
   rw [x43_l1]
   by_cases h:i≤max 1 ps.length
   ·have hs:=hSum_in (n:=i) (by omega) hp 21
    have e73:x73 b ps=some (wayM b.2.2.1 (hts ps)):=x73_eq (by omega) hB.h0 hp.heat
    rw [if_pos (decide_eq_true (by omega)),x71_eq hp (n:=i) ⟨h1,by omega⟩,Option.bind_some,e73,Option.bind_some,w_id (n:=b.2.2.2*_) (by omega),w_id (n:=hSum i ps 21+_) (by omega)]
    by_cases hlt:hSum i ps 21+b.2.2.2*wayM b.2.2.1 (hts ps)≤hours
    ·rw [if_pos (decide_eq_true hlt)]
     exact ⟨_,rfl,.inl ⟨i,rfl,h1,h,hlt,hj⟩⟩
    ·rw [if_neg (by simpa using hlt),w_succ i (by omega)]
     refine x43_l1_eq hB hp hk m (i+1) _ rfl (by omega) (by omega) (by omega) fun j hj1 hj2=>?_
     by_cases e:j=i
     ·subst e;omega
     ·exact hj j hj1 (by omega)
   ·rw [if_neg (by rw [decide_eq_true_eq];omega),hk]
    exact ⟨_,rfl,.inr ⟨rfl,fun j h1 h2=>hj j h1 (by omega)⟩⟩
theorem x42_x43 {b:Bed} (hl:b.2.1.length≤20) (ps:List (Int×Int)) {T:Int} (hT:T≤9223372036854775807):∃ r,x42 b ps T=some r∧x43 b ps T=some r:=by
 by_cases he:eB b ps=0
 ·obtain ⟨hb,hp⟩:=eB_ok he
  have hB:=bedOk hb
  have hpl:=hp.len
  by_cases h0:T<0
  ·refine ⟨(0,2),?_,?_⟩
   ·rw [x42,x69_eq hb hl hp,Option.bind_some]
    show (if (decide ((0:Int)≠(0:Int)))=true then _ else _)=_
    rw [if_neg (by decide),if_pos (decide_eq_true h0)]
   ·rw [x43,x66_eB hl,Option.bind_some,if_neg (by simp [he]),if_pos (decide_eq_true h0)]
  ·obtain ⟨r,e,n⟩:=x42_nd ⟨hl,hb,hp⟩ (T:=T) ⟨by omega,hT⟩
   obtain ⟨r',e',n'⟩:=x43_l1_eq hB hp (hours:=T) (k:=fun _=>some ((0:Int),(5:Int))) rfl FU 1 1 rfl (Nat.le_refl _) (by omega) (FU_lt (by omega)) (fun j h1 h2=>by omega)
   refine ⟨r,e,?_⟩
   rw [x43,x66_eB hl,Option.bind_some,if_neg (by simp [he]),if_neg (by rw [decide_eq_true_eq];omega),n.uniq n']
   exact e'
 ·refine ⟨(0,eB b ps),?_,?_⟩
  ·rw [x42,x69_err (by omega) he,Option.bind_some]
   exact if_pos (decide_eq_true he)
  ·rw [x43,x66_eB hl,Option.bind_some,if_pos (decide_eq_true he),Option.bind_some]

end Go.Proofs.YtbnbjjgagikobaaGreat.Ab


namespace Go.Proofs.YtbnbjjgagikobaaGreat.Ab
open Go
set_option maxRecDepth 20000
set_option maxHeartbeats 4000000
def fit47 (ps:List (Int×Int)) (wn i:Nat) (out:List (List Int)) (f one:Nat):Bool :=
 decide (0<f % 7) && decide ((ix ps (ix (ix out (one:Int)) 0)).1=(ix ps (i:Int)).1) && decide ((ix out (one:Int)).length<wn)
def pickG (P:Nat→Bool) (n f:Nat):Nat→Nat
 | 0=>n
 | k+1=>if pickG P n f k=n∧P ((f % n+k) % n)=true then (f % n+k) % n else pickG P n f k
theorem pickG_le (P:Nat→Bool) {n f:Nat} (hn:0<n):∀ k,pickG P n f k≤n
 | 0=>Nat.le_refl _
 | k+1=>by
   rw [pickG];split
   ·exact Nat.le_of_lt (Nat.mod_lt _ hn)
   ·exact pickG_le P hn k
def GOk (np:Nat) (out:List (List Int)):Prop:=∀ l∈out,0<l.length∧l.length≤1000∧∀ x∈l,0≤x∧x<(np:Int)
theorem GOk.at {np:Nat} {out:List (List Int)} (h:GOk np out) {k:Nat} (hk:k<out.length):0<(ix out (k:Int)).length∧(ix out (k:Int)).length≤1000∧∀ x∈ix out (k:Int),0≤x∧x<(np:Int):=by
 rw [ix_nat hk];exact h _ (List.getElem_mem _)
def gSt (ps:List (Int×Int)) (wn:Nat) (out:List (List Int)) (f i:Nat):List (List Int) :=
 if pickG (fit47 ps wn i out f) out.length f out.length=out.length then out++[[(i:Int)]] else out.set (pickG (fit47 ps wn i out f) out.length f out.length) (ix out (pickG (fit47 ps wn i out f) out.length f out.length:Int)++[(i:Int)])

end Go.Proofs.YtbnbjjgagikobaaGreat.Ab


namespace Go.Proofs.YtbnbjjgagikobaaGreat.Ab
open Go
set_option maxRecDepth 20000
set_option maxHeartbeats 4000000

theorem pickG_true (P:Nat→Bool) (n f:Nat):∀ k,pickG P n f k=n∨P (pickG P n f k)=true
 | 0=>.inl rfl
 | k+1=>by
   rw [pickG]
   by_cases h:pickG P n f k=n∧P ((f % n+k) % n)=true
   ·rw [if_pos h];exact .inr h.2
   ·rw [if_neg h];exact pickG_true P n f k
structure GI (n:Nat) (ps:List (Int×Int)) (out:List (List Int)) (i:Nat):Prop where
 ne:∀ t∈out,0<t.length
 rng:∀ t∈out,∀ x∈t,0≤x∧x<(i:Int)
 up:∀ t∈out,t.Pairwise (·<·)
 len:∀ t∈out,t.length≤n
 heat:∀ t∈out,∀ x∈t,(ix ps x).1=heatT ps t
 nd:out.flatten.Nodup
 all:out.flatten.length=i
theorem flatt_set (x:Int):∀ (L:List (List Int)) (k:Nat) (h:k<L.length),(L.set k (L[k]++[x])).flatten.Perm (L.flatten++[x])
 | [],_,h=>absurd h (by simp)
 | e::L,0,_=>by
   show (e++[x]++L.flatten).Perm (e++L.flatten++[x])
   rw [List.append_assoc,List.append_assoc]
   exact List.Perm.append (.refl _) List.perm_append_comm
 | e::L,k+1,h=>by
   have hk:k<L.length:=by simpa using h
   show (e++(L.set k (L[k]'hk++[x])).flatten).Perm (e++L.flatten++[x])
   rw [List.append_assoc]
   exact List.Perm.append (.refl _) (flatt_set x L k hk)
theorem snoc_nodup {l:List Int} {x:Int} (h:l.Nodup) (hx:∀ y∈l,y<x):(l++[x]).Nodup :=
 List.pairwise_append.2 ⟨h,List.pairwise_singleton _ _,fun a ha b hb e=>by have:=hx a ha;rw [List.mem_singleton] at hb;omega⟩
theorem GI.step {n:Nat} (hn:1≤n) {ps:List (Int×Int)} {out:List (List Int)} {i:Nat} (h:GI n ps out i) (f:Nat):GI n ps (gSt ps n out f i) (i+1):=by
 have hlt:∀ y∈out.flatten,y<(i:Int):=fun y hy=>by
  obtain ⟨t,ht,hyt⟩:=List.mem_flatten.1 hy
  exact (h.rng t ht y hyt).2
 have hsn:=snoc_nodup h.nd hlt
 unfold gSt
 by_cases hk:pickG (fit47 ps n i out f) out.length f out.length=out.length
 ·rw [if_pos hk]
  have hm:∀ t,t∈out++[[(i:Int)]]→t∈out∨t=[(i:Int)]:=fun t ht=>by simpa using ht
  have hfl:(out++[[(i:Int)]]).flatten=out.flatten++[(i:Int)]:=by simp
  refine ⟨fun t ht=>?_,fun t ht x hx=>?_,fun t ht=>?_,fun t ht=>?_,fun t ht x hx=>?_,by rw [hfl];exact hsn,by rw [hfl,List.length_append,h.all];rfl⟩
  ·rcases hm t ht with h1 | rfl
   ·exact h.ne t h1
   ·simp
  ·rcases hm t ht with h1 | rfl
   ·have:=h.rng t h1 x hx;omega
   ·rw [List.mem_singleton] at hx;omega
  ·rcases hm t ht with h1 | rfl
   ·exact h.up t h1
   ·exact List.pairwise_singleton _ _
  ·rcases hm t ht with h1 | rfl
   ·exact h.len t h1
   ·simpa using hn
  ·rcases hm t ht with h1 | rfl
   ·exact h.heat t h1 x hx
   ·rw [List.mem_singleton] at hx;rw [hx];rfl
 ·rw [if_neg hk]
  have hn0:0<out.length:=by
   rcases Nat.eq_zero_or_pos out.length with h0 | h0
   ·rw [h0] at hk;exact absurd rfl hk
   ·exact h0
  have hP:=(pickG_true (fit47 ps n i out f) out.length f out.length).resolve_left hk
  have hle:=pickG_le (fit47 ps n i out f) (f:=f) hn0 out.length
  generalize pickG (fit47 ps n i out f) out.length f out.length=k at hk hP hle
  have hkl:k<out.length:=by omega
  have hix:ix out (k:Int)=out[k]:=ix_nat hkl
  simp only [fit47,Bool.and_eq_true,decide_eq_true_eq,hix] at hP
  rw [hix]
  obtain ⟨⟨_,hP2⟩,hP3⟩:=hP
  have hmk:=List.getElem_mem hkl
  have hm:∀ t,t∈out.set k (out[k]++[(i:Int)])→t∈out∨t=out[k]++[(i:Int)]:=fun t ht=>List.mem_or_eq_of_mem_set ht
  have hpm:=flatt_set (i:Int) out k hkl
  have hne:=h.ne _ hmk
  have hh0:heatT ps (out[k]++[(i:Int)])=heatT ps out[k]:=by
   unfold heatT
   have:ix (out[k]++[(i:Int)]) 0=ix out[k] 0:=by
    generalize out[k]=t at hne
    cases t with
    | nil=>cases hne
    | cons a t=>rfl
   rw [this]
  refine ⟨fun t ht=>?_,fun t ht x hx=>?_,fun t ht=>?_,fun t ht=>?_,fun t ht x hx=>?_,hpm.nodup_iff.2 hsn,by rw [hpm.length_eq,List.length_append,h.all];rfl⟩
  ·rcases hm t ht with h1 | rfl
   ·exact h.ne t h1
   ·simp
  ·rcases hm t ht with h1 | rfl
   ·have:=h.rng t h1 x hx;omega
   ·rcases List.mem_append.1 hx with h2 | h2
    ·have:=h.rng _ hmk x h2;omega
    ·rw [List.mem_singleton] at h2;omega
  ·rcases hm t ht with h1 | rfl
   ·exact h.up t h1
   ·exact List.pairwise_append.2 ⟨h.up _ hmk,List.pairwise_singleton _ _,fun a ha b hb=>by
     have:=h.rng _ hmk a ha;rw [List.mem_singleton] at hb;omega⟩
  ·rcases hm t ht with h1 | rfl
   ·exact h.len t h1
   ·rw [List.length_append];simp only [List.length_singleton];omega
  ·rcases hm t ht with h1 | rfl
   ·exact h.heat t h1 x hx
   ·rw [hh0]
    rcases List.mem_append.1 hx with h2 | h2
    ·exact h.heat _ hmk x h2
    ·rw [List.mem_singleton] at h2;rw [h2];exact hP2.symm
theorem GI.ok {n:Nat} {ps:List (Int×Int)} {out:List (List Int)} (h:GI n ps out ps.length):TOk n ps [] out :=
 ⟨h.ne,h.rng,h.up,h.len,h.heat,by rw [List.nil_append];exact h.nd,by rw [List.nil_append,h.all];exact Nat.le_refl _⟩
theorem TOk.cover {n:Nat} {ps:List (Int×Int)} {ts:List (List Int)} (h:TOk n ps [] ts) {x:Int} (hx:0≤x∧x<(ps.length:Int)):∃ t∈ts,x∈t:=by
 rcases Classical.em (x∈ts.flatten) with hm | hm
 ·exact List.mem_flatten.1 hm
 ·exfalso
  have h1:=h.flat
  have h2:=h.nd
  rw [List.nil_append] at h2
  have hm':(x::ts.flatten).Nodup:=List.nodup_cons.2 ⟨hm,h2⟩
  have:=pig (x::ts.flatten) ((List.range ps.length).map fun (i:Nat)=>(i:Int)) hm' fun y hy=>by
   have hr:0≤y∧y<(ps.length:Int):=by
    rcases List.mem_cons.1 hy with rfl | hy
    ·exact hx
    ·obtain ⟨t,ht,hyt⟩:=List.mem_flatten.1 hy
     exact h.rng t ht y hyt
   exact List.mem_map.2 ⟨y.toNat,List.mem_range.2 (by omega),by omega⟩
  rw [List.length_cons,h1,List.length_map,List.length_range] at this
  omega
theorem TOk.heats {n:Nat} {ps:List (Int×Int)} {ts:List (List Int)} (h:TOk n ps [] ts) (x:Int):x∈ts.map (heatT ps)↔x∈hts ps:=by
 rw [List.mem_map,List.mem_map]
 constructor
 ·rintro ⟨t,ht,rfl⟩
  have hr:=h.rng t ht _ (ix0_mem (h.ne t ht))
  exact ⟨_,ixps_mem hr,rfl⟩
 ·rintro ⟨p,hp,rfl⟩
  obtain ⟨i,hi,rfl⟩:=List.mem_iff_getElem.1 hp
  obtain ⟨t,ht,hx⟩:=h.cover (x:=(i:Int)) ⟨by omega,by omega⟩
  refine ⟨t,ht,?_⟩
  rw [←h.heat t ht _ hx,ix_nat hi]
theorem TOk.way {n:Nat} {ps:List (Int×Int)} {ts:List (List Int)} (h:TOk n ps [] ts) (s:Int):wayM s (hts ps)≤walk s (ts.map (heatT ps)):=by
 rw [←wayM_set h.heats];exact walk_ge _ _

def x28_l2 (b:(Int×(List Int)×Int×Int)) (panels:(List (Int×Int))) (q1:((List ((List Int)×Int×Int))×Int)) (s1:Int) (s2:Int) (kl2_0:(List Int)→Option ((List Int)×Int)):Nat→Int→(List Int)→Option ((List Int)×Int)
 | 0,_,_=>none
 | m+1,s4,s5 =>
   if (decide (s4<(((ix q1.1 s2).1).length:Int)))=true then
    gd (0≤s4∧s4<(((ix q1.1 s2).1).length:Int)) <|
    gd (0≤(ix ((ix q1.1 s2).1) s4)∧(ix ((ix q1.1 s2).1) s4)<(((panels.length:Int).toNat:Nat):Int)∧(panels.length:Int).toNat=s5.length) <|
    x28_l2 b panels q1 s1 s2 kl2_0 m (w (s4+(1:Int))) (s5.set (ix ((ix q1.1 s2).1) s4).toNat (w (s1+(w ((w (b.2.2.2*(ix q1.1 s2).2.2))+(ix q1.1 s2).2.1)))))
   else
    kl2_0 s5
def x28_l1 (b:(Int×(List Int)×Int×Int)) (panels:(List (Int×Int))) (q1:((List ((List Int)×Int×Int))×Int)) (kl1_0:(List Int)→Option ((List Int)×Int)):Nat→Int→Int→(List Int)→Option ((List Int)×Int)
 | 0,_,_,_=>none
 | m+1,s1,s2,s3 =>
   if (decide (s2<(q1.1.length:Int)))=true then
    gd (0≤s2∧s2<(q1.1.length:Int)) <|
    x28_l2 b panels q1 s1 s2 (fun z1 =>
      x28_l1 b panels q1 kl1_0 m (w (s1+(w ((w (b.2.2.2*(ix q1.1 s2).2.2))+(ix q1.1 s2).2.1)))) (w (s2+(1:Int))) z1) FU (0:Int) s3
   else
    kl1_0 s3
def x28_l4 (b:(Int×(List Int)×Int×Int)) (panels:(List (Int×Int))) (q1:((List ((List Int)×Int×Int))×Int)) (s6:Int) (s7:Int) (kl4_0:(List Int)→Option ((List Int)×Int)):Nat→Int→(List Int)→Option ((List Int)×Int)
 | 0,_,_=>none
 | m+1,s9,s10 =>
   if (decide (s9<(((ix q1.1 s7).1).length:Int)))=true then
    gd (0≤s9∧s9<(((ix q1.1 s7).1).length:Int)) <|
    gd (0≤(ix ((ix q1.1 s7).1) s9)∧(ix ((ix q1.1 s7).1) s9)<(((panels.length:Int).toNat:Nat):Int)∧(panels.length:Int).toNat=s10.length) <|
    x28_l4 b panels q1 s6 s7 kl4_0 m (w (s9+(1:Int))) (s10.set (ix ((ix q1.1 s7).1) s9).toNat (w (s6+(w ((w (b.2.2.2*(ix q1.1 s7).2.2))+(ix q1.1 s7).2.1)))))
   else
    kl4_0 s10
def x28_l3 (b:(Int×(List Int)×Int×Int)) (panels:(List (Int×Int))) (q1:((List ((List Int)×Int×Int))×Int)) (kl3_0:(List Int)→Option ((List Int)×Int)):Nat→Int→Int→(List Int)→Option ((List Int)×Int)
 | 0,_,_,_=>none
 | m+1,s6,s7,s8 =>
   if (decide (s7<(q1.1.length:Int)))=true then
    gd (0≤s7∧s7<(q1.1.length:Int)) <|
    x28_l4 b panels q1 s6 s7 (fun z3 =>
      x28_l3 b panels q1 kl3_0 m (w (s6+(w ((w (b.2.2.2*(ix q1.1 s7).2.2))+(ix q1.1 s7).2.1)))) (w (s7+(1:Int))) z3) FU (0:Int) s8
   else
    kl3_0 s8
def x28 (b:(Int×(List Int)×Int×Int)) (panels:(List (Int×Int))) (turns:(List (List Int))):Option ((List Int)×Int) :=
 (x65 b panels turns).bind fun r1 =>
 match r1 with
 | (none,q1) =>
   if (decide (q1.2≠(0:Int)))=true then
    some ([],q1.2)
   else
    gd (0≤(panels.length:Int)∧(panels.length:Int)≤(panels.length:Int)∧(panels.length:Int).toNat*8≤140737488355328) <|
    x28_l1 b panels q1 (fun z2 =>
      gd ((panels.length:Int).toNat=z2.length) <|
      some (z2,(0:Int))) FU (0:Int) (0:Int) (List.replicate (panels.length:Int).toNat (0:Int))
 | (some p1,q1) =>
   if (decide (q1.2≠(0:Int)))=true then
    some ([],q1.2)
   else
    gd (0≤(panels.length:Int)∧(panels.length:Int)≤(panels.length:Int)∧(panels.length:Int).toNat*8≤140737488355328) <|
    x28_l3 b panels q1 (fun z4 =>
      gd ((panels.length:Int).toNat=z4.length) <|
      some (z4,(0:Int))) FU (0:Int) (0:Int) (List.replicate (panels.length:Int).toNat (0:Int))

def x29_l2 (b:(Int×(List Int)×Int×Int)) (panels:(List (Int×Int))) (turns:(List (List Int))) (s1:Int) (s3:Int) (r2:Int) (r3:Int) (kl2_0:(List Int)→Option ((List Int)×Int)):Nat→Int→(List Int)→Option ((List Int)×Int)
 | 0,_,_=>none
 | m+1,s5,s6 =>
   gd (0≤s3∧s3<(turns.length:Int)) <|
   if (decide (s5<((ix turns s3).length:Int)))=true then
    gd (0≤s3∧s3<(turns.length:Int)) <|
    gd (0≤s5∧s5<((ix turns s3).length:Int)) <|
    gd (0≤(ix (ix turns s3) s5)∧(ix (ix turns s3) s5)<(((panels.length:Int).toNat:Nat):Int)∧(panels.length:Int).toNat=s6.length) <|
    x29_l2 b panels turns s1 s3 r2 r3 kl2_0 m (w (s5+(1:Int))) (s6.set (ix (ix turns s3) s5).toNat (w (s1+(w ((w (b.2.2.2*r2))+r3)))))
   else
    kl2_0 s6
def x29_l1 (b:(Int×(List Int)×Int×Int)) (panels:(List (Int×Int))) (turns:(List (List Int))) (kl1_0:(List Int)→Option ((List Int)×Int)):Nat→Int→Int→Int→(List Int)→Option ((List Int)×Int)
 | 0,_,_,_,_=>none
 | m+1,s1,s2,s3,s4 =>
   if (decide (s3<(turns.length:Int)))=true then
    gd (0≤s3∧s3<(turns.length:Int)) <|
    gd (0≤(0:Int)∧(0:Int)<((ix turns s3).length:Int)) <|
    gd (0≤(ix (ix turns s3) (0:Int))∧(ix (ix turns s3) (0:Int))<(panels.length:Int)) <|
    (x52 s2 ((ix panels (ix (ix turns s3) (0:Int))).1)).bind fun r2 =>
    gd (0≤s3∧s3<(turns.length:Int)) <|
    (x68 panels (ix turns s3)).bind fun r3 =>
    x29_l2 b panels turns s1 s3 r2 r3 (fun z1 =>
      x29_l1 b panels turns kl1_0 m (w (s1+(w ((w (b.2.2.2*r2))+r3)))) ((ix panels (ix (ix turns s3) (0:Int))).1) (w (s3+(1:Int))) z1) FU (0:Int) s4
   else
    kl1_0 s4
def x29 (b:(Int×(List Int)×Int×Int)) (panels:(List (Int×Int))) (turns:(List (List Int))):Option ((List Int)×Int) :=
 (x27 b panels turns).bind fun r1 =>
 if (decide (r1.2.2≠(0:Int)))=true then
  some ([],r1.2.2)
 else
  gd (0≤(panels.length:Int)∧(panels.length:Int)≤(panels.length:Int)∧(panels.length:Int).toNat*8≤140737488355328) <|
  x29_l1 b panels turns (fun z2 =>
    gd ((panels.length:Int).toNat=z2.length) <|
    some (z2,(0:Int))) FU (0:Int) b.2.2.1 (0:Int) (List.replicate (panels.length:Int).toNat (0:Int))

def x30_l2 (q1:((List ((List Int)×Int×Int))×Int)) (s1:Int) (kl2_0:Unit→Option ((List Int)×Int)):Nat→Option ((List Int)×Int)
 | 0=>none
 | m+1 =>
   if (decide ((0:Int)<(((ix q1.1 s1).1).length:Int)))=true then
    gd (0≤(0:Int)∧(0:Int)<(((ix q1.1 s1).1).length:Int)) <|
    none
   else
    kl2_0 ()
def x30_l1 (q1:((List ((List Int)×Int×Int))×Int)) (kl1_0:Unit→Option ((List Int)×Int)):Nat→Int→Option ((List Int)×Int)
 | 0,_=>none
 | m+1,s1 =>
   if (decide (s1<(q1.1.length:Int)))=true then
    gd (0≤s1∧s1<(q1.1.length:Int)) <|
    x30_l2 q1 s1 (fun _ =>
      x30_l1 q1 kl1_0 m (w (s1+(1:Int)))) FU
   else
    kl1_0 ()
def x30_l4 (panels:(List (Int×Int))) (p1:((Int×(List Int)×Int×Int)×(List (Int×Int))×(List Int)×(List Int))) (q1:((List ((List Int)×Int×Int))×Int)) (s2:Int) (kl4_0:(List Int)→Option ((List Int)×Int)):Nat→Int→(List Int)→Option ((List Int)×Int)
 | 0,_,_=>none
 | m+1,s4,s5 =>
   if (decide (s4<(((ix q1.1 s2).1).length:Int)))=true then
    gd (0≤s4∧s4<(((ix q1.1 s2).1).length:Int)) <|
    gd (0≤s4∧s4<(p1.2.2.1.length:Int)) <|
    gd (0≤(ix ((ix q1.1 s2).1) s4)∧(ix ((ix q1.1 s2).1) s4)<(((panels.length:Int).toNat:Nat):Int)∧(panels.length:Int).toNat=s5.length) <|
    x30_l4 panels p1 q1 s2 kl4_0 m (w (s4+(1:Int))) (s5.set (ix ((ix q1.1 s2).1) s4).toNat (ix p1.2.2.1 s4))
   else
    kl4_0 s5
def x30_l3 (panels:(List (Int×Int))) (p1:((Int×(List Int)×Int×Int)×(List (Int×Int))×(List Int)×(List Int))) (q1:((List ((List Int)×Int×Int))×Int)) (kl3_0:(List Int)→Option ((List Int)×Int)):Nat→Int→(List Int)→Option ((List Int)×Int)
 | 0,_,_=>none
 | m+1,s2,s3 =>
   if (decide (s2<(q1.1.length:Int)))=true then
    gd (0≤s2∧s2<(q1.1.length:Int)) <|
    x30_l4 panels p1 q1 s2 (fun z1 =>
      x30_l3 panels p1 q1 kl3_0 m (w (s2+(1:Int))) z1) FU (0:Int) s3
   else
    kl3_0 s3
def x30 (b:(Int×(List Int)×Int×Int)) (panels:(List (Int×Int))) (turns:(List (List Int))):Option ((List Int)×Int) :=
 (x65 b panels turns).bind fun r1 =>
 match r1 with
 | (none,q1) =>
   if (decide (q1.2≠(0:Int)))=true then
    some ([],q1.2)
   else
    gd (0≤(panels.length:Int)∧(panels.length:Int)≤(panels.length:Int)∧(panels.length:Int).toNat*8≤140737488355328) <|
    x30_l1 q1 (fun _ =>
      gd ((panels.length:Int).toNat=(List.replicate (panels.length:Int).toNat (0:Int)).length) <|
      some ((List.replicate (panels.length:Int).toNat (0:Int)),(0:Int))) FU (0:Int)
 | (some p1,q1) =>
   if (decide (q1.2≠(0:Int)))=true then
    some ([],q1.2)
   else
    gd (0≤(panels.length:Int)∧(panels.length:Int)≤(panels.length:Int)∧(panels.length:Int).toNat*8≤140737488355328) <|
    x30_l3 panels p1 q1 (fun z2 =>
      gd ((panels.length:Int).toNat=z2.length) <|
      some (z2,(0:Int))) FU (0:Int) (List.replicate (panels.length:Int).toNat (0:Int))

def x31_l2 (panels:(List (Int×Int))) (turns:(List (List Int))) (r2:(List Int)) (s1:Int) (kl2_0:(List Int)→Option ((List Int)×Int)):Nat→Int→(List Int)→Option ((List Int)×Int)
 | 0,_,_=>none
 | m+1,s3,s4 =>
   gd (0≤s1∧s1<(turns.length:Int)) <|
   if (decide (s3<((ix turns s1).length:Int)))=true then
    gd (0≤s1∧s1<(turns.length:Int)) <|
    gd (0≤s3∧s3<((ix turns s1).length:Int)) <|
    gd (0≤s3∧s3<(r2.length:Int)) <|
    gd (0≤(ix (ix turns s1) s3)∧(ix (ix turns s1) s3)<(((panels.length:Int).toNat:Nat):Int)∧(panels.length:Int).toNat=s4.length) <|
    x31_l2 panels turns r2 s1 kl2_0 m (w (s3+(1:Int))) (s4.set (ix (ix turns s1) s3).toNat (ix r2 s3))
   else
    kl2_0 s4
def x31_l1 (panels:(List (Int×Int))) (turns:(List (List Int))) (r2:(List Int)) (kl1_0:(List Int)→Option ((List Int)×Int)):Nat→Int→(List Int)→Option ((List Int)×Int)
 | 0,_,_=>none
 | m+1,s1,s2 =>
   if (decide (s1<(turns.length:Int)))=true then
    x31_l2 panels turns r2 s1 (fun z1 =>
      x31_l1 panels turns r2 kl1_0 m (w (s1+(1:Int))) z1) FU (0:Int) s2
   else
    kl1_0 s2
def x31 (b:(Int×(List Int)×Int×Int)) (panels:(List (Int×Int))) (turns:(List (List Int))):Option ((List Int)×Int) :=
 (x27 b panels turns).bind fun r1 =>
 if (decide (r1.2.2≠(0:Int)))=true then
  some ([],r1.2.2)
 else
  gd (0≤(panels.length:Int)∧(panels.length:Int)≤(panels.length:Int)∧(panels.length:Int).toNat*8≤140737488355328) <|
  (x51 b).bind fun r2 =>
  x31_l1 panels turns r2 (fun z2 =>
    gd ((panels.length:Int).toNat=z2.length) <|
    some (z2,(0:Int))) FU (0:Int) (List.replicate (panels.length:Int).toNat (0:Int))

def x4 (b:(Int×(List Int)×Int×Int)) (panels:(List (Int×Int))) (l:(List (List Int))):Option Bool :=
 (x16 b panels).bind fun r1 =>
 if r1=true then
  (x17).bind fun r2 =>
  some r2
 else
  (x25 l).bind fun r3 =>
  if r3=true then
   (x17).bind fun r4 =>
   some r4
  else
   (x26 b panels l).bind fun r5 =>
   (x27 b panels l).bind fun r6 =>
   (x28 b panels l).bind fun r7 =>
   (x29 b panels l).bind fun r8 =>
   (x30 b panels l).bind fun r9 =>
   (x31 b panels l).bind fun r10 =>
   if (decide (r5.1=r6.1))=true then
    if (decide (r5.2.1=r6.2.1))=true then
     if (decide (r5.2.2=r6.2.2))=true then
      (x32 r7.1 r8.1).bind fun r11 =>
      if r11=true then
       if (decide (r7.2=r8.2))=true then
        (x24 r9.1 r10.1).bind fun r12 =>
        if r12=true then
         if (decide (r9.2=r10.2))=true then
          (x17).bind fun r13 =>
          some r13
         else
          some false
        else
         some false
       else
        some false
      else
       some false
     else
      some false
    else
     some false
   else
    some false
end Go.Proofs.YtbnbjjgagikobaaGreat.Ab
