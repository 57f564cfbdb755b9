
import Derived.Test.YtbnbjjgagikobaaGreatJf5
import Derived.KernelRfl
import Derived.Test.YtbnbjjgagikobaaGreatJf4
set_option linter.unusedSimpArgs false
set_option linter.unusedVariables false
set_option linter.unusedSectionVars false

namespace Go.Proofs.YtbnbjjgagikobaaGreat.Ab
open Go
set_option maxRecDepth 20000
set_option maxHeartbeats 4000000
theorem pig:∀ (l br:List Int),l.Nodup→(∀ x∈l,x∈br)→l.length≤br.length
 | [],_,_,_=>Nat.zero_le _
 | x::l,br,hn,h=>by
   have hx:=h x (by simp)
   have hn:=List.nodup_cons.1 hn
   have h1:=pig l (br.erase x) hn.2 fun y hy=>(List.mem_erase_of_ne (fun e=>hn.1 (by rw [←e];exact hy))).2 (h y (by simp [hy]))
   rw [List.length_erase_of_mem hx] at h1
   have:=List.length_pos_of_mem hx
   simp only [List.length_cons];omega
theorem nodup_cast (o:Nat):((List.range o).map fun (i:Nat)=>(i:Int)).Nodup:=by
 rw [List.nodup_iff_pairwise_ne,List.pairwise_map]
 exact List.nodup_range.imp fun h e=>h (by omega)
theorem whole_pos {b:Bed} (hb:BedOk b):0<(wholeL b.1.toNat b.2.1).length:=by
 rcases Nat.eq_zero_or_pos (wholeL b.1.toNat b.2.1).length with h0 | h0
 ·exfalso
  have h1:∀ x∈(List.range b.1.toNat).map (fun (i:Nat)=>(i:Int)),x∈b.2.1:=by
   intro x hx
   obtain ⟨i,hi,rfl⟩:=List.mem_map.1 hx
   rcases Classical.em ((i:Int)∈b.2.1) with h | h
   ·exact h
   ·exfalso
    have:(i:Int)∈wholeL b.1.toNat b.2.1:=by
     unfold wholeL wholeN
     exact List.mem_map.2 ⟨i,List.mem_filter.2 ⟨hi,by simp [h]⟩,rfl⟩
    rw [List.length_eq_zero_iff.1 h0] at this
    cases this
  have h2:=pig _ _ (nodup_cast b.1.toNat) h1
  have h3:=hb.lt
  have h4:=hb.o1
  simp at h2
  omega
 ·exact h0
structure PsOk (ps:List (Int×Int)):Prop where
 len:ps.length≤12
 heat:∀ p∈ps,0≤p.1∧p.1≤20
 hour:∀ p∈ps,1≤p.2∧p.2≤24
theorem badP_false {p:Int×Int}:badP p=false↔(0≤p.1∧p.1≤20)∧(1≤p.2∧p.2≤24):=by
 unfold badP;rw [Bool.or_eq_false_iff,outOf_false,outOf_false]
theorem pErr_iff (ps:List (Int×Int)):pErr ps=0↔PsOk ps:=by
 unfold pErr
 constructor
 ·intro h
  split at h
  ·cases h
  ·split at h
   ·cases h
   ·rename_i h1 h2
    rw [Bool.not_eq_true,List.any_eq_false] at h2
    exact ⟨by omega,fun p hp=>(badP_false.1 (by simpa using h2 p hp)).1,fun p hp=>(badP_false.1 (by simpa using h2 p hp)).2⟩
 ·intro h
  rw [if_neg (by have:=h.len;omega),if_neg]
  rw [Bool.not_eq_true,List.any_eq_false]
  exact fun p hp=>by simp [badP_false.2 ⟨h.heat p hp,h.hour p hp⟩]
theorem PsOk.hrs {ps:List (Int×Int)} (h:PsOk ps):hrsOk ps:=fun p hp=>by have:=h.hour p hp;omega
theorem ofL_range (ps:List (Int×Int)) (heat:Int):∀ i∈ofL ps heat,0≤i∧i<(ps.length:Int):=by
 intro x hx
 obtain ⟨i,hi,rfl⟩:=List.mem_iff_getElem.1 hx
 have hi':i<(idxs ps heat).length:=by rw [ofL_len] at hi;exact hi
 have:=ins_pr (lt:=longer ps) (d:=(idxs ps heat).toArray) (a:=0) (b:=(idxs ps heat).length) (Pr:=fun i=>0≤i∧i<(ps.length:Int)) (fun y hy=>by rw [getElem!_pos _ y hy];exact idxs_range ps heat _ (by simp)) (by simp) i (by simpa using hi')
 rw [getElem!_pos _ i (by rw [ins_size];simpa using hi')] at this
 exact this
theorem r70_eq {x:Bench} (ho:hrsOk x.2.1) {e:List Int} {t:Int} (he:e≠[]) (hr:∀ i∈e,0≤i∧i<(x.2.1.length:Int)) (ht:0≤t∧t≤1000000):x70_r1 x t e=some (t+(ix x.2.1 (e.headD 0)).2)∧0≤(ix x.2.1 (e.headD 0)).2∧(ix x.2.1 (e.headD 0)).2≤24:=by
 cases e with
 | nil=>exact absurd rfl he
 | cons a e =>
   have e0:ix (a::e) (0:Int)=a:=ix_nat (k:=0) (l:=a::e) (by simp)
   have ha:=hr a (by simp)
   have h1:=ho _ (show ix x.2.1 a∈x.2.1 by rw [ix_of ha];exact List.getElem_mem _)
   refine ⟨?_,h1⟩
   unfold x70_r1
   rw [e0,gd_pos ⟨by omega,by simp only [List.length_cons];omega⟩,gd_pos ha,w_id (by omega)]
   rfl
theorem fold70 {x:Bench} (ho:hrsOk x.2.1):∀ (L:List (List Int)) (t:Int),(∀ e∈L,e≠[]∧∀ i∈e,0≤i∧i<(x.2.1.length:Int))→0≤t→t+24*L.length≤1000000→foldO (x70_r1 x) L t=some (t+(L.map fun e=>(ix x.2.1 (e.headD 0)).2).sum)
 | [],t,_,_,_=>by simp [foldO]
 | e::L,t,h,h0,h1=>by
   have h2:=h e (by simp)
   simp only [List.length_cons] at h1
   obtain ⟨h3,h4,h5⟩:=r70_eq ho h2.1 h2.2 (t:=t) (by omega)
   rw [foldO,h3,Option.bind_some,fold70 ho L _ (fun e he=>h e (by simp [he])) (by omega) (by omega),List.map_cons,List.sum_cons,Int.add_assoc]
theorem sum_heads (n:Nat) (hn:0<n) (ps:List (Int×Int)) (heat:Int):((chunks n (ofL ps heat)).map fun e=>(ix ps (e.headD 0)).2).sum=hH n (hrs ps heat):=by
 unfold hH heads
 rw [←ofL_hrs,chunks_map,List.map_map]
 congr 1
 apply List.map_congr_left
 intro e he
 cases e with
 | nil=>exact absurd rfl (chunk_ne hn he)
 | cons a e=>rfl
theorem x70_l1_eq {x:Bench} {N:Nat} (hN:1≤N∧N≤1000) (ho:PsOk x.2.1) {k:Int→Option Int}:∀ (m i:Nat) (z:Int),z=i→i≤21→21-i<m→x70_l1 x (N:Int) k m z (hSum N x.2.1 i)=k (hSum N x.2.1 21)
 | 0,i,_,_,_,h=>absurd h (by omega)
 | m+1,i,_,rfl,hi,hm=>by
   rw [x70_l1]
   by_cases h:i<21
   ·have hl:=ho.len
    have hi2:=idxs_len x.2.1 (i:Int)
    have hs:=hSum_le (n:=N) (by omega) ho.hrs i
    have hc:=cnt_le (fun p hp=>(ho.heat p hp).1) i (ps:=x.2.1)
    have hk:=chunks_cnt (n:=N) (by omega) (ofL x.2.1 (i:Int))
    rw [ofL_len] at hk
    have e1:x76 x (i:Int)=some (ofL x.2.1 (i:Int)):=if_pos (by omega)
    have e2:x75 (ofL x.2.1 (i:Int)) (N:Int)=some ():=if_neg (by rw [decide_eq_true_eq];omega)
    have e3:s98 (ofL x.2.1 (i:Int)) (N:Int)=some (chunks N (ofL x.2.1 (i:Int))):=by
     unfold s98;rw [if_pos ⟨by omega,by omega,by rw [ofL_len];omega⟩,Int.toNat_natCast]
    have e4:=fold70 (x:=x) ho.hrs (chunks N (ofL x.2.1 (i:Int))) (hSum N x.2.1 i) (fun e he=>⟨chunk_ne (by omega) he,fun j hj=>ofL_range _ _ j (chunk_mem he j hj)⟩) (by omega) (by omega)
    rw [sum_heads N (by omega),←hSum_succ] at e4
    rw [if_pos (decide_eq_true (by omega)),e1,Option.bind_some,e2,Option.bind_some,e3,Option.bind_some,e4,Option.bind_some,w_succ i (by omega)]
    exact x70_l1_eq hN ho m (i+1) _ rfl (by omega) (by omega)
   ·obtain rfl:i=21:=by omega
    rw [if_neg (by decide)]
theorem x70_eq {x:Bench} {N:Nat} (hN:1≤N∧N≤1000) (ho:PsOk x.2.1):x70 x (N:Int)=some (hSum N x.2.1 21):=by
 have:=x70_l1_eq (x:=x) hN ho (k:=fun z=>some z) FU 0 0 rfl (by omega) (FU_lt (by omega))
 rw [x70]
 exact this
def wn (b:Bed):Nat:=(wholeL b.1.toNat b.2.1).length
theorem wn_pos {b:Bed} (hb:BedOk b):1≤wn b∧wn b≤10:=⟨whole_pos hb,Nat.le_trans (wholeL_len _ _) (by have:=hb.o10;omega)⟩
theorem x69_eq {b:Bed} (hb:bErr b=0) (hl:b.2.1.length≤20) {ps:List (Int×Int)} (hp:PsOk ps):x69 b ps=some (some (b,ps,wholeL b.1.toNat b.2.1,wantL ps),0):=by
 rw [x69,x20_eq b (by omega),Option.bind_some,hb,if_neg (by decide),x22_eq,Option.bind_some,(pErr_iff ps).2 hp,if_neg (by decide),x59_eq (bedOk hb) hp.heat (by have:=hp.len;omega),Option.bind_some]
theorem x33_eq {b:Bed} (hb:bErr b=0) (hl:b.2.1.length≤20) {ps:List (Int×Int)} (hp:PsOk ps):x33 b ps=some (hSum (wn b) ps 21,0):=by
 have hw:=wn_pos (bedOk hb)
 rw [x33,x69_eq hb hl hp,Option.bind_some]
 show (if (decide ((0:Int)≠(0:Int)))=true then _ else _)=_
 rw [if_neg (by decide)]
 have:=x70_eq (x:=(b,ps,wholeL b.1.toNat b.2.1,wantL ps)) (N:=wn b) ⟨by omega,by omega⟩ hp
 show (x70 (b,ps,wholeL b.1.toNat b.2.1,wantL ps) ((wholeL b.1.toNat b.2.1).length:Int)).bind _=_
 rw [show (wholeL b.1.toNat b.2.1).length=wn b from rfl,this];rfl
theorem x66_eq {b:Bed} (hl:b.2.1.length≤20) (ps:List (Int×Int)):x66 b ps=some (if bErr b=0 then pErr ps else bErr b):=by
 rw [x66,x21_eq b (by omega),Option.bind_some]
 by_cases h:bErr b=0
 ·rw [if_pos h,h,if_neg (by decide),x23_eq];rfl
 ·rw [if_neg h,if_pos (decide_eq_true h)];rfl
def FineOk (b:Bed) (ps:List (Int×Int)):Prop:=b.2.1.length≤20∧bErr b=0∧PsOk ps
theorem x45_eq (b:Bed) (ps:List (Int×Int)):∃ r,x45 b ps=some r∧(r=true→FineOk b ps):=by
 rw [x45,x16_eq,Option.bind_some]
 by_cases h:20<b.2.1.length∨20<ps.length
 ·rw [if_pos (by simpa using h)];exact ⟨_,rfl,fun h=>by cases h⟩
 ·rw [if_neg (by simpa using h),x66_eq (by omega),Option.bind_some]
  refine ⟨_,rfl,fun h2=>?_⟩
  have h3:=of_decide_eq_true h2
  by_cases hb:bErr b=0
  ·rw [if_pos hb] at h3;exact ⟨by omega,hb,(pErr_iff ps).1 h3⟩
  ·rw [if_neg hb] at h3;exact absurd h3 hb

end Go.Proofs.YtbnbjjgagikobaaGreat.Ab


namespace Go.Proofs.YtbnbjjgagikobaaGreat.Ab
open Go
set_option maxRecDepth 20000
set_option maxHeartbeats 4000000

end Go.Proofs.YtbnbjjgagikobaaGreat.Ab


namespace Go.Proofs.YtbnbjjgagikobaaGreat.Ab
open Go
set_option maxRecDepth 20000
set_option maxHeartbeats 4000000
theorem swo_down:Sort.SWO (fun x y:Int=>decide (y<x)):=by
 constructor <;> intros <;> simp_all <;> omega
theorem down_perm (l:List Int):(down l).Perm l:=by
 obtain ⟨⟨h1,_,h3⟩,_⟩:=Sort.insertionSort_holds (lt:=fun x y:Int=>decide (y<x)) swo_down l.toArray 0 l.length (Nat.zero_le _) (by simp)
 unfold down
 generalize Sort.insertionSort (fun x y:Int=>decide (y<x)) l.toArray 0 l.length=d at h1 h3
 have e1:(d.extract 0 l.length).toList=d.toList:=by
  have:l.length=d.size:=by rw [h1];simp
  rw [this];simp
 have e2:(l.toArray.extract 0 l.length).toList=l:=by simp
 rwa [e1,e2] at h3
def dn (l:List Int) (i:Nat):Int:=(down l).getD i 0
theorem dn_get {l:List Int} {i:Nat} (h:i<l.length):dn l i=(down l)[i]'(by rw [down_len];exact h):=by
 unfold dn;rw [List.getD_eq_getElem?_getD,List.getElem?_eq_getElem (by rw [down_len];exact h)];rfl
theorem dn_out {l:List Int} {i:Nat} (h:l.length≤i):dn l i=0:=by
 unfold dn;rw [List.getD_eq_getElem?_getD,List.getElem?_eq_none (by rw [down_len];exact h)];rfl
theorem dn_mono {l:List Int} (h0:∀ x∈l,0≤x) {i j:Nat} (hij:i≤j):dn l j≤dn l i∧0≤dn l j:=by
 have hin:∀ k,0≤dn l k:=fun k=>by
  by_cases h:k<l.length
  ·rw [dn_get h];exact h0 _ ((down_perm l).mem_iff.1 (List.getElem_mem _))
  ·rw [dn_out (by omega)];exact Int.le_refl _
 refine ⟨?_,hin j⟩
 by_cases hj:j<l.length
 ·by_cases e:i=j
  ·subst e;exact Int.le_refl _
  ·obtain ⟨⟨h1,_,_⟩,h4⟩:=Sort.insertionSort_holds (lt:=fun x y:Int=>decide (y<x)) swo_down l.toArray 0 l.length (Nat.zero_le _) (by simp)
   have h5:=h4 i j (Nat.zero_le _) (by omega) hj
   have hs:(Sort.insertionSort (fun x y:Int=>decide (y<x)) l.toArray 0 l.length).size=l.length:=by rw [ins_size];simp
   rw [getElem!_pos _ i (by omega),getElem!_pos _ j (by omega)] at h5
   rw [dn_get hj,dn_get (by omega:i<l.length)]
   unfold down
   simp only [Array.getElem_toList]
   simpa using h5
 ·rw [dn_out (by omega)];exact hin i
theorem head_dn {n:Nat} (hn:0<n) (l:List Int) (j:Nat):((l.drop (j*n)).take n).headD 0=l.getD (j*n) 0:=by
 obtain ⟨k,rfl⟩:∃ k,n=k+1:=⟨n-1,by omega⟩
 rw [List.getD_eq_getElem?_getD]
 have:l[j*(k+1)]?=(l.drop (j*(k+1)))[0]?:=by rw [List.getElem?_drop];rfl
 rw [this]
 cases l.drop (j*(k+1)) with
 | nil=>rfl
 | cons a r=>rfl
theorem hH_dn {n:Nat} (hn:0<n) (l:List Int):hH n l=((List.range ((l.length+n-1) / n)).map fun j=>dn l (j*n)).sum:=by
 unfold hH heads chunks
 rw [List.map_map,down_len]
 congr 1
 apply List.map_congr_left
 intro j _
 exact head_dn hn _ j
theorem perm_sum {a b:List Int} (h:a.Perm b):a.sum=b.sum:=by
 induction h with
 | nil=>rfl
 | cons x _ ih=>rw [List.sum_cons,List.sum_cons,ih]
 | swap x y l=>simp only [List.sum_cons];omega
 | trans _ _ h1 h2=>exact h1.trans h2
theorem hH_one (l:List Int):hH 1 l=l.sum:=by
 rw [hH_dn (by omega),←perm_sum (down_perm l)]
 congr 1
 rw [show (l.length+1-1) / 1=(down l).length by rw [down_len];simp]
 apply List.ext_getElem
 ·simp
 ·intro i h1 h2
  rw [List.getElem_map,List.getElem_range,Nat.mul_one,dn_get (by simpa [down_len] using h2)]

def tot (ps:List (Int×Int)):Int:=(ps.map (·.2)).sum
theorem sum_hrs (ps:List (Int×Int)) (h:∀ p∈ps,0≤p.1):∀ i,((List.range i).map fun (h:Nat)=>(hrs ps (h:Int)).sum).sum=tot (ps.filter fun p=>decide (p.1<(i:Int)))
 | 0=>by
   rw [List.filter_eq_nil_iff.2 fun p hp=>by have:=h p hp;simp;omega];rfl
 | i+1=>by
   rw [List.range_succ,List.map_append,List.sum_append,sum_hrs ps h i]
   simp only [List.map_cons,List.map_nil,List.sum_cons,List.sum_nil,Int.add_zero]
   unfold hrs tot
   clear h
   induction ps with
   | nil=>rfl
   | cons p ps ih =>
     rw [List.filter_cons,List.filter_cons,List.filter_cons]
     by_cases h1:p.1<(i:Int)
     ·rw [if_pos (decide_eq_true h1),if_neg (by simp;omega),if_pos (by simp;omega)];simp only [List.map_cons,List.sum_cons];omega
     ·by_cases h2:p.1=(i:Int)
      ·rw [if_neg (by simp;omega),if_pos (decide_eq_true h2),if_pos (by simp;omega)];simp only [List.map_cons,List.sum_cons];omega
      ·rw [if_neg (by simp;omega),if_neg (by simp;omega),if_neg (by simp;omega)];exact ih
theorem hSum_single {ps:List (Int×Int)} (hp:PsOk ps):hSum 1 ps 21=tot ps:=by
 unfold hSum
 have:=sum_hrs ps (fun p h=>(hp.heat p h).1) 21
 rw [List.filter_eq_self.2 fun p h=>by have:=hp.heat p h;simp;omega] at this
 rw [←this]
 congr 1
 exact List.map_congr_left fun h _=>hH_one _

end Go.Proofs.YtbnbjjgagikobaaGreat.Ab


namespace Go.Proofs.YtbnbjjgagikobaaGreat.Ab
open Go
end Go.Proofs.YtbnbjjgagikobaaGreat.Ab


namespace Go.Proofs.YtbnbjjgagikobaaGreat.Ab
open Go
set_option maxRecDepth 20000
set_option maxHeartbeats 4000000

def sumR (n:Nat) (f:Nat→Int):Int:=((List.range n).map f).sum
theorem sumR_zero (f:Nat→Int):sumR 0 f=0:=rfl
theorem sumR_succ (n:Nat) (f:Nat→Int):sumR (n+1) f=sumR n f+f n:=by
 unfold sumR;rw [List.range_succ,List.map_append,List.sum_append];simp
theorem sumR_congr {f g:Nat→Int}:∀ {n:Nat},(∀ i,i<n→f i=g i)→sumR n f=sumR n g
 | 0,_=>rfl
 | n+1,h=>by rw [sumR_succ,sumR_succ,sumR_congr fun i hi=>h i (by omega),h n (by omega)]
theorem sumR_le {f g:Nat→Int}:∀ {n:Nat},(∀ i,i<n→f i≤g i)→sumR n f≤sumR n g
 | 0,_=>Int.le_refl _
 | n+1,h=>by
   rw [sumR_succ,sumR_succ]
   have:=sumR_le (n:=n) fun i hi=>h i (by omega)
   have:=h n (by omega)
   omega
theorem sumR_add (f g:Nat→Int):∀ n,sumR n (fun i=>f i+g i)=sumR n f+sumR n g
 | 0=>rfl
 | n+1=>by rw [sumR_succ,sumR_succ,sumR_succ,sumR_add f g n];omega
theorem sumR_const0:∀ n,sumR n (fun _=>0)=0
 | 0=>rfl
 | n+1=>by rw [sumR_succ,sumR_const0 n];rfl
theorem sumR_swap (f:Nat→Nat→Int) (m:Nat):∀ n,sumR n (fun i=>sumR m (f i))=sumR m (fun j=>sumR n fun i=>f i j)
 | 0=>(sumR_const0 m).symm
 | n+1=>by
   rw [sumR_succ,sumR_swap f m n,←sumR_add]
   exact sumR_congr fun j _=>by rw [sumR_succ]
theorem sumR_lt (c:Nat):∀ n,c≤n→sumR n (fun i=>if i<c then 1 else 0)=c
 | 0,h=>by obtain rfl:c=0:=by omega
           rfl
 | n+1,h=>by
   rw [sumR_succ]
   by_cases hc:c=n+1
   ·subst hc
    have:sumR n (fun i=>if i<n+1 then (1:Int) else 0)=sumR n (fun i=>if i<n then 1 else 0):=sumR_congr fun i hi=>by rw [if_pos (by omega),if_pos hi]
    rw [this,sumR_lt n n (Nat.le_refl _),if_pos (by omega)];omega
   ·rw [sumR_lt c n (by omega),if_neg (by omega)];omega
theorem ones {x:Int} (h:0≤x∧x≤24):sumR 24 (fun t=>if (t:Int)+1≤x then 1 else 0)=x:=by
 have:=sumR_lt x.toNat 24 (by omega)
 rw [show ((x.toNat:Nat):Int)=x by omega] at this
 rw [←this]
 exact sumR_congr fun t _=>by
  by_cases h1:t<x.toNat
  ·rw [if_pos h1,if_pos (by omega)]
  ·rw [if_neg h1,if_neg (by omega)]
theorem sorted_ge (t:Int):∀ (s:List Int),s.Pairwise (fun a b=>b≤a)→∀ (i:Nat) (hi:i<s.length),t≤s[i]↔i<s.countP (fun x=>decide (t≤x))
 | [],_,i,hi=>absurd hi (by simp)
 | a::r,hp,i,hi=>by
   obtain ⟨h1,h2⟩:=List.pairwise_cons.1 hp
   by_cases ha:t≤a
   ·rw [List.countP_cons_of_pos (by simpa using ha)]
    cases i with
    | zero=>simp [ha]
    | succ i =>
      have:=sorted_ge t r h2 i (by simpa using hi)
      rw [List.getElem_cons_succ,this];omega
   ·rw [List.countP_cons_of_neg (by simpa using ha)]
    have h0:r.countP (fun x=>decide (t≤x))=0:=by
     rw [List.countP_eq_zero];intro x hx;have:=h1 x hx;simp;omega
    rw [h0]
    cases i with
    | zero=>simp [ha]
    | succ i =>
      have:=h1 _ (List.getElem_mem (l:=r) (n:=i) (by simpa using hi))
      rw [List.getElem_cons_succ];omega
theorem down_sorted {l:List Int} (h0:∀ x∈l,0≤x):(down l).Pairwise (fun a b=>b≤a):=by
 rw [List.pairwise_iff_getElem]
 intro i j hi hj hij
 have:=(dn_mono h0 (Nat.le_of_lt hij)).1
 rw [dn_get (i:=i) (by rw [down_len] at hi;exact hi),dn_get (i:=j) (by rw [down_len] at hj;exact hj)] at this
 exact this
theorem dn_ge {l:List Int} (h0:∀ x∈l,0≤x) {t:Int} (ht:1≤t) (i:Nat):t≤dn l i↔i<l.countP (fun x=>decide (t≤x)):=by
 rw [←(down_perm l).countP_eq]
 by_cases hi:i<l.length
 ·rw [dn_get hi]
  exact sorted_ge t (down l) (down_sorted h0) i (by rw [down_len];exact hi)
 ·rw [dn_out (by omega)]
  have:=List.countP_le_length (l:=down l) (p:=fun x=>decide (t≤x))
  rw [down_len] at this
  omega
def ceil (n c:Nat):Nat:=(c+n-1) / n
theorem hH_cnt {n:Nat} (hn:0<n) {l:List Int} (h:∀ x∈l,0≤x∧x≤24):hH n l=sumR 24 (fun t=>(ceil n (l.countP fun x=>decide ((t:Int)+1≤x)):Int)):=by
 have h0:∀ x∈l,0≤x:=fun x hx=>(h x hx).1
 have hd:∀ i,0≤dn l i∧dn l i≤24:=fun i=>by
  by_cases hi:i<l.length
  ·rw [dn_get hi];exact h _ ((down_perm l).mem_iff.1 (List.getElem_mem _))
  ·rw [dn_out (by omega)];omega
 rw [hH_dn hn]
 show sumR (ceil n l.length) (fun j=>dn l (j*n))=_
 have e1:sumR (ceil n l.length) (fun j=>dn l (j*n))=sumR (ceil n l.length) (fun j=>sumR 24 fun t=>if (t:Int)+1≤dn l (j*n) then 1 else 0):=sumR_congr fun j _=>(ones (hd _)).symm
 rw [e1,sumR_swap]
 refine sumR_congr fun t _=>?_
 have hc:l.countP (fun x=>decide ((t:Int)+1≤x))≤l.length:=List.countP_le_length
 have e2:sumR (ceil n l.length) (fun j=>if (t:Int)+1≤dn l (j*n) then (1:Int) else 0)=sumR (ceil n l.length) (fun j=>if j<ceil n (l.countP fun x=>decide ((t:Int)+1≤x)) then 1 else 0):=sumR_congr fun j _=>by
  have h1:=dn_ge h0 (t:=(t:Int)+1) (by omega) (j*n)
  have h2:=chunks_lt (k:=l.countP fun x=>decide ((t:Int)+1≤x)) hn (j:=j)
  unfold ceil
  by_cases hh:(t:Int)+1≤dn l (j*n)
  ·rw [if_pos hh,if_pos (h2.2 (h1.1 hh))]
  ·rw [if_neg hh,if_neg fun hx=>hh (h1.2 (h2.1 hx))]
 rw [e2]
 refine sumR_lt _ _ ?_
 unfold ceil
 exact Nat.div_le_div_right (by omega)
def cP (ps:List (Int×Int)) (h t:Int):Nat:=ps.countP fun p=>decide (p.1=h) && decide (t≤p.2)
theorem hrs_cnt (ps:List (Int×Int)) (h t:Int):(hrs ps h).countP (fun x=>decide (t≤x))=cP ps h t:=by
 unfold hrs cP
 rw [List.countP_map,List.countP_filter]
 exact List.countP_congr fun p _=>by simp [and_comm]
theorem hSum_cnt {n:Nat} (hn:0<n) {ps:List (Int×Int)} (hp:hrsOk ps) (i:Nat):hSum n ps i=sumR i (fun h=>sumR 24 fun t=>(ceil n (cP ps h ((t:Int)+1)):Int)):=by
 show sumR i (fun h=>hH n (hrs ps (h:Int)))=_
 exact sumR_congr fun h _=>by
  rw [hH_cnt hn (hrs_in hp _)]
  exact sumR_congr fun t _=>by rw [hrs_cnt]
theorem ceil_mono (n:Nat) {a b:Nat} (h:a≤b):ceil n a≤ceil n b:=Nat.div_le_div_right (by omega)

end Go.Proofs.YtbnbjjgagikobaaGreat.Ab


namespace Go.Proofs.YtbnbjjgagikobaaGreat.Ab
open Go
set_option maxRecDepth 20000
set_option maxHeartbeats 4000000

end Go.Proofs.YtbnbjjgagikobaaGreat.Ab


namespace Go.Proofs.YtbnbjjgagikobaaGreat.Ab
open Go
set_option maxRecDepth 20000
set_option maxHeartbeats 4000000
noncomputable def xrc72_1:RC :=
 .loop (some [o_,o_,o_,i_,i_,o_,o_,o_,o_,o_,o_,o_,o_,i_,i_,i_,o_,o_,o_,o_,o_,o_,o_,o_,o_,o_,o_]) (.seq (.reg false [I_ 16 [.sl
 15,.sl 14] (.bin .lss)]) (.seq (.cond (.sl 16) .skip (.exit 0)) (.seq (.block 1 (.seq (.reg false [I_ 17 [.sl 13,.sl 15] (.ia 1),I_ 18 [.tv 17] (.ld .one),I_ 6 [.tk 18] .mv]) (.seq (.reg false [I_ 19 [.tk 4] .mv,I_ 20 [.tk
 3] .mv,I_ 21 [.sl 6] .mv,I_ 22 [.cv (.func 93 [] []),.sl 20,.sl 21] (.call 3),I_ 23 [.tv 19,.tv 22] (.bin .add),I_ 4 [.tk 23] .mv]) (.reg false [I_ 24 [.tk 6] .mv,I_ 3 [.tk 24] .mv])))) (.reg false [I_ 25 [.tv 15,.cv
 (.int .i64 1)] (.bin .add),I_ 15 [.tk 25] .mv]))))
noncomputable def xrc72:RC :=
 .seq (.reg false [I_ 2 [.cv (.int .i64 0)] .mv]) (.seq (.reg false [I_ 7 [.sl 0] .mv,I_ 8 [.tv 7] .nilc,I_ 9 [.tv 8] (.fa 0),I_ 10 [.tv 9] (.fa 2),I_ 11 [.tv 10] (.ld .one),I_ 3 [.tk 11] .mv,I_ 4 [.cv (.int .i64 0)] .mv])
 (.seq (.seq (.reg false [I_ 12 [.tk 0] .mv,I_ 13 [.cv (.func 74 [] []),.sl 12] (.call 3),I_ 14 [.sl 13] .lenS,I_ 15 [.cv (.int .i64 0)] .mv]) (.block 0 xrc72_1)) (.seq (.reg false [I_ 26 [.tk 4] .mv,I_ 2 [.tk 26] .mv])
 .ret)))
theorem lxx72:linkF Tryz.prog ann72 72=some (xrc72,27,[.tmp 2]):=by kernel_rfl
def x72_l1 (r1:(List Int)) (kl1_0:Int→Option Int):Nat→Int→Int→Int→Option Int
 | 0,_,_,_=>none
 | m+1,s1,s2,s3 =>
   if (decide (s3<(r1.length:Int)))=true then
    gd (0≤s3∧s3<(r1.length:Int)) <|
    (x93 s1 (ix r1 s3)).bind fun r2 =>
    x72_l1 r1 kl1_0 m (ix r1 s3) (w (s2+r2)) (w (s3+(1:Int)))
   else
    kl1_0 s2
def x72 (x:((Int×(List Int)×Int×Int)×(List (Int×Int))×(List Int)×(List Int))):Option Int :=
 (x74 x).bind fun r1 =>
 x72_l1 r1 (fun z1 =>
   some z1) FU x.1.2.2.1 (0:Int) (0:Int)
theorem x72_l1_ok {r1:(List Int)} {kl1_0:Int→Option Int} {s1:Int} {s2:Int} {s3:Int} {v:Int} {Q:Ex→List AV→List AObj→Prop}   (hkl1_0:∀ (z1:Int) (u0:AV) (u2:AV) (u3:AV) (u6:AV) (u7:AV) (u8:AV) (u9:AV) (u10:AV) (u11:AV) (u12:AV) (u13:AV) (u14:AV) (u15:AV) (u16:AV) (u17:AV) (u18:AV) (u19:AV) (u20:AV) (u21:AV) (u22:AV) (u23:AV) (u24:AV) (u25:AV) (u26:AV),kl1_0 z1=some v→Q (.exit 0) [u0,J,u2,u3,(I z1),J,u6,u7,u8,u9,u10,u11,u12,u13,u14,u15,u16,u17,u18,u19,u20,u21,u22,u23,u24,u25,u26] []) {T:List AV} (hT:zipKeep [o_,o_,o_,i_,i_,o_,o_,o_,o_,o_,o_,o_,o_,i_,i_,i_,o_,o_,o_,o_,o_,o_,o_,o_,o_,o_,o_] T=slots 27 [(3,(I s1)),(4,(I s2)),(13,(.lst (r1.map I) r1.length .shared)),(14,(I (r1.length:Int))),(15,(I s3))]) (h:x72_l1 r1 kl1_0 FU s1 s2 s3=some v) :
  wpR Tryz.prog ann72 72 0 none xrc72_1 T [] Q:=by
 unfold xrc72_1
 skip
 refine wp_loop hT ?_
 refine .intro (fun m T H=>∃ (s1:Int) (s2:Int) (s3:Int),T=slots 27 [(3,(I s1)),(4,(I s2)),(13,(.lst (r1.map I) r1.length .shared)),(14,(I (r1.length:Int))),(15,(I s3))]∧H=[]∧x72_l1 r1 kl1_0 m s1 s2 s3=some v) FU ⟨s1,s2,s3,rfl,rfl,h⟩ ?_
 clear h hT
 rintro m T H ⟨s1,s2,s3,rfl,rfl,h⟩
 cases m
 ·exact none_ne h
 rename_i m
 rw [x72_l1.eq_2] at h
 conv=>whnf
 rcases bt (decide (s3<(r1.length:Int))) with hb2 | hb2
 ·rw [hb2]
  conv=>whnf
  replace h:=it_t hb2 h
  obtain ⟨hb3,h⟩:=gd_some h
  refine ⟨hb3,?_⟩
  rw [drop1 I r1 s3 hb3]
  conv=>whnf
  obtain ⟨r2,hb4,h⟩:=bd_some h
  refine ⟨(allc rfl (allc rfl rfl)),_,x93_ok hb4,?_⟩
  conv=>whnf
  exact ⟨m,Nat.lt_succ_self m,(ix r1 s3),(w (s2+r2)),(w (s3+(1:Int))),rfl,rfl,h⟩
 ·rw [hb2]
  conv=>whnf
  replace h:=it_f hb2 h
  exact hkl1_0 _ _ _ _ _ _ _ _ _ _ _ _ _ _ _ _ _ _ _ _ _ _ _ _ _ h
theorem x72_ok {x:((Int×(List Int)×Int×Int)×(List (Int×Int))×(List Int)×(List Int))} {v:Int} (h:x72 x=some v):PO 72 [(.lptr ((I x.1.1)::(.lst (x.1.2.1.map I) x.1.2.1.length .shared)::(I x.1.2.2.1)::(I x.1.2.2.2)::(.lst (x.2.1.flatMap pr) x.2.1.length .shared)::(.lst (x.2.2.1.map I) x.2.2.1.length .shared)::(x.2.2.2.map I)))] (I v):=by
 refine fn_pureW hmix lxx72 rfl rfl fun Q hQ=>?_
 have hR:∀ T H,RetW [.tmp 2] (I v) .ret T H→Q .ret T H:=fun T H hh=>hQ _ T H hh
 unfold x72 at h
 unfold xrc72
 obtain ⟨c_1,g_1⟩:∃ c,xrc72_1=c:=⟨_,rfl⟩
 rw [g_1]
 conv=>whnf
 obtain ⟨r1,hb1,h⟩:=bd_some h
 refine ⟨(allc (pu_lptr (allc rfl (allc (pu_map (fun _=>rfl) _ _ _) (allc rfl (allc rfl (allc (pu_flat (fun _=>(allc rfl (allc rfl rfl))) _ _ _) (allc (pu_map (fun _=>rfl) _ _ _) (pu_run (fun _=>rfl) _)))))))) rfl),_,x74_ok hb1,?_⟩
 conv=>whnf
 subst g_1
 refine x72_l1_ok ?_ (by exact rfl) h
 intro z1 u0 u2 u3 u6 u7 u8 u9 u10 u11 u12 u13 u14 u15 u16 u17 u18 u19 u20 u21 u22 u23 u24 u25 u26 h
 conv=>whnf
 obtain rfl:=Option.some.inj h
 exact hR _ _ ⟨.inr rfl,_,rfl,_,frz_pure rfl,rfl⟩

noncomputable def xrc35:RC :=
 .seq (.reg false [I_ 2 [.tk 0] .box,I_ 4 [.cv (.int .i64 0)] .mv,I_ 5 [.cv (.int .i64 0)] .mv]) (.seq (.reg false [I_ 9 [.tv 2] (.ld (.str 4)),I_ 10 [.tk 1] .mv,I_ 11 [.cv (.func 69 [] []),.sl 9,.sl 10] (.call 3),I_ 8 [.tk
 11] .mv,I_ 12 [.sl 8] (.ext 0),I_ 13 [.tv 8] (.ext 1),I_ 6 [.tk 12] .mv,I_ 7 [.tk 13] .mv]) (.seq (.seq (.reg false [I_ 14 [.sl 7] .mv,I_ 15 [.tv 14,.cv (.int .i64 0)] (.bin .neq)]) (.cond (.sl 15) (.seq (.reg false [I_
 16 [.tk 7] .mv,I_ 4 [.cv (.int .i64 0)] .mv,I_ 5 [.tk 16] .mv]) .ret) .skip)) (.seq (.reg false [I_ 17 [.tk 6] .mv,I_ 18 [.cv (.func 72 [] []),.sl 17] (.call 3),I_ 4 [.tk 18] .mv,I_ 5 [.cv (.int .i64 0)] .mv]) .ret)))
theorem lxx35:linkF Tryz.prog ann35 35=some (xrc35,19,[.tmp 4,.tmp 5]):=by kernel_rfl
def x35 (b:(Int×(List Int)×Int×Int)) (panels:(List (Int×Int))):Option (Int×Int) :=
 (x69 b panels).bind fun r1 =>
 match r1 with
 | (none,q1) =>
   if (decide (q1≠(0:Int)))=true then
    some ((0:Int),q1)
   else
    none
 | (some p1,q1) =>
   if (decide (q1≠(0:Int)))=true then
    some ((0:Int),q1)
   else
    (x72 p1).bind fun r2 =>
    some (r2,(0:Int))
theorem x35_ok {b:(Int×(List Int)×Int×Int)} {panels:(List (Int×Int))} {v:(Int×Int)} (h:x35 b panels=some v):PO 35 [(.agg [(I b.1),(.lst (b.2.1.map I) b.2.1.length .shared),(I b.2.2.1),(I b.2.2.2)]),(.lst (panels.flatMap pr) panels.length .shared)] (.tuple [(I v.1),(I v.2)]):=by
 refine fn_pureW hmix lxx35 rfl (pu_tup (allc rfl (allc rfl rfl))) fun Q hQ=>?_
 have hR:∀ T H,RetW [.tmp 4,.tmp 5] (.tuple [(I v.1),(I v.2)]) .ret T H→Q .ret T H:=fun T H hh=>hQ _ T H hh
 unfold x35 at h
 unfold xrc35
 skip
 conv=>whnf
 obtain ⟨r1,hb1,h⟩:=bd_some h
 rcases r1 with ⟨_ | p1,q1⟩
 ·refine ⟨(allc (pu_agg (allc rfl (allc (pu_map (fun _=>rfl) _ _ _) (allc rfl (allc rfl rfl))))) (allc (pu_flat (fun _=>(allc rfl (allc rfl rfl))) _ _ _) rfl)),_,x69_ok hb1,?_⟩
  conv=>whnf
  rcases bt (decide (q1≠(0:Int))) with hb2 | hb2
  ·rw [hb2]
   conv=>whnf
   replace h:=it_t hb2 h
   obtain rfl:=Option.some.inj h
   exact hR _ _ ⟨.inr rfl,_,rfl,_,frz_pure (pu_tup (allc rfl (allc rfl rfl))),rfl⟩
  ·rw [hb2]
   conv=>whnf
   replace h:=it_f hb2 h
   exact none_ne h
 ·refine ⟨(allc (pu_agg (allc rfl (allc (pu_map (fun _=>rfl) _ _ _) (allc rfl (allc rfl rfl))))) (allc (pu_flat (fun _=>(allc rfl (allc rfl rfl))) _ _ _) rfl)),_,x69_ok hb1,?_⟩
  conv=>whnf
  rcases bt (decide (q1≠(0:Int))) with hb3 | hb3
  ·rw [hb3]
   conv=>whnf
   replace h:=it_t hb3 h
   obtain rfl:=Option.some.inj h
   exact hR _ _ ⟨.inr rfl,_,rfl,_,frz_pure (pu_tup (allc rfl (allc rfl rfl))),rfl⟩
  ·rw [hb3]
   conv=>whnf
   replace h:=it_f hb3 h
   obtain ⟨r2,hb4,h⟩:=bd_some h
   refine ⟨(allc (pu_lptr (allc rfl (allc (pu_map (fun _=>rfl) _ _ _) (allc rfl (allc rfl (allc (pu_flat (fun _=>(allc rfl (allc rfl rfl))) _ _ _) (allc (pu_map (fun _=>rfl) _ _ _) (pu_run (fun _=>rfl) _)))))))) rfl),_,x72_ok hb4,?_⟩
   conv=>whnf
   obtain rfl:=Option.some.inj h
   exact hR _ _ ⟨.inr rfl,_,rfl,_,frz_pure (pu_tup (allc rfl (allc rfl rfl))),rfl⟩

end Go.Proofs.YtbnbjjgagikobaaGreat.Ab


namespace Go.Proofs.YtbnbjjgagikobaaGreat.Ab
open Go
set_option maxRecDepth 20000
set_option maxHeartbeats 4000000

theorem take_snoc {α:Type} {l:List α} {i:Nat} (h:i<l.length):l.take (i+1)=l.take i++[l[i]]:=by
 rw [List.take_add_one,List.getElem?_eq_getElem h,Option.toList_some]
theorem sumR_bd {f:Nat→Int} {M:Int}:∀ (n:Nat),(∀ i,i<n→0≤f i∧f i≤M)→0≤sumR n f∧sumR n f≤M*n
 | 0,_=>by rw [sumR_zero];simp
 | n+1,h=>by
   have h1:=sumR_bd n fun i hi=>h i (by omega)
   have h2:=h n (by omega)
   rw [sumR_succ,show M*((n+1:Nat):Int)=M*(n:Int)+M by rw [Int.natCast_add,Int.mul_add];simp]
   omega
def eB (b:Bed) (ps:List (Int×Int)):Int:=if bErr b=0 then pErr ps else bErr b
theorem eB_ok {b:Bed} {ps:List (Int×Int)} (h:eB b ps=0):bErr b=0∧PsOk ps:=by
 unfold eB at h
 by_cases hb:bErr b=0
 ·rw [if_pos hb] at h;exact ⟨hb,(pErr_iff ps).1 h⟩
 ·rw [if_neg hb] at h;exact absurd h hb
theorem eB_of {b:Bed} {ps:List (Int×Int)} (hb:bErr b=0) (hp:PsOk ps):eB b ps=0:=by
 unfold eB;rw [if_pos hb];exact (pErr_iff ps).2 hp
theorem x69_err {b:Bed} (hl:b.2.1.length≤1000) {ps:List (Int×Int)} (he:eB b ps≠0):x69 b ps=some (none,eB b ps):=by
 rw [x69,x20_eq b hl,Option.bind_some]
 unfold eB at he ⊢
 by_cases hb:bErr b=0
 ·rw [if_pos hb] at he ⊢
  rw [if_neg (by simp [hb]),x22_eq,Option.bind_some,if_pos (decide_eq_true he)]
 ·rw [if_neg hb] at he ⊢
  rw [if_pos (decide_eq_true hb)]
theorem x66_eB {b:Bed} (hl:b.2.1.length≤20) (ps:List (Int×Int)):x66 b ps=some (eB b ps):=x66_eq hl ps
def minL (s:Int) (l:List Int):Int:=l.foldl min s
def maxL (s:Int) (l:List Int):Int:=l.foldl max s
theorem minL_spec:∀ (l:List Int) (s:Int),minL s l≤s∧(∀ x∈l,minL s l≤x)∧(minL s l=s∨minL s l∈l)
 | [],s=>⟨Int.le_refl _,by simp,.inl rfl⟩
 | a::r,s=>by
   have e:minL s (a::r)=minL (min s a) r:=rfl
   obtain ⟨h1,h2,h3⟩:=minL_spec r (min s a)
   rw [e]
   refine ⟨by omega,fun x hx=>?_,?_⟩
   ·rcases List.mem_cons.1 hx with rfl | hx
    ·omega
    ·exact h2 x hx
   ·rcases h3 with h3 | h3
    ·by_cases h:s≤a
     ·exact .inl (by omega)
     ·exact .inr (by rw [h3,show min s a=a by omega];simp)
    ·exact .inr (by simp [h3])
theorem maxL_spec:∀ (l:List Int) (s:Int),s≤maxL s l∧(∀ x∈l,x≤maxL s l)∧(maxL s l=s∨maxL s l∈l)
 | [],s=>⟨Int.le_refl _,by simp,.inl rfl⟩
 | a::r,s=>by
   have e:maxL s (a::r)=maxL (max s a) r:=rfl
   obtain ⟨h1,h2,h3⟩:=maxL_spec r (max s a)
   rw [e]
   refine ⟨by omega,fun x hx=>?_,?_⟩
   ·rcases List.mem_cons.1 hx with rfl | hx
    ·omega
    ·exact h2 x hx
   ·rcases h3 with h3 | h3
    ·by_cases h:a≤s
     ·exact .inl (by omega)
     ·exact .inr (by rw [h3,show max s a=a by omega];simp)
    ·exact .inr (by simp [h3])
theorem minL_sub {l l':List Int} (h:∀ x∈l',x∈l) (s:Int):minL s l≤minL s l':=by
 have h1:=minL_spec l s
 rcases (minL_spec l' s).2.2 with h2 | h2
 ·omega
 ·exact h1.2.1 _ (h _ h2)
theorem maxL_sub {l l':List Int} (h:∀ x∈l',x∈l) (s:Int):maxL s l'≤maxL s l:=by
 have h1:=maxL_spec l s
 rcases (maxL_spec l' s).2.2 with h2 | h2
 ·omega
 ·exact h1.2.1 _ (h _ h2)
theorem minL_set {l l':List Int} (h:∀ x,x∈l↔x∈l') (s:Int):minL s l=minL s l' :=
 Int.le_antisymm (minL_sub (fun x hx=>(h x).2 hx) s) (minL_sub (fun x hx=>(h x).1 hx) s)
theorem maxL_set {l l':List Int} (h:∀ x,x∈l↔x∈l') (s:Int):maxL s l=maxL s l' :=
 Int.le_antisymm (maxL_sub (fun x hx=>(h x).1 hx) s) (maxL_sub (fun x hx=>(h x).2 hx) s)
theorem minL_min:∀ (r:List Int) (s a:Int),minL (min s a) r=min s (minL a r)
 | [],_,_=>rfl
 | b::r,s,a=>by
   show minL (min (min s a) b) r=min s (minL (min a b) r)
   rw [show min (min s a) b=min s (min a b) by omega,minL_min r]
theorem maxL_max:∀ (r:List Int) (s a:Int),maxL (max s a) r=max s (maxL a r)
 | [],_,_=>rfl
 | b::r,s,a=>by
   show maxL (max (max s a) b) r=max s (maxL (max a b) r)
   rw [show max (max s a) b=max s (max a b) by omega,maxL_max r]
def walk:Int→List Int→Int
 | _,[]=>0
 | s,a::r=>max (s-a) (a-s)+walk a r
def wayM (h:Int) (l:List Int):Int:=(maxL h l-minL h l)+min (h-minL h l) (maxL h l-h)
theorem wayM_set {l l':List Int} (h:∀ x,x∈l↔x∈l') (s:Int):wayM s l=wayM s l':=by unfold wayM;rw [minL_set h,maxL_set h]
theorem walk_up:∀ (r:List Int) (a:Int),(a::r).Pairwise (·<·)→walk a r=maxL a r-a
 | [],a,_=>by show (0:Int)=a-a;omega
 | b::r,a,h=>by
   obtain ⟨h1,h2⟩:=List.pairwise_cons.1 h
   have h3:=h1 b (by simp)
   have e:maxL a (b::r)=maxL b r:=by show maxL (max a b) r=_;rw [show max a b=b by omega]
   have h4:=(maxL_spec r b).1
   rw [walk,walk_up r b h2,e]
   omega
theorem walk_dn:∀ (r:List Int) (a:Int),(a::r).Pairwise (fun x y=>y<x)→walk a r=a-minL a r
 | [],a,_=>by show (0:Int)=a-a;omega
 | b::r,a,h=>by
   obtain ⟨h1,h2⟩:=List.pairwise_cons.1 h
   have h3:=h1 b (by simp)
   have e:minL a (b::r)=minL b r:=by show minL (min a b) r=_;rw [show min a b=b by omega]
   have h4:=(minL_spec r b).1
   rw [walk,walk_dn r b h2,e]
   omega
theorem farD_eq {a b:Int} (ha:0≤a∧a≤1000) (hb:0≤b∧b≤1000):farD a b=max (a-b) (b-a):=by
 unfold farD;rw [w_id (by omega),w_id (by omega)]
theorem order_way {up:List Int} {h:Int} (hp:up.Pairwise (·<·)) (hne:up≠[]) (hr:∀ x∈up,0≤x∧x≤1000) (hh:0≤h∧h≤1000):walk h (if nearer h up.reverse up=true then up.reverse else up)=wayM h up:=by
 cases up with
 | nil=>exact absurd rfl hne
 | cons a r =>
   have hw1:walk h (a::r)=max (h-a) (a-h)+(maxL a r-a):=by rw [walk,walk_up r a hp]
   have hrev:(a::r).reverse.Pairwise (fun x y=>y<x):=List.pairwise_reverse.2 hp
   have hmem:∀ x,x∈(a::r).reverse↔x∈a::r:=fun x=>List.mem_reverse
   cases hc:(a::r).reverse with
   | nil=>have:=congrArg List.length hc;simp at this
   | cons c r' =>
     rw [hc] at hrev hmem
     have hw2:walk h (c::r')=max (h-c) (c-h)+(c-minL c r'):=by rw [walk,walk_dn r' c hrev]
     have ha:=hr a (by simp)
     have hcm:=(hmem c).1 (by simp)
     have hc2:=hr c hcm
     have p1:=(List.pairwise_cons.1 hp).1
     have p2:=(List.pairwise_cons.1 hrev).1
     have hac:∀ x∈a::r,a≤x:=fun x hx=>by
      rcases List.mem_cons.1 hx with rfl | hx
      ·omega
      ·have:=p1 x hx;omega
     have hcc:∀ x∈a::r,x≤c:=fun x hx=>by
      rcases List.mem_cons.1 ((hmem x).2 hx) with rfl | hx
      ·omega
      ·have:=p2 x hx;omega
     have e1:maxL a r=c:=by
      have s:=maxL_spec r a
      refine Int.le_antisymm ?_ ?_
      ·rcases s.2.2 with h | h
       ·rw [h];exact hcc a (by simp)
       ·exact hcc _ (by simp [h])
      ·rcases List.mem_cons.1 hcm with h | h
       ·rw [h];exact s.1
       ·exact s.2.1 c h
     have e2:minL a r=a:=by
      have s:=minL_spec r a
      refine Int.le_antisymm s.1 ?_
      rcases s.2.2 with h | h
      ·rw [h];exact Int.le_refl _
      ·exact hac _ (by simp [h])
     have e3:minL c r'=a:=by
      have s:=minL_spec r' c
      refine Int.le_antisymm ?_ ?_
      ·rcases List.mem_cons.1 ((hmem a).2 (by simp)) with h | h
       ·rw [h];exact s.1
       ·exact s.2.1 a h
      ·rcases s.2.2 with h | h
       ·rw [h];exact hac _ hcm
       ·exact hac _ ((hmem _).1 (by simp [h]))
     have e4:minL h (a::r)=min h a:=(minL_min r h a).trans (by rw [e2])
     have e5:maxL h (a::r)=max h c:=(maxL_max r h a).trans (by rw [e1])
     have e6:nearer h (c::r') (a::r)=decide (max (h-c) (c-h)<max (h-a) (a-h)):=by
      show decide (farD h c<farD h a)=_
      rw [farD_eq hh hc2,farD_eq hh ha]
     have hle:=hcc a (by simp)
     rw [e6]
     unfold wayM
     rw [e4,e5]
     by_cases hn:max (h-c) (c-h)<max (h-a) (a-h)
     ·rw [if_pos (decide_eq_true hn),hw2,e3];omega
     ·rw [if_neg (by simpa using hn),hw1,e1];omega
theorem mem_upTo {want:List Int} {i:Nat} {x:Int}:x∈upTo want i↔∃ j:Nat,j<i∧0<ix want (j:Int)∧x=(j:Int):=by
 unfold upTo
 rw [List.mem_map]
 constructor
 ·rintro ⟨j,hj,rfl⟩
  obtain ⟨h1,h2⟩:=List.mem_filter.1 hj
  exact ⟨j,by simpa using h1,by simpa using h2,rfl⟩
 ·rintro ⟨j,h1,h2,rfl⟩
  exact ⟨j,List.mem_filter.2 ⟨by simpa using h1,by simpa using h2⟩,rfl⟩
theorem upTo_up (want:List Int) (i:Nat):(upTo want i).Pairwise (·<·):=by
 unfold upTo
 rw [List.pairwise_map]
 exact (List.pairwise_lt_range.filter _).imp fun h=>by omega
theorem want_mem {ps:List (Int×Int)} (hp:∀ p∈ps,0≤p.1∧p.1≤20) (x:Int):x∈upTo (wantL ps) 21↔x∈ps.map (·.1):=by
 have hg:∀ j:Nat,j<21→(0<ix (wantL ps) (j:Int)↔∃ p∈ps,p.1=(j:Int)):=fun j hj=>by
  have hl:j<(wantL ps).length:=by rw [wantL_len];exact hj
  rw [ix_nat hl,wantL_get]
  constructor
  ·intro h
   obtain ⟨p,hp⟩:=List.exists_mem_of_length_pos (l:=ps.filter fun p=>decide (p.1=(j:Int))) (by omega)
   obtain ⟨h1,h2⟩:=List.mem_filter.1 hp
   exact ⟨p,h1,by simpa using h2⟩
  ·rintro ⟨p,h1,h2⟩
   have:=List.length_pos_of_mem (l:=ps.filter fun p=>decide (p.1=(j:Int))) (List.mem_filter.2 ⟨h1,by simpa using h2⟩)
   omega
 rw [mem_upTo,List.mem_map]
 constructor
 ·rintro ⟨j,hj,h1,rfl⟩
  exact (hg j hj).1 h1
 ·rintro ⟨p,h1,rfl⟩
  have h2:=hp p h1
  exact ⟨p.1.toNat,by omega,(hg _ (by omega)).2 ⟨p,h1,by omega⟩,by omega⟩
def ordP (h:Int) (ps:List (Int×Int)):List Int:=if nearer h (upTo (wantL ps) 21).reverse (upTo (wantL ps) 21)=true then (upTo (wantL ps) 21).reverse else upTo (wantL ps) 21
theorem ordP_mem {h:Int} {ps:List (Int×Int)} (hp:∀ p∈ps,0≤p.1∧p.1≤20) (x:Int):x∈ordP h ps↔x∈ps.map (·.1):=by
 unfold ordP
 rw [←want_mem hp]
 split
 ·exact List.mem_reverse
 ·exact Iff.rfl
theorem ordP_nodup (h:Int) (ps:List (Int×Int)):(ordP h ps).Nodup:=by
 have h1:(upTo (wantL ps) 21).Nodup:=(upTo_up _ _).imp fun h=>by omega
 unfold ordP
 split
 ·exact List.pairwise_reverse.2 (h1.imp fun h=>Ne.symm h)
 ·exact h1
theorem ordP_len (h:Int) (ps:List (Int×Int)):(ordP h ps).length≤21:=by
 have:=upTo_len (wantL ps) 21
 unfold ordP
 split
 ·rw [List.length_reverse];exact this
 ·exact this
theorem upTo_nil {ps:List (Int×Int)} (hp:∀ p∈ps,0≤p.1∧p.1≤20):ps=[]↔upTo (wantL ps) 21=[]:=by
 constructor
 ·intro h
  refine List.eq_nil_iff_forall_not_mem.2 fun x hx=>?_
  have:=(want_mem hp x).1 hx
  rw [h] at this;cases this
 ·intro h
  refine List.eq_nil_iff_forall_not_mem.2 fun p hx=>?_
  have:=(want_mem hp p.1).2 (List.mem_map.2 ⟨p,hx,rfl⟩)
  rw [h] at this;cases this
theorem want_zero {ps:List (Int×Int)} (hp:∀ p∈ps,0≤p.1∧p.1≤20):wantL ps=List.replicate 21 0↔ps=[]:=by
 constructor
 ·intro h
  refine (upTo_nil hp).2 ?_
  refine List.eq_nil_iff_forall_not_mem.2 fun x hx=>?_
  obtain ⟨j,h1,h2,_⟩:=mem_upTo.1 hx
  rw [h,ix_nat (by simpa using h1),List.getElem_replicate] at h2
  omega
 ·rintro rfl;rfl
theorem orderL_eq {b:Bed} {ps:List (Int×Int)} {wl:List Int} (hp:∀ p∈ps,0≤p.1∧p.1≤20):orderL (b,ps,wl,wantL ps)=ordP b.2.2.1 ps:=by
 show (if wantL ps=List.replicate 21 0 then [] else ordP b.2.2.1 ps)=_
 by_cases h:wantL ps=List.replicate 21 0
 ·rw [if_pos h]
  have:=(upTo_nil hp).1 ((want_zero hp).1 h)
  unfold ordP
  rw [this]
  split <;> rfl
 ·rw [if_neg h]
theorem x74_eq {b:Bed} {ps:List (Int×Int)} {wl:List Int} (hp:∀ p∈ps,0≤p.1∧p.1≤20):x74 (b,ps,wl,wantL ps)=some (ordP b.2.2.1 ps):=by
 rw [x74,if_pos,orderL_eq hp]
 refine ⟨wantL_len ps,?_⟩
 by_cases h:wantL ps=List.replicate 21 0
 ·exact .inr h
 ·refine .inl ?_
  rcases Nat.eq_zero_or_pos (upTo (wantL ps) 21).length with h0 | h0
  ·exact absurd ((want_zero hp).2 ((upTo_nil hp).2 (List.eq_nil_of_length_eq_zero h0))) h
  ·exact h0
theorem ordP_way {h:Int} (hh:0≤h∧h≤20) {ps:List (Int×Int)} (hp:∀ p∈ps,0≤p.1∧p.1≤20):walk h (ordP h ps)=wayM h (ps.map (·.1)):=by
 rw [←wayM_set (want_mem hp) h]
 by_cases h0:upTo (wantL ps) 21=[]
 ·unfold ordP
  rw [h0]
  have:∀ b:Bool,walk h (if b=true then ([]:List Int).reverse else [])=wayM h []:=fun b=>by
   cases b <;> (unfold wayM walk minL maxL;simp;try omega)
  exact this _
 ·unfold ordP
  refine order_way (upTo_up _ _) h0 (fun x hx=>?_) (by omega)
  have:=(want_mem hp x).1 hx
  obtain ⟨p,h1,rfl⟩:=List.mem_map.1 this
  have:=hp p h1;omega
theorem x72_l1_eq {r:List Int} {k:Int→Option Int} (hl:r.length≤1000) (hr:∀ x∈r,0≤x∧x≤20):∀ (m i:Nat) (z s a:Int),z=i→i≤r.length→r.length-i<m→0≤s∧s≤20→0≤a∧a≤20*i→x72_l1 r k m s a z=k (a+walk s (r.drop i))
 | 0,i,_,_,_,_,_,h,_,_=>absurd h (by omega)
 | m+1,i,_,s,a,rfl,hi,hm,hs,ha=>by
   rw [x72_l1]
   by_cases hlt:i<r.length
   ·have h1:=hr _ (List.getElem_mem hlt)
    have e:x93 s (ix r (i:Int))=some (max (s-r[i]) (r[i]-s)):=by
     rw [ix_nat hlt];show some (farD s r[i])=_;rw [farD_eq (by omega) (by omega)]
    rw [iflt hlt,gdi hlt,e,Option.bind_some,w_succ i (by omega),ix_nat hlt,w_id (by omega),x72_l1_eq hl hr m (i+1) _ _ _ rfl (by omega) (by omega) h1 (by omega),List.drop_eq_getElem_cons hlt,walk,Int.add_assoc]
   ·obtain rfl:i=r.length:=by omega
    rw [ifge hlt,List.drop_length]
    show k a=k (a+0)
    rw [Int.add_zero]
theorem x72_eq {b:Bed} {ps:List (Int×Int)} {wl:List Int} (hh:0≤b.2.2.1∧b.2.2.1≤20) (hp:∀ p∈ps,0≤p.1∧p.1≤20):x72 (b,ps,wl,wantL ps)=some (wayM b.2.2.1 (ps.map (·.1))):=by
 have hl:=ordP_len b.2.2.1 ps
 have:=x72_l1_eq (r:=ordP b.2.2.1 ps) (k:=fun z=>some z) (by omega) (fun x hx=>by
  obtain ⟨p,h1,rfl⟩:=List.mem_map.1 ((ordP_mem hp x).1 hx)
  exact hp p h1) FU 0 0 b.2.2.1 0 rfl (Nat.zero_le _) (FU_lt (by omega)) hh (by omega)
 rw [List.drop_zero,ordP_way hh hp,Int.zero_add] at this
 rw [x72,x74_eq hp,Option.bind_some]
 exact this
theorem x35_eq {b:Bed} (hb:bErr b=0) (hl:b.2.1.length≤20) {ps:List (Int×Int)} (hp:PsOk ps):x35 b ps=some (wayM b.2.2.1 (ps.map (·.1)),0):=by
 have hB:=bedOk hb
 rw [x35,x69_eq hb hl hp,Option.bind_some]
 show (if (decide ((0:Int)≠(0:Int)))=true then _ else _)=_
 rw [if_neg (by decide),x72_eq hB.h0 hp.heat];rfl

noncomputable def xrc89:RC :=
 .seq (.reg false [I_ 4 [.cv (.bool false)] .mv]) (.seq (.reg true [I_ 5 [.sl 1] (.ld .one),I_ 6 [.tk 0] .mv,I_ 7 [.tv 5,.tv 6] (.ia 2),I_ 8 [.tv 7] (.fa 0),I_ 9 [.tv 8] (.ld .one),I_ 10 [.sl 1] (.ld .one),I_ 11 [.tv 2]
 (.ld .one),I_ 12 [.tv 11,.cv (.int .i64 0)] (.ia 1),I_ 13 [.tv 12] (.ld .one),I_ 14 [.tv 10,.tv 13] (.ia 2),I_ 15 [.tv 14] (.fa 0),I_ 16 [.tv 15] (.ld .one),I_ 17 [.tv 9,.tv 16] (.bin .neq),I_ 4 [.tk 17] .mv]) .ret)
theorem lxx89:linkF Tryz.prog ann89 89=some (xrc89,18,[.tmp 4]):=by kernel_rfl
def x89 (i:Int) (c0:(List (Int×Int))) (c1:(List Int)):Option Bool :=
 gd (0≤i∧i<(c0.length:Int)) <|
 gd (0≤(0:Int)∧(0:Int)<(c1.length:Int)) <|
 gd (0≤(ix c1 (0:Int))∧(ix c1 (0:Int))<(c0.length:Int)) <|
 some (decide ((ix c0 i).1≠(ix c0 (ix c1 (0:Int))).1))
theorem x89_ok {i:Int} {c0:(List (Int×Int))} {c1:(List Int)} {v:Bool} (h:x89 i c0 c1=some v):PO 89 [(I i),(.lptr [(.lst (c0.flatMap pr) c0.length .shared)]),(.lptr [(.lst (c1.map I) c1.length .shared)])] (B v):=by
 refine fn_pureW hmix lxx89 rfl rfl fun Q hQ=>?_
 have hR:∀ T H,RetW [.tmp 4] (B v) .ret T H→Q .ret T H:=fun T H hh=>hQ _ T H hh
 unfold x89 at h
 unfold xrc89
 skip
 conv=>whnf
 obtain ⟨hb1,h⟩:=gd_some h
 refine ⟨hb1,?_⟩
 rw [dropS pr 2 pr_len c0 i hb1]
 conv=>whnf
 obtain ⟨hb2,h⟩:=gd_some h
 refine ⟨hb2,?_⟩
 rw [drop1 I c1 (0:Int) hb2]
 conv=>whnf
 obtain ⟨hb3,h⟩:=gd_some h
 refine ⟨hb3,?_⟩
 rw [dropS pr 2 pr_len c0 (ix c1 (0:Int)) hb3]
 conv=>whnf
 obtain rfl:=Option.some.inj h
 exact hR _ _ ⟨.inr rfl,_,rfl,_,frz_pure rfl,rfl⟩

noncomputable def xrc90:RC :=
 .seq (.reg false [I_ 3 [.cv (.bool false)] .mv]) (.seq (.reg false [I_ 4 [.tv 1] (.ld .one),I_ 5 [.tk 0] .mv,I_ 6 [.tv 4,.tv 5] (.ia 1),I_ 7 [.tv 6] (.ld .one),I_ 8 [.tv 7,.cv (.int .i64 0)] (.bin .gtr),I_ 3 [.tk 8] .mv])
 .ret)
theorem lxx90:linkF Tryz.prog ann90 90=some (xrc90,9,[.tmp 3]):=by kernel_rfl
def x90 (i:Int) (c0:(List Int)):Option Bool :=
 gd (0≤i∧i<(c0.length:Int)) <|
 some (decide ((0:Int)<(ix c0 i)))
theorem x90_ok {i:Int} {c0:(List Int)} {v:Bool} (h:x90 i c0=some v):PO 90 [(I i),(.lptr [(.lst (c0.map I) c0.length .shared)])] (B v):=by
 refine fn_pureW hmix lxx90 rfl rfl fun Q hQ=>?_
 have hR:∀ T H,RetW [.tmp 3] (B v) .ret T H→Q .ret T H:=fun T H hh=>hQ _ T H hh
 unfold x90 at h
 unfold xrc90
 skip
 conv=>whnf
 obtain ⟨hb1,h⟩:=gd_some h
 refine ⟨hb1,?_⟩
 rw [drop1 I c0 i hb1]
 conv=>whnf
 obtain rfl:=Option.some.inj h
 exact hR _ _ ⟨.inr rfl,_,rfl,_,frz_pure rfl,rfl⟩

noncomputable def xrc91_1:RC :=
 .loop (some [o_,i_,o_,o_,o_,i_,o_,o_,o_,o_,o_,o_,i_,i_,i_,o_,o_,o_,o_,o_,o_,o_,o_,o_,o_]) (.seq (.reg false [I_ 15 [.sl 14,.sl 13]
 (.bin .lss)]) (.seq (.cond (.sl 15) .skip (.exit 0)) (.seq (.block 1 (.seq (.reg false [I_ 16 [.sl 12,.sl 14] (.ia 1),I_ 17 [.tv 16] (.ld .one),I_ 7 [.tk 17] .mv]) (.seq (.reg false [I_ 18 [.sl 1] .mv,I_ 19 [.sl 7] .mv,I_
 20 [.sl 5] .mv,I_ 21 [.sl 18,.sl 19,.sl 20] (.call 6)]) (.cond (.sl 21) (.reg false [I_ 22 [.tk 7] .mv,I_ 5 [.tk 22] .mv]) .skip)))) (.reg false [I_ 23 [.tv 14,.cv (.int .i64 1)] (.bin .add),I_ 14 [.tk 23] .mv]))))
noncomputable def xrc91:RC :=
 .seq (.reg false [I_ 4 [.cv (.int .i64 0)] .mv]) (.seq (.reg false [I_ 8 [.sl 0] .mv,I_ 9 [.tv 8,.cv (.int .i64 0)] (.ia 1),I_ 10 [.tv 9] (.ld .one),I_ 5 [.tk 10] .mv]) (.seq (.seq (.reg false [I_ 11 [.tk 0] .mv,I_ 12 [.tk
 11,.cv (.int .i64 1)] (.slS 1 true false false),I_ 13 [.sl 12] .lenS,I_ 14 [.cv (.int .i64 0)] .mv]) (.block 0 xrc91_1)) (.seq (.reg false [I_ 24 [.tk 5] .mv,I_ 4 [.tk 24] .mv]) .ret)))
theorem lxx91:linkF Tryz.prog ann91 91=some (xrc91,25,[.tmp 4]):=by kernel_rfl
def x91_l1 (l:(List Int)) (better:(Int→Int→Option Bool)) (kl1_0:Int→Option Int):Nat→Int→Int→Option Int
 | 0,_,_=>none
 | m+1,s1,s2 =>
   if (decide (s2<((l.drop (1:Int).toNat).length:Int)))=true then
    gd (0≤s2∧s2<((l.drop (1:Int).toNat).length:Int)) <|
    (better (ix (l.drop (1:Int).toNat) s2) s1).bind fun r1 =>
    if r1=true then
     x91_l1 l better kl1_0 m (ix (l.drop (1:Int).toNat) s2) (w (s2+(1:Int)))
    else
     x91_l1 l better kl1_0 m s1 (w (s2+(1:Int)))
   else
    kl1_0 s1
def x91 (l:(List Int)) (better:(Int→Int→Option Bool)):Option Int :=
 gd (0≤(0:Int)∧(0:Int)<(l.length:Int)) <|
 gd (0≤(1:Int)∧(1:Int)≤(l.length:Int)) <|
 x91_l1 l better (fun z1 =>
   some z1) FU (ix l (0:Int)) (0:Int)
theorem x91_l1_ok {l:(List Int)} {better:(Int→Int→Option Bool)} {kl1_0:Int→Option Int} {s1:Int} {s2:Int} {kf_better:FuncId} {fc_better:List AV} (hc_better:fc_better.all (pureD 7)=true) (hk_better:∀ (y0:Int) (y1:Int) (r:Bool),better y0 y1=some r→PO kf_better [.lptr fc_better,(I y0),(I y1)] (B r)) {v:Int} {Q:Ex→List AV→List AObj→Prop}   (hkl1_0:∀ (z1:Int) (u0:AV) (u1:AV) (u4:AV) (u7:AV) (u8:AV) (u9:AV) (u10:AV) (u11:AV) (u12:AV) (u13:AV) (u14:AV) (u15:AV) (u16:AV) (u17:AV) (u18:AV) (u19:AV) (u20:AV) (u21:AV) (u22:AV) (u23:AV) (u24:AV),kl1_0 z1=some v→Q (.exit 0) [u0,u1,J,J,u4,(I z1),J,u7,u8,u9,u10,u11,u12,u13,u14,u15,u16,u17,u18,u19,u20,u21,u22,u23,u24] []) {T:List AV} (hT:zipKeep [o_,i_,o_,o_,o_,i_,o_,o_,o_,o_,o_,o_,i_,i_,i_,o_,o_,o_,o_,o_,o_,o_,o_,o_,o_] T=slots 25 [(1,(.func kf_better [.lptr fc_better] [])),(5,(I s1)),(12,(.lst ((l.drop (1:Int).toNat).map I) (l.drop (1:Int).toNat).length .shared)),(13,(I ((l.drop (1:Int).toNat).length:Int))),(14,(I s2))]) (h:x91_l1 l better kl1_0 FU s1 s2=some v) :
  wpR Tryz.prog ann91 91 0 none xrc91_1 T [] Q:=by
 unfold xrc91_1
 skip
 refine wp_loop hT ?_
 refine .intro (fun m T H=>∃ (s1:Int) (s2:Int),T=slots 25 [(1,(.func kf_better [.lptr fc_better] [])),(5,(I s1)),(12,(.lst ((l.drop (1:Int).toNat).map I) (l.drop (1:Int).toNat).length .shared)),(13,(I ((l.drop (1:Int).toNat).length:Int))),(14,(I s2))]∧H=[]∧x91_l1 l better kl1_0 m s1 s2=some v) FU ⟨s1,s2,rfl,rfl,h⟩ ?_
 clear h hT
 rintro m T H ⟨s1,s2,rfl,rfl,h⟩
 cases m
 ·exact none_ne h
 rename_i m
 rw [x91_l1.eq_2] at h
 conv=>whnf
 rcases bt (decide (s2<((l.drop (1:Int).toNat).length:Int))) with hb3 | hb3
 ·rw [hb3]
  conv=>whnf
  replace h:=it_t hb3 h
  obtain ⟨hb4,h⟩:=gd_some h
  refine ⟨hb4,?_⟩
  rw [drop1 I (l.drop (1:Int).toNat) s2 hb4]
  conv=>whnf
  obtain ⟨r1,hb5,h⟩:=bd_some h
  refine ⟨_,_,call6 (bs:=[.lptr fc_better,(I (ix (l.drop (1:Int).toNat) s2)),(I s1)]) (by rfl) (by exact (allc (pu_lptr hc_better) (allc rfl (allc rfl rfl)))) (hk_better _ _ _ hb5) rfl,?_⟩
  conv=>whnf
  cases r1
  ·conv=>whnf
   replace h:=it_f rfl h
   exact ⟨m,Nat.lt_succ_self m,s1,(w (s2+(1:Int))),rfl,rfl,h⟩
  ·conv=>whnf
   replace h:=it_t rfl h
   exact ⟨m,Nat.lt_succ_self m,(ix (l.drop (1:Int).toNat) s2),(w (s2+(1:Int))),rfl,rfl,h⟩
 ·rw [hb3]
  conv=>whnf
  replace h:=it_f hb3 h
  exact hkl1_0 _ _ _ _ _ _ _ _ _ _ _ _ _ _ _ _ _ _ _ _ _ _ h
theorem x91_ok {l:(List Int)} {better:(Int→Int→Option Bool)} {kf_better:FuncId} {fc_better:List AV} (hc_better:fc_better.all (pureD 7)=true) (hk_better:∀ (y0:Int) (y1:Int) (r:Bool),better y0 y1=some r→PO kf_better [.lptr fc_better,(I y0),(I y1)] (B r)) {v:Int} (h:x91 l better=some v):PO 91 [(.lst (l.map I) l.length .shared),(.func kf_better [.lptr fc_better] [])] (I v):=by
 refine fn_pureW hmix lxx91 rfl rfl fun Q hQ=>?_
 have hR:∀ T H,RetW [.tmp 4] (I v) .ret T H→Q .ret T H:=fun T H hh=>hQ _ T H hh
 unfold x91 at h
 unfold xrc91
 obtain ⟨c_1,g_1⟩:∃ c,xrc91_1=c:=⟨_,rfl⟩
 rw [g_1]
 conv=>whnf
 obtain ⟨hb1,h⟩:=gd_some h
 refine ⟨hb1,?_⟩
 rw [drop1 I l (0:Int) hb1]
 conv=>whnf
 obtain ⟨hb2,h⟩:=gd_some h
 refine ⟨hb2,?_⟩
 erw [slLo I l (1:Int) hb2]
 conv=>whnf
 subst g_1
 refine x91_l1_ok hc_better hk_better ?_ (by exact rfl) h
 intro z1 u0 u1 u4 u7 u8 u9 u10 u11 u12 u13 u14 u15 u16 u17 u18 u19 u20 u21 u22 u23 u24 h
 conv=>whnf
 obtain rfl:=Option.some.inj h
 exact hR _ _ ⟨.inr rfl,_,rfl,_,frz_pure rfl,rfl⟩

def E_turn (x:((List Int)×Int×Int)):List AV:=[(.lst (x.1.map I) x.1.length .shared),(I x.2.1),(I x.2.2)]
theorem E_turn_len (x:((List Int)×Int×Int)):(E_turn x).length=3:=rfl
noncomputable def xrc65_1:RC :=
 .cond (.sl 40) (.seq (.reg false [I_ 6 [.cv .nilp] .mv,I_ 7 [.cv (.lst [] 0 .full)] (.nil 3),I_ 8 [.cv (.int .i64 2)] .mv]) .ret) (.seq (.reg true [I_ 52 [.sl 16] (.ld .one),I_ 53 [.tk 52] .lenS,I_ 54 [.sl 9] .mv,I_ 55 [.tv
 54] .nilc,I_ 56 [.tv 55] (.fa 5),I_ 57 [.tv 56] (.ld .one),I_ 58 [.tk 57] .lenS,I_ 59 [.tv 53,.tv 58] (.bin .gtr),I_ 51 [.tk 59] .mv]) (.cond (.sl 51) (.seq (.reg false [I_ 6 [.cv .nilp] .mv,I_ 7 [.cv (.lst [] 0 .full)]
 (.nil 3),I_ 8 [.cv (.int .i64 10)] .mv]) .ret) (.seq (.reg false [I_ 61 [.sl 16] (.ld .one),I_ 62 [.sl 4,.sl 16] (.mkF 89 0 2),I_ 63 [.cv (.func 86 [] []),.sl 61,.sl 62] (.call 6),I_ 60 [.tk 63] .mv]) (.cond (.sl 60)
 (.seq (.reg false [I_ 6 [.cv .nilp] .mv,I_ 7 [.cv (.lst [] 0 .full)] (.nil 3),I_ 8 [.cv (.int .i64 24)] .mv]) .ret) (.seq (.reg false [I_ 65 [.sl 16] (.ld .one),I_ 66 [.sl 11] (.mkF 90 0 1),I_ 67 [.cv (.func 86 [] []),.sl
 65,.sl 66] (.call 6),I_ 64 [.tk 67] .mv]) (.cond (.sl 64) (.seq (.reg false [I_ 6 [.cv .nilp] .mv,I_ 7 [.cv (.lst [] 0 .full)] (.nil 3),I_ 8 [.cv (.int .i64 16)] .mv]) .ret) .skip))))))
noncomputable def xrc65_3:RC :=
 .loop (some [o_,o_,o_,o_,i_,o_,o_,o_,o_,i_,o_,i_,i_,i_,i_,o_,i_,o_,o_,o_,o_,o_,o_,o_,o_,o_,o_,o_,o_,o_,o_,o_,o_,o_,i_,i_,i_,o_,o_,o_,o_,o_,o_,o_,o_,o_,o_,o_,o_,o_,o_,o_,o_,o_,o_,o_,o_,o_,o_,o_,o_,o_,o_,o_,o_,o_,o_,o_,i_,i_,i_,o_,o_,o_,o_,o_,o_,o_,o_,o_,o_,o_,o_,o_,o_,o_,o_,o_,o_,o_,o_,o_,o_,o_,o_,o_,o_,o_,o_,o_,o_,o_,o_,o_,o_,o_,o_,o_,o_,o_,o_,o_,o_,o_,o_,o_]) (.seq (.reg false [I_ 71 [.sl 70,.sl 69] (.bin .lss)]) (.seq (.cond (.sl 71) .skip (.exit 3)) (.seq
 (.block 4 (.seq (.reg false [I_ 72 [.sl 68,.sl 70] (.ia 1),I_ 73 [.tv 72] (.ld .one),I_ 18 [.tk 73] .mv]) (.reg false [I_ 74 [.sl 11] (.ld .one),I_ 75 [.tk 18] .mv,I_ 76 [.sl 74,.sl 75] (.ia 1),I_ 77 [.tv 76] (.ld .one),
 I_ 78 [.tv 77,.cv (.int .i64 1)] (.bin .add),I_ 79 [.tv 74,.tv 75] (.ia 1),⟨none,[.tk 79,.tk 78],none,none,.st 1⟩]))) (.reg false [I_ 80 [.tv 70,.cv (.int .i64 1)] (.bin .add),I_ 70 [.tk 80] .mv]))))
noncomputable def xrc65_4:RC :=
 .seq (.seq (.reg false [I_ 68 [.sl 16] (.ld .one),I_ 69 [.sl 68] .lenS,I_ 70 [.cv (.int .i64 0)] .mv]) (.block 3 xrc65_3)) (.seq (.reg false [I_ 81 [.tk 14] .mv,I_ 82 [.sl 16] (.ld .one),I_ 83 [.tk 82] .lenS,I_ 84 [.tv 81,
 .tv 83] (.bin .add),I_ 14 [.tk 84] .mv]) (.seq (.reg true [I_ 85 [.sl 4] (.ld .one),I_ 86 [.sl 16] (.ld .one),I_ 87 [.tv 86,.cv (.int .i64 0)] (.ia 1),I_ 88 [.tv 87] (.ld .one),I_ 89 [.tv 85,.tv 88] (.ia 2),I_ 90 [.tv
 89] (.fa 0),I_ 91 [.tv 90] (.ld .one),I_ 19 [.tk 91] .mv]) (.seq (.reg true [I_ 92 [.tk 12] .mv,I_ 93 [.sl 16] (.ld .one),I_ 94 [.sl 4] (.ld .one),I_ 95 [.sl 16] (.ld .one),I_ 96 [.sl 9] .mv,I_ 97 [.tv 96] (.mkF 92 1 0),
 I_ 98 [.cv (.func 91 [] []),.sl 95,.sl 97] (.call 3),I_ 99 [.tv 94,.tv 98] (.ia 2),I_ 100 [.tv 99] (.fa 1),I_ 101 [.tv 100] (.ld .one),I_ 102 [.tk 13] .mv,I_ 103 [.sl 19] .mv,I_ 104 [.cv (.func 93 [] []),.sl 102,.sl
 103] (.call 3),I_ 105 [.tv 93,.tv 101,.tv 104] (.build [.lst [] 0 .full,.int .i64 0,.int .i64 0] [(0,1),(1,1),(2,1)]),I_ 106 [.tv 105] (.buildS 1 3 [.lst [] 0 .full,.int .i64 0,.int .i64 0] [0]),I_ 107 [.tk 92,
 .tk 106] (.app 3 40),I_ 12 [.tk 107] .mv]) (.reg false [I_ 108 [.tk 19] .mv,I_ 13 [.tk 108] .mv]))))
noncomputable def xrc65_2:RC :=
 .loop (some [o_,o_,o_,o_,i_,o_,o_,o_,o_,i_,o_,i_,i_,i_,i_,o_,o_,o_,o_,o_,o_,o_,o_,o_,o_,o_,o_,o_,o_,o_,o_,o_,o_,o_,i_,i_,i_,o_,o_,o_,o_,o_,o_,o_,o_,o_,o_,o_,o_,o_,o_,o_,o_,o_,o_,o_,o_,o_,o_,o_,o_,o_,o_,o_,o_,o_,o_,o_,o_,o_,o_,o_,o_,o_,o_,o_,o_,o_,o_,o_,o_,o_,o_,o_,o_,o_,o_,o_,o_,o_,o_,o_,o_,o_,o_,o_,o_,o_,o_,o_,o_,o_,o_,o_,o_,o_,o_,o_,o_,o_,o_,o_,o_,o_,o_,o_]) (.seq (.reg false [I_ 37 [.sl 36,.sl 35] (.bin .lss)]) (.seq (.cond (.sl 37) .skip
 (.exit 0)) (.seq (.block 1 (.seq (.reg false [I_ 38 [.sl 34,.sl 36] (.ia 1),I_ 39 [.tv 38] (.ld .one),I_ 16 [] (.alloc [.lst [] 0 .full]),⟨none,[.sl 16,.tk 39],none,none,.st 1⟩]) (.seq (.block 2 (.seq (.reg false [I_
 41 [.sl 16] (.ld .one),I_ 42 [.tk 41] .lenS,I_ 43 [.tv 42,.cv (.int .i64 0)] (.bin .eql),I_ 44 [.tk 43] .mv,⟨some 45,[.sl 16],some (44,false),none,.ld .one⟩,⟨some 46,[.sl 4],some (44,false),none,.ld .one⟩,⟨some
 47,[.tk 46],some (44,false),none,.lenS⟩,⟨some 48,[.cv (.func 61 [] []),.sl 45,.sl 47],some (44,false),none,.call 3⟩,⟨some 49,[.tv 48],some (44,false),none,.un .not⟩,I_ 50 [.tv 44,.cv (.bool true),.tv 49]
 .pick,I_ 40 [.tk 50] .mv]) xrc65_1)) xrc65_4))) (.reg false [I_ 109 [.tv 36,.cv (.int .i64 1)] (.bin .add),I_ 36 [.tk 109] .mv]))))
noncomputable def xrc65:RC :=
 .seq (.reg false [I_ 3 [.tk 0] .box,I_ 4 [.tk 1] .box,I_ 6 [.cv .nilp] .mv,I_ 7 [.cv (.lst [] 0 .full)] (.nil 3),I_ 8 [.cv (.int .i64 0)] .mv]) (.seq (.reg false [I_ 21 [.sl 3] (.ld (.str 4)),I_ 22 [.sl 4] (.ld .one),I_ 23
 [.cv (.func 69 [] []),.sl 21,.sl 22] (.call 3),I_ 20 [.tk 23] .mv,I_ 24 [.sl 20] (.ext 0),I_ 25 [.tv 20] (.ext 1),I_ 9 [.tk 24] .mv,I_ 10 [.tk 25] .mv]) (.seq (.seq (.reg false [I_ 26 [.sl 10] .mv,I_ 27 [.tv 26,.cv
 (.int .i64 0)] (.bin .neq)]) (.cond (.sl 27) (.seq (.reg false [I_ 28 [.tk 10] .mv,I_ 6 [.cv .nilp] .mv,I_ 7 [.cv (.lst [] 0 .full)] (.nil 3),I_ 8 [.tk 28] .mv]) .ret) .skip)) (.seq (.reg false [I_ 29 [.sl 4] (.ld .one),I_
 30 [.tk 29] .lenS,I_ 31 [.sl 30,.tv 30] (.mkS [.int .i64 0] 1 8),I_ 11 [] (.alloc [.lst [] 0 .full]),⟨none,[.sl 11,.tk 31],none,none,.st 1⟩]) (.seq (.reg false [I_ 12 [.cv (.lst [] 0 .full)] (.nil 3)]) (.seq (.reg
 false [I_ 32 [.tv 3] (.fa 2),I_ 33 [.tv 32] (.ld .one),I_ 13 [.tk 33] .mv,I_ 14 [.cv (.int .i64 0)] .mv]) (.seq (.seq (.reg false [I_ 34 [.tk 2] .mv,I_ 35 [.sl 34] .lenS,I_ 36 [.cv (.int .i64 0)] .mv]) (.block 0 xrc65_2))
 (.seq (.seq (.reg false [I_ 110 [.tk 14] .mv,I_ 111 [.tv 4] (.ld .one),I_ 112 [.tk 111] .lenS,I_ 113 [.tv 110,.tv 112] (.bin .lss)]) (.cond (.sl 113) (.seq (.reg false [I_ 6 [.cv .nilp] .mv,I_ 7 [.cv (.lst [] 0 .full)]
 (.nil 3),I_ 8 [.cv (.int .i64 14)] .mv]) .ret) .skip)) (.seq (.reg false [I_ 114 [.tk 9] .mv,I_ 115 [.tk 12] .mv,I_ 6 [.tk 114] .mv,I_ 7 [.tk 115] .mv,I_ 8 [.cv (.int .i64 0)] .mv]) .ret))))))))
theorem lxx65:linkF Tryz.prog ann65 65=some (xrc65,116,[.tmp 6,.tmp 7,.tmp 8]):=by kernel_rfl
def x65_j2  (j1:Bool):Option ((Option ((Int×(List Int)×Int×Int)×(List (Int×Int))×(List Int)×(List Int)))×(List ((List Int)×Int×Int))×Int) :=
 if j1=true then
  some (none,[],(2:Int))
 else
  none
def x65_l1 (panels:(List (Int×Int))) (turns:(List (List Int))) (kl1_0:Unit→Option ((Option ((Int×(List Int)×Int×Int)×(List (Int×Int))×(List Int)×(List Int)))×(List ((List Int)×Int×Int))×Int)):Nat→Option ((Option ((Int×(List Int)×Int×Int)×(List (Int×Int))×(List Int)×(List Int)))×(List ((List Int)×Int×Int))×Int)
 | 0=>none
 | m+1 =>
   if (decide ((0:Int)<(turns.length:Int)))=true then
    gd (0≤(0:Int)∧(0:Int)<(turns.length:Int)) <|
    if (decide (((ix turns (0:Int)).length:Int)=(0:Int)))=true then
     x65_j2 true
    else
     (x61 (ix turns (0:Int)) (panels.length:Int)).bind fun r2 =>
     x65_j2 (!r2)
   else
    kl1_0 ()
def x65_j4 (panels:(List (Int×Int))) (turns:(List (List Int))) (p1:((Int×(List Int)×Int×Int)×(List (Int×Int))×(List Int)×(List Int))) (s4:Int) (s5:(List Int)) (kj4_0:Unit→Option ((Option ((Int×(List Int)×Int×Int)×(List (Int×Int))×(List Int)×(List Int)))×(List ((List Int)×Int×Int))×Int)) (j2:Bool):Option ((Option ((Int×(List Int)×Int×Int)×(List (Int×Int))×(List Int)×(List Int)))×(List ((List Int)×Int×Int))×Int) :=
 if j2=true then
  some (none,[],(2:Int))
 else
  if (decide ((p1.2.2.1.length:Int)<((ix turns s4).length:Int)))=true then
   some (none,[],(10:Int))
  else
   (x86 (ix turns s4) (fun y0=>x89 y0 panels (ix turns s4))).bind fun r3 =>
   if r3=true then
    some (none,[],(24:Int))
   else
    gd ((panels.length:Int).toNat=s5.length) <|
    (x86 (ix turns s4) (fun y0=>x90 y0 s5)).bind fun r4 =>
    if r4=true then
     some (none,[],(16:Int))
    else
     kj4_0 ()
def x65_l6 (panels:(List (Int×Int))) (turns:(List (List Int))) (s4:Int) (kl6_0:(List Int)→Option ((Option ((Int×(List Int)×Int×Int)×(List (Int×Int))×(List Int)×(List Int)))×(List ((List Int)×Int×Int))×Int)):Nat→Int→(List Int)→Option ((Option ((Int×(List Int)×Int×Int)×(List (Int×Int))×(List Int)×(List Int)))×(List ((List Int)×Int×Int))×Int)
 | 0,_,_=>none
 | m+1,s6,s7 =>
   if (decide (s6<((ix turns s4).length:Int)))=true then
    gd (0≤s6∧s6<((ix turns s4).length:Int)) <|
    gd (0≤(ix (ix turns s4) s6)∧(ix (ix turns s4) s6)<(((panels.length:Int).toNat:Nat):Int)∧(panels.length:Int).toNat=s7.length) <|
    gd (0≤(ix (ix turns s4) s6)∧(ix (ix turns s4) s6)<(((panels.length:Int).toNat:Nat):Int)∧(panels.length:Int).toNat=s7.length) <|
    x65_l6 panels turns s4 kl6_0 m (w (s6+(1:Int))) (s7.set (ix (ix turns s4) s6).toNat (w ((ix s7 (ix (ix turns s4) s6))+(1:Int))))
   else
    kl6_0 s7
def x65_j5 (panels:(List (Int×Int))) (turns:(List (List Int))) (p1:((Int×(List Int)×Int×Int)×(List (Int×Int))×(List Int)×(List Int))) (s1:(List ((List Int)×Int×Int))) (s2:Int) (s4:Int) (s5:(List Int)) (kj5_0:(List ((List Int)×Int×Int))→(List Int)→Option ((Option ((Int×(List Int)×Int×Int)×(List (Int×Int))×(List Int)×(List Int)))×(List ((List Int)×Int×Int))×Int))  : Option ((Option ((Int×(List Int)×Int×Int)×(List (Int×Int))×(List Int)×(List Int)))×(List ((List Int)×Int×Int))×Int) :=
 x65_l6 panels turns s4 (fun z1 =>
   gd (0≤(0:Int)∧(0:Int)<((ix turns s4).length:Int)) <|
   gd (0≤(ix (ix turns s4) (0:Int))∧(ix (ix turns s4) (0:Int))<(panels.length:Int)) <|
   (x91 (ix turns s4) (fun y0 y1=>x92 p1 y0 y1)).bind fun r5 =>
   gd (0≤r5∧r5<(panels.length:Int)) <|
   (x93 s2 ((ix panels (ix (ix turns s4) (0:Int))).1)).bind fun r6 =>
   gd ((s1.length+1)*40≤140737488355328) <|
   kj5_0 (s1++[((ix turns s4),(ix panels r5).2,r6)]) z1) FU (0:Int) s5
def x65_l3 (panels:(List (Int×Int))) (turns:(List (List Int))) (p1:((Int×(List Int)×Int×Int)×(List (Int×Int))×(List Int)×(List Int))) (kl3_0:(List ((List Int)×Int×Int))→Int→Option ((Option ((Int×(List Int)×Int×Int)×(List (Int×Int))×(List Int)×(List Int)))×(List ((List Int)×Int×Int))×Int)):Nat→(List ((List Int)×Int×Int))→Int→Int→Int→(List Int)→Option ((Option ((Int×(List Int)×Int×Int)×(List (Int×Int))×(List Int)×(List Int)))×(List ((List Int)×Int×Int))×Int)
 | 0,_,_,_,_,_=>none
 | m+1,s1,s2,s3,s4,s5 =>
   if (decide (s4<(turns.length:Int)))=true then
    gd (0≤s4∧s4<(turns.length:Int)) <|
    if (decide (((ix turns s4).length:Int)=(0:Int)))=true then
     x65_j4 panels turns p1 s4 s5 (fun _ =>
       x65_j5 panels turns p1 s1 s2 s4 s5 (fun z2 z3 =>
         x65_l3 panels turns p1 kl3_0 m z2 ((ix panels (ix (ix turns s4) (0:Int))).1) (w (s3+((ix turns s4).length:Int))) (w (s4+(1:Int))) z3)) true
    else
     (x61 (ix turns s4) (panels.length:Int)).bind fun r7 =>
     x65_j4 panels turns p1 s4 s5 (fun _ =>
       x65_j5 panels turns p1 s1 s2 s4 s5 (fun z2 z3 =>
         x65_l3 panels turns p1 kl3_0 m z2 ((ix panels (ix (ix turns s4) (0:Int))).1) (w (s3+((ix turns s4).length:Int))) (w (s4+(1:Int))) z3)) (!r7)
   else
    kl3_0 s1 s3
def x65 (b:(Int×(List Int)×Int×Int)) (panels:(List (Int×Int))) (turns:(List (List Int))):Option ((Option ((Int×(List Int)×Int×Int)×(List (Int×Int))×(List Int)×(List Int)))×(List ((List Int)×Int×Int))×Int) :=
 (x69 b panels).bind fun r1 =>
 match r1 with
 | (none,q1) =>
   if (decide (q1≠(0:Int)))=true then
    some (none,[],q1)
   else
    gd (0≤(panels.length:Int)∧(panels.length:Int)≤(panels.length:Int)∧(panels.length:Int).toNat*8≤140737488355328) <|
    x65_l1 panels turns (fun _ =>
      if (decide ((0:Int)<(panels.length:Int)))=true then
       some (none,[],(14:Int))
      else
       some (none,[],(0:Int))) FU
 | (some p1,q1) =>
   if (decide (q1≠(0:Int)))=true then
    some (none,[],q1)
   else
    gd (0≤(panels.length:Int)∧(panels.length:Int)≤(panels.length:Int)∧(panels.length:Int).toNat*8≤140737488355328) <|
    x65_l3 panels turns p1 (fun z4 z5 =>
      if (decide (z5<(panels.length:Int)))=true then
       some (none,[],(14:Int))
      else
       some ((some p1),z4,(0:Int))) FU ([]:List ((List Int)×Int×Int)) b.2.2.1 (0:Int) (0:Int) (List.replicate (panels.length:Int).toNat (0:Int))
theorem x65_j2_ok {j1:Bool} {b:(Int×(List Int)×Int×Int)} {panels:(List (Int×Int))} {turns:(List (List Int))} {v:((Option ((Int×(List Int)×Int×Int)×(List (Int×Int))×(List Int)×(List Int)))×(List ((List Int)×Int×Int))×Int)} {Q:Ex→List AV→List AObj→Prop} {u0:AV} {u1:AV} {u2:AV} {u3:AV} {u6:AV} {u7:AV} {u8:AV} {u10:AV} {u17:AV} {u18:AV} {u19:AV} {u20:AV} {u21:AV} {u22:AV} {u23:AV} {u24:AV} {u25:AV} {u26:AV} {u27:AV} {u28:AV} {u29:AV} {u30:AV} {u31:AV} {u32:AV} {u33:AV} {u37:AV} {u38:AV} {u39:AV} {u41:AV} {u42:AV} {u43:AV} {u44:AV} {u45:AV} {u46:AV} {u47:AV} {u48:AV} {u49:AV} {u50:AV} {u51:AV} {u52:AV} {u53:AV} {u54:AV} {u55:AV} {u56:AV} {u57:AV} {u58:AV} {u59:AV} {u60:AV} {u61:AV} {u62:AV} {u63:AV} {u64:AV} {u65:AV} {u66:AV} {u67:AV} {u68:AV} {u69:AV} {u70:AV} {u71:AV} {u72:AV} {u73:AV} {u74:AV} {u75:AV} {u76:AV} {u77:AV} {u78:AV} {u79:AV} {u80:AV} {u81:AV} {u82:AV} {u83:AV} {u84:AV} {u85:AV} {u86:AV} {u87:AV} {u88:AV} {u89:AV} {u90:AV} {u91:AV} {u92:AV} {u93:AV} {u94:AV} {u95:AV} {u96:AV} {u97:AV} {u98:AV} {u99:AV} {u100:AV} {u101:AV} {u102:AV} {u103:AV} {u104:AV} {u105:AV} {u106:AV} {u107:AV} {u108:AV} {u109:AV} {u110:AV} {u111:AV} {u112:AV} {u113:AV} {u114:AV} {u115:AV} {o1:AObj}  (hR:∀ T H,RetW [.tmp 6,.tmp 7,.tmp 8] (.tuple [(optP E_bench v.1),(.lst (v.2.1.flatMap E_turn) v.2.1.length .shared),(I v.2.2)]) .ret T H→Q .ret T H) (h:x65_j2  j1=some v) :
  wpR Tryz.prog ann65 65 0 none xrc65_1 [u0,u1,u2,u3,(.ptr 1 0),J,u6,u7,u8,.nilp,u10,(.ptr 3 0),(.lst [] 0 (.uniq 3)),(I b.2.2.1),(I (0:Int)),J,(.ptr 4 0),u17,u18,u19,u20,u21,u22,u23,u24,u25,u26,u27,u28,u29,u30,u31,u32,u33,(.lst (turns.map L1) turns.length .shared),(I (turns.length:Int)),(I (0:Int)),u37,u38,u39,(B j1),u41,u42,u43,u44,u45,u46,u47,u48,u49,u50,u51,u52,u53,u54,u55,u56,u57,u58,u59,u60,u61,u62,u63,u64,u65,u66,u67,u68,u69,u70,u71,u72,u73,u74,u75,u76,u77,u78,u79,u80,u81,u82,u83,u84,u85,u86,u87,u88,u89,u90,u91,u92,u93,u94,u95,u96,u97,u98,u99,u100,u101,u102,u103,u104,u105,u106,u107,u108,u109,u110,u111,u112,u113,u114,u115] [o1,AObj.cells [(.lst (panels.flatMap pr) panels.length .shared)],AObj.cells ((List.replicate (panels.length:Int).toNat (0:Int)).map I),AObj.cells [(.ref 2 0 (panels.length:Int).toNat (some (panels.length:Int).toNat) 1)],AObj.cells [(.lst ((ix turns (0:Int)).map I) (ix turns (0:Int)).length .shared)]] Q:=by
 unfold x65_j2 at h
 unfold xrc65_1
 skip
 conv=>whnf
 cases j1
 ·conv=>whnf
  replace h:=it_f rfl h
  exact none_ne h
 ·conv=>whnf
  replace h:=it_t rfl h
  obtain rfl:=Option.some.inj h
  exact hR _ _ ⟨.inr rfl,_,rfl,_,frz_pure (pu_tup (allc rfl (allc rfl (allc rfl rfl)))),rfl⟩
theorem x65_l1_ok {panels:(List (Int×Int))} {turns:(List (List Int))} {kl1_0:Unit→Option ((Option ((Int×(List Int)×Int×Int)×(List (Int×Int))×(List Int)×(List Int)))×(List ((List Int)×Int×Int))×Int)} {b:(Int×(List Int)×Int×Int)} {v:((Option ((Int×(List Int)×Int×Int)×(List (Int×Int))×(List Int)×(List Int)))×(List ((List Int)×Int×Int))×Int)} {Q:Ex→List AV→List AObj→Prop} {o1:AObj}  (hR:∀ T H,RetW [.tmp 6,.tmp 7,.tmp 8] (.tuple [(optP E_bench v.1),(.lst (v.2.1.flatMap E_turn) v.2.1.length .shared),(I v.2.2)]) .ret T H→Q .ret T H) (hkl1_0:∀ (u0:AV) (u1:AV) (u2:AV) (u3:AV) (u6:AV) (u7:AV) (u8:AV) (u10:AV) (u11:AV) (u13:AV) (u16:AV) (u17:AV) (u18:AV) (u19:AV) (u20:AV) (u21:AV) (u22:AV) (u23:AV) (u24:AV) (u25:AV) (u26:AV) (u27:AV) (u28:AV) (u29:AV) (u30:AV) (u31:AV) (u32:AV) (u33:AV) (u34:AV) (u35:AV) (u36:AV) (u37:AV) (u38:AV) (u39:AV) (u40:AV) (u41:AV) (u42:AV) (u43:AV) (u44:AV) (u45:AV) (u46:AV) (u47:AV) (u48:AV) (u49:AV) (u50:AV) (u51:AV) (u52:AV) (u53:AV) (u54:AV) (u55:AV) (u56:AV) (u57:AV) (u58:AV) (u59:AV) (u60:AV) (u61:AV) (u62:AV) (u63:AV) (u64:AV) (u65:AV) (u66:AV) (u67:AV) (u68:AV) (u69:AV) (u70:AV) (u71:AV) (u72:AV) (u73:AV) (u74:AV) (u75:AV) (u76:AV) (u77:AV) (u78:AV) (u79:AV) (u80:AV) (u81:AV) (u82:AV) (u83:AV) (u84:AV) (u85:AV) (u86:AV) (u87:AV) (u88:AV) (u89:AV) (u90:AV) (u91:AV) (u92:AV) (u93:AV) (u94:AV) (u95:AV) (u96:AV) (u97:AV) (u98:AV) (u99:AV) (u100:AV) (u101:AV) (u102:AV) (u103:AV) (u104:AV) (u105:AV) (u106:AV) (u107:AV) (u108:AV) (u109:AV) (u110:AV) (u111:AV) (u112:AV) (u113:AV) (u114:AV) (u115:AV) (o3:AObj) (o4:AObj),kl1_0 ()=some v→Q (.exit 0) [u0,u1,u2,u3,(.ptr 1 0),J,u6,u7,u8,.nilp,u10,u11,(.lst [] 0 (.uniq 3)),u13,(I (0:Int)),J,u16,u17,u18,u19,u20,u21,u22,u23,u24,u25,u26,u27,u28,u29,u30,u31,u32,u33,u34,u35,u36,u37,u38,u39,u40,u41,u42,u43,u44,u45,u46,u47,u48,u49,u50,u51,u52,u53,u54,u55,u56,u57,u58,u59,u60,u61,u62,u63,u64,u65,u66,u67,u68,u69,u70,u71,u72,u73,u74,u75,u76,u77,u78,u79,u80,u81,u82,u83,u84,u85,u86,u87,u88,u89,u90,u91,u92,u93,u94,u95,u96,u97,u98,u99,u100,u101,u102,u103,u104,u105,u106,u107,u108,u109,u110,u111,u112,u113,u114,u115] [o1,AObj.cells [(.lst (panels.flatMap pr) panels.length .shared)],o3,o4]) {T:List AV} (hT:zipKeep [o_,o_,o_,o_,i_,o_,o_,o_,o_,i_,o_,i_,i_,i_,i_,o_,o_,o_,o_,o_,o_,o_,o_,o_,o_,o_,o_,o_,o_,o_,o_,o_,o_,o_,i_,i_,i_,o_,o_,o_,o_,o_,o_,o_,o_,o_,o_,o_,o_,o_,o_,o_,o_,o_,o_,o_,o_,o_,o_,o_,o_,o_,o_,o_,o_,o_,o_,o_,o_,o_,o_,o_,o_,o_,o_,o_,o_,o_,o_,o_,o_,o_,o_,o_,o_,o_,o_,o_,o_,o_,o_,o_,o_,o_,o_,o_,o_,o_,o_,o_,o_,o_,o_,o_,o_,o_,o_,o_,o_,o_,o_,o_,o_,o_,o_,o_] T=slots 116 [(4,(.ptr 1 0)),(9,.nilp),(11,(.ptr 3 0)),(12,(.lst [] 0 (.uniq 3))),(13,(I b.2.2.1)),(14,(I (0:Int))),(34,(.lst (turns.map L1) turns.length .shared)),(35,(I (turns.length:Int))),(36,(I (0:Int)))]) (h:x65_l1 panels turns kl1_0 FU  = some v) :
  wpR Tryz.prog ann65 65 0 none xrc65_2 T [o1,AObj.cells [(.lst (panels.flatMap pr) panels.length .shared)],AObj.cells ((List.replicate (panels.length:Int).toNat (0:Int)).map I),AObj.cells [(.ref 2 0 (panels.length:Int).toNat (some (panels.length:Int).toNat) 1)]] Q:=by
 unfold xrc65_2
 obtain ⟨c_1,g_1⟩:∃ c,xrc65_1=c:=⟨_,rfl⟩
 rw [g_1]
 obtain ⟨c_4,g_4⟩:∃ c,xrc65_4=c:=⟨_,rfl⟩
 rw [g_4]
 refine wp_loop hT ?_
 refine .intro (fun m T H=>T=slots 116 [(4,(.ptr 1 0)),(9,.nilp),(11,(.ptr 3 0)),(12,(.lst [] 0 (.uniq 3))),(13,(I b.2.2.1)),(14,(I (0:Int))),(34,(.lst (turns.map L1) turns.length .shared)),(35,(I (turns.length:Int))),(36,(I (0:Int)))]∧H=[o1,AObj.cells [(.lst (panels.flatMap pr) panels.length .shared)],AObj.cells ((List.replicate (panels.length:Int).toNat (0:Int)).map I),AObj.cells [(.ref 2 0 (panels.length:Int).toNat (some (panels.length:Int).toNat) 1)]]∧x65_l1 panels turns kl1_0 m  = some v) FU ⟨rfl,rfl,h⟩ ?_
 clear h hT
 rintro m T H ⟨rfl,rfl,h⟩
 cases m
 ·exact none_ne h
 rename_i m
 rw [x65_l1.eq_2] at h
 conv=>whnf
 rcases bt (decide ((0:Int)<(turns.length:Int))) with hb4 | hb4
 ·rw [hb4]
  conv=>whnf
  replace h:=it_t hb4 h
  obtain ⟨hb5,h⟩:=gd_some h
  refine ⟨hb5,?_⟩
  rw [drop1 L1 turns (0:Int) hb5]
  conv=>whnf
  rcases bt (decide (((ix turns (0:Int)).length:Int)=(0:Int))) with hb6 | hb6
  ·rw [hb6]
   conv=>whnf
   replace h:=it_t hb6 h
   subst g_1
   refine x65_j2_ok ?_ h
   exact fun T H hh=>hR T H hh
  ·rw [hb6]
   conv=>whnf
   replace h:=it_f hb6 h
   obtain ⟨r2,hb7,h⟩:=bd_some h
   refine ⟨(allc (pu_map (fun _=>rfl) _ _ _) (allc rfl rfl)),_,x61_ok hb7,?_⟩
   conv=>whnf
   subst g_1
   refine x65_j2_ok ?_ h
   exact fun T H hh=>hR T H hh
 ·rw [hb4]
  conv=>whnf
  replace h:=it_f hb4 h
  exact hkl1_0 _ _ _ _ _ _ _ _ _ _ _ _ _ _ _ _ _ _ _ _ _ _ _ _ _ _ _ _ _ _ _ _ _ _ _ _ _ _ _ _ _ _ _ _ _ _ _ _ _ _ _ _ _ _ _ _ _ _ _ _ _ _ _ _ _ _ _ _ _ _ _ _ _ _ _ _ _ _ _ _ _ _ _ _ _ _ _ _ _ _ _ _ _ _ _ _ _ _ _ _ _ _ _ _ _ _ _ _ _ _ _ _ h
theorem x65_j4_ok {panels:(List (Int×Int))} {turns:(List (List Int))} {p1:((Int×(List Int)×Int×Int)×(List (Int×Int))×(List Int)×(List Int))} {s4:Int} {s5:(List Int)} {kj4_0:Unit→Option ((Option ((Int×(List Int)×Int×Int)×(List (Int×Int))×(List Int)×(List Int)))×(List ((List Int)×Int×Int))×Int)} {j2:Bool} {s1:(List ((List Int)×Int×Int))} {s2:Int} {s3:Int} {v:((Option ((Int×(List Int)×Int×Int)×(List (Int×Int))×(List Int)×(List Int)))×(List ((List Int)×Int×Int))×Int)} {Q:Ex→List AV→List AObj→Prop} {u0:AV} {u1:AV} {u2:AV} {u3:AV} {u6:AV} {u7:AV} {u8:AV} {u10:AV} {u17:AV} {u18:AV} {u19:AV} {u20:AV} {u21:AV} {u22:AV} {u23:AV} {u24:AV} {u25:AV} {u26:AV} {u27:AV} {u28:AV} {u29:AV} {u30:AV} {u31:AV} {u32:AV} {u33:AV} {u37:AV} {u38:AV} {u39:AV} {u41:AV} {u42:AV} {u43:AV} {u44:AV} {u45:AV} {u46:AV} {u47:AV} {u48:AV} {u49:AV} {u50:AV} {u51:AV} {u52:AV} {u53:AV} {u54:AV} {u55:AV} {u56:AV} {u57:AV} {u58:AV} {u59:AV} {u60:AV} {u61:AV} {u62:AV} {u63:AV} {u64:AV} {u65:AV} {u66:AV} {u67:AV} {u68:AV} {u69:AV} {u70:AV} {u71:AV} {u72:AV} {u73:AV} {u74:AV} {u75:AV} {u76:AV} {u77:AV} {u78:AV} {u79:AV} {u80:AV} {u81:AV} {u82:AV} {u83:AV} {u84:AV} {u85:AV} {u86:AV} {u87:AV} {u88:AV} {u89:AV} {u90:AV} {u91:AV} {u92:AV} {u93:AV} {u94:AV} {u95:AV} {u96:AV} {u97:AV} {u98:AV} {u99:AV} {u100:AV} {u101:AV} {u102:AV} {u103:AV} {u104:AV} {u105:AV} {u106:AV} {u107:AV} {u108:AV} {u109:AV} {u110:AV} {u111:AV} {u112:AV} {u113:AV} {u114:AV} {u115:AV} {o1:AObj} {Y65_1:List AObj} (hR:∀ T H,RetW [.tmp 6,.tmp 7,.tmp 8] (.tuple [(optP E_bench v.1),(.lst (v.2.1.flatMap E_turn) v.2.1.length .shared),(I v.2.2)]) .ret T H→Q .ret T H) (hkj4_0:∀ (u0:AV) (u1:AV) (u2:AV) (u3:AV) (u6:AV) (u7:AV) (u8:AV) (u10:AV) (u17:AV) (u18:AV) (u19:AV) (u20:AV) (u21:AV) (u22:AV) (u23:AV) (u24:AV) (u25:AV) (u26:AV) (u27:AV) (u28:AV) (u29:AV) (u30:AV) (u31:AV) (u32:AV) (u33:AV) (u37:AV) (u38:AV) (u39:AV) (u40:AV) (u41:AV) (u42:AV) (u43:AV) (u44:AV) (u45:AV) (u46:AV) (u47:AV) (u48:AV) (u49:AV) (u50:AV) (u51:AV) (u52:AV) (u53:AV) (u54:AV) (u55:AV) (u56:AV) (u57:AV) (u58:AV) (u59:AV) (u60:AV) (u61:AV) (u62:AV) (u63:AV) (u64:AV) (u65:AV) (u66:AV) (u67:AV) (u68:AV) (u69:AV) (u70:AV) (u71:AV) (u72:AV) (u73:AV) (u74:AV) (u75:AV) (u76:AV) (u77:AV) (u78:AV) (u79:AV) (u80:AV) (u81:AV) (u82:AV) (u83:AV) (u84:AV) (u85:AV) (u86:AV) (u87:AV) (u88:AV) (u89:AV) (u90:AV) (u91:AV) (u92:AV) (u93:AV) (u94:AV) (u95:AV) (u96:AV) (u97:AV) (u98:AV) (u99:AV) (u100:AV) (u101:AV) (u102:AV) (u103:AV) (u104:AV) (u105:AV) (u106:AV) (u107:AV) (u108:AV) (u109:AV) (u110:AV) (u111:AV) (u112:AV) (u113:AV) (u114:AV) (u115:AV),kj4_0 ()=some v→Q .normal [u0,u1,u2,u3,(.ptr 1 0),J,u6,u7,u8,(.lptr ((I p1.1.1)::(.lst (p1.1.2.1.map I) p1.1.2.1.length .shared)::(I p1.1.2.2.1)::(I p1.1.2.2.2)::(.lst (p1.2.1.flatMap pr) p1.2.1.length .shared)::(.lst (p1.2.2.1.map I) p1.2.2.1.length .shared)::(p1.2.2.2.map I))),u10,(.ptr 3 0),(.lst (s1.flatMap E_turn) s1.length (.uniq 3)),(I s2),(I s3),J,(.ptr (o1::AObj.cells [(.lst (panels.flatMap pr) panels.length .shared)]::AObj.cells (s5.map I)::AObj.cells [(.ref 2 0 (panels.length:Int).toNat (some (panels.length:Int).toNat) 1)]::Y65_1).length 0),u17,u18,u19,u20,u21,u22,u23,u24,u25,u26,u27,u28,u29,u30,u31,u32,u33,(.lst (turns.map L1) turns.length .shared),(I (turns.length:Int)),(I s4),u37,u38,u39,u40,u41,u42,u43,u44,u45,u46,u47,u48,u49,u50,u51,u52,u53,u54,u55,u56,u57,u58,u59,u60,u61,u62,u63,u64,u65,u66,u67,u68,u69,u70,u71,u72,u73,u74,u75,u76,u77,u78,u79,u80,u81,u82,u83,u84,u85,u86,u87,u88,u89,u90,u91,u92,u93,u94,u95,u96,u97,u98,u99,u100,u101,u102,u103,u104,u105,u106,u107,u108,u109,u110,u111,u112,u113,u114,u115] ((o1::AObj.cells [(.lst (panels.flatMap pr) panels.length .shared)]::AObj.cells (s5.map I)::AObj.cells [(.ref 2 0 (panels.length:Int).toNat (some (panels.length:Int).toNat) 1)]::Y65_1)++[AObj.cells [(.lst ((ix turns s4).map I) (ix turns s4).length .shared)]])) (h:x65_j4 panels turns p1 s4 s5 kj4_0 j2=some v) :
  wpR Tryz.prog ann65 65 0 none xrc65_1 [u0,u1,u2,u3,(.ptr 1 0),J,u6,u7,u8,(.lptr ((I p1.1.1)::(.lst (p1.1.2.1.map I) p1.1.2.1.length .shared)::(I p1.1.2.2.1)::(I p1.1.2.2.2)::(.lst (p1.2.1.flatMap pr) p1.2.1.length .shared)::(.lst (p1.2.2.1.map I) p1.2.2.1.length .shared)::(p1.2.2.2.map I))),u10,(.ptr 3 0),(.lst (s1.flatMap E_turn) s1.length (.uniq 3)),(I s2),(I s3),J,(.ptr (o1::AObj.cells [(.lst (panels.flatMap pr) panels.length .shared)]::AObj.cells (s5.map I)::AObj.cells [(.ref 2 0 (panels.length:Int).toNat (some (panels.length:Int).toNat) 1)]::Y65_1).length 0),u17,u18,u19,u20,u21,u22,u23,u24,u25,u26,u27,u28,u29,u30,u31,u32,u33,(.lst (turns.map L1) turns.length .shared),(I (turns.length:Int)),(I s4),u37,u38,u39,(B j2),u41,u42,u43,u44,u45,u46,u47,u48,u49,u50,u51,u52,u53,u54,u55,u56,u57,u58,u59,u60,u61,u62,u63,u64,u65,u66,u67,u68,u69,u70,u71,u72,u73,u74,u75,u76,u77,u78,u79,u80,u81,u82,u83,u84,u85,u86,u87,u88,u89,u90,u91,u92,u93,u94,u95,u96,u97,u98,u99,u100,u101,u102,u103,u104,u105,u106,u107,u108,u109,u110,u111,u112,u113,u114,u115] ((o1::AObj.cells [(.lst (panels.flatMap pr) panels.length .shared)]::AObj.cells (s5.map I)::AObj.cells [(.ref 2 0 (panels.length:Int).toNat (some (panels.length:Int).toNat) 1)]::Y65_1)++[AObj.cells [(.lst ((ix turns s4).map I) (ix turns s4).length .shared)]]) Q:=by
 unfold x65_j4 at h
 unfold xrc65_1
 skip
 conv=>whnf
 cases j2
 ·conv=>whnf
  replace h:=it_f rfl h
  refine nthK_of (x:=AObj.cells [(.lst ((ix turns s4).map I) (ix turns s4).length .shared)]) (by first | with_reducible exact get_concat _ _ | exact get_concat _ _ | exact ga (get_concat _ _) | rfl | (simp [List.getElem?_append,AV.settle];done)) ?_
  conv=>whnf
  rcases bt (decide ((p1.2.2.1.length:Int)<((ix turns s4).length:Int))) with hb14 | hb14
  ·rw [hb14]
   conv=>whnf
   replace h:=it_t hb14 h
   obtain rfl:=Option.some.inj h
   exact hR _ _ ⟨.inr rfl,_,rfl,_,frz_pure (pu_tup (allc rfl (allc rfl (allc rfl rfl)))),rfl⟩
  ·rw [hb14]
   conv=>whnf
   replace h:=it_f hb14 h
   refine nthK_of (x:=AObj.cells [(.lst ((ix turns s4).map I) (ix turns s4).length .shared)]) (by first | with_reducible exact get_concat _ _ | exact get_concat _ _ | exact ga (get_concat _ _) | rfl | (simp [List.getElem?_append,AV.settle];done)) ?_
   conv=>whnf
   obtain ⟨r3,hb15,h⟩:=bd_some h
   refine ⟨_,_,call6' (cs:=[(.lst ((ix turns s4).map I) (ix turns s4).length .shared),(.func 89 [] [(.lptr [(.lst (panels.flatMap pr) panels.length .shared)]),(.lptr [(.lst ((ix turns s4).map I) (ix turns s4).length .shared)])])]) (bs:=[(.lst ((ix turns s4).map I) (ix turns s4).length .shared),(.func 89 [] [(.lptr [(.lst (panels.flatMap pr) panels.length .shared)]),(.lptr [(.lst ((ix turns s4).map I) (ix turns s4).length .shared)])])]) (map_cons' rfl (map_cons' (shz_func map_nil' (map_cons' (shz0_ptr' (cs:=[(.lst (panels.flatMap pr) panels.length .shared)]) (by first | with_reducible exact get_concat _ _ | exact get_concat _ _ | exact ga (get_concat _ _) | rfl | (simp [List.getElem?_append,AV.settle];done)) rfl) (map_cons' (shz0_ptr' (cs:=[(.lst ((ix turns s4).map I) (ix turns s4).length .shared)]) (by first | with_reducible exact get_concat _ _ | exact get_concat _ _ | exact ga (get_concat _ _) | rfl | (simp [List.getElem?_append,AV.settle];done)) rfl) map_nil'))) map_nil')) (by rfl) (by exact (allc (pu_map (fun _=>rfl) _ _ _) (allc (pu_fn rfl (allc (pu_lptr (allc (pu_flat (fun _=>(allc rfl (allc rfl rfl))) _ _ _) rfl)) (allc (pu_lptr (allc (pu_map (fun _=>rfl) _ _ _) rfl)) rfl))) rfl))) (x86_ok ⟨(allc (pu_lptr (allc (pu_flat (fun _=>(allc rfl (allc rfl rfl))) _ _ _) rfl)) (allc (pu_lptr (allc (pu_map (fun _=>rfl) _ _ _) rfl)) rfl)),by simp⟩ (fun _ _ hy=>x89_ok hy) hb15) rfl,?_⟩
   conv=>whnf
   cases r3
   ·conv=>whnf
    replace h:=it_f rfl h
    refine nthK_of (x:=AObj.cells [(.lst ((ix turns s4).map I) (ix turns s4).length .shared)]) (by first | with_reducible exact get_concat _ _ | exact get_concat _ _ | exact ga (get_concat _ _) | rfl | (simp [List.getElem?_append,AV.settle];done)) ?_
    conv=>whnf
    obtain ⟨hb16,h⟩:=gd_some h
    obtain ⟨r4,hb17,h⟩:=bd_some h
    refine ⟨_,_,call6' (cs:=[(.lst ((ix turns s4).map I) (ix turns s4).length .shared),(.func 90 [] [(.lptr [(.lst (s5.map I) s5.length .shared)])])]) (bs:=[(.lst ((ix turns s4).map I) (ix turns s4).length .shared),(.func 90 [] [(.lptr [(.lst (s5.map I) s5.length .shared)])])]) (map_cons' rfl (map_cons' (shz_func map_nil' (map_cons' (shz0_ptr' (cs:=[(.ref 2 0 (panels.length:Int).toNat (some (panels.length:Int).toNat) 1)]) (by first | with_reducible exact get_concat _ _ | exact get_concat _ _ | exact ga (get_concat _ _) | rfl | (simp [List.getElem?_append,AV.settle];done)) (map_cons' (shzR_row (f:=I) (l:=s5) (by first | with_reducible exact get_concat _ _ | exact get_concat _ _ | exact ga (get_concat _ _) | rfl | (simp [List.getElem?_append,AV.settle];done)) hb16 (fun _=>rfl)) map_nil')) map_nil')) map_nil')) (by rfl) (by exact (allc (pu_map (fun _=>rfl) _ _ _) (allc (pu_fn rfl (allc (pu_lptr (allc (pu_map (fun _=>rfl) _ _ _) rfl)) rfl)) rfl))) (x86_ok ⟨(allc (pu_lptr (allc (pu_map (fun _=>rfl) _ _ _) rfl)) rfl),by simp⟩ (fun _ _ hy=>x90_ok hy) hb17) rfl,?_⟩
    conv=>whnf
    cases r4
    ·conv=>whnf
     replace h:=it_f rfl h
     exact hkj4_0 _ _ _ _ _ _ _ _ _ _ _ _ _ _ _ _ _ _ _ _ _ _ _ _ _ _ _ _ _ _ _ _ _ _ _ _ _ _ _ _ _ _ _ _ _ _ _ _ _ _ _ _ _ _ _ _ _ _ _ _ _ _ _ _ _ _ _ _ _ _ _ _ _ _ _ _ _ _ _ _ _ _ _ _ _ _ _ _ _ _ _ _ _ _ _ _ _ _ _ _ _ _ _ _ h
    ·conv=>whnf
     replace h:=it_t rfl h
     obtain rfl:=Option.some.inj h
     exact hR _ _ ⟨.inr rfl,_,rfl,_,frz_pure (pu_tup (allc rfl (allc rfl (allc rfl rfl)))),rfl⟩
   ·conv=>whnf
    replace h:=it_t rfl h
    obtain rfl:=Option.some.inj h
    exact hR _ _ ⟨.inr rfl,_,rfl,_,frz_pure (pu_tup (allc rfl (allc rfl (allc rfl rfl)))),rfl⟩
 ·conv=>whnf
  replace h:=it_t rfl h
  obtain rfl:=Option.some.inj h
  exact hR _ _ ⟨.inr rfl,_,rfl,_,frz_pure (pu_tup (allc rfl (allc rfl (allc rfl rfl)))),rfl⟩
theorem x65_l6_ok {panels:(List (Int×Int))} {turns:(List (List Int))} {s4:Int} {kl6_0:(List Int)→Option ((Option ((Int×(List Int)×Int×Int)×(List (Int×Int))×(List Int)×(List Int)))×(List ((List Int)×Int×Int))×Int)} {s6:Int} {s7:(List Int)} {p1:((Int×(List Int)×Int×Int)×(List (Int×Int))×(List Int)×(List Int))} {s1:(List ((List Int)×Int×Int))} {s2:Int} {s3:Int} {v:((Option ((Int×(List Int)×Int×Int)×(List (Int×Int))×(List Int)×(List Int)))×(List ((List Int)×Int×Int))×Int)} {Q:Ex→List AV→List AObj→Prop} {o1:AObj} {Y65_1:List AObj} (hkl6_0:∀ (z1:(List Int)) (u0:AV) (u1:AV) (u2:AV) (u3:AV) (u6:AV) (u7:AV) (u8:AV) (u10:AV) (u17:AV) (u18:AV) (u19:AV) (u20:AV) (u21:AV) (u22:AV) (u23:AV) (u24:AV) (u25:AV) (u26:AV) (u27:AV) (u28:AV) (u29:AV) (u30:AV) (u31:AV) (u32:AV) (u33:AV) (u37:AV) (u38:AV) (u39:AV) (u40:AV) (u41:AV) (u42:AV) (u43:AV) (u44:AV) (u45:AV) (u46:AV) (u47:AV) (u48:AV) (u49:AV) (u50:AV) (u51:AV) (u52:AV) (u53:AV) (u54:AV) (u55:AV) (u56:AV) (u57:AV) (u58:AV) (u59:AV) (u60:AV) (u61:AV) (u62:AV) (u63:AV) (u64:AV) (u65:AV) (u66:AV) (u67:AV) (u68:AV) (u69:AV) (u70:AV) (u71:AV) (u72:AV) (u73:AV) (u74:AV) (u75:AV) (u76:AV) (u77:AV) (u78:AV) (u79:AV) (u80:AV) (u81:AV) (u82:AV) (u83:AV) (u84:AV) (u85:AV) (u86:AV) (u87:AV) (u88:AV) (u89:AV) (u90:AV) (u91:AV) (u92:AV) (u93:AV) (u94:AV) (u95:AV) (u96:AV) (u97:AV) (u98:AV) (u99:AV) (u100:AV) (u101:AV) (u102:AV) (u103:AV) (u104:AV) (u105:AV) (u106:AV) (u107:AV) (u108:AV) (u109:AV) (u110:AV) (u111:AV) (u112:AV) (u113:AV) (u114:AV) (u115:AV),kl6_0 z1=some v→Q (.exit 3) [u0,u1,u2,u3,(.ptr 1 0),J,u6,u7,u8,(.lptr ((I p1.1.1)::(.lst (p1.1.2.1.map I) p1.1.2.1.length .shared)::(I p1.1.2.2.1)::(I p1.1.2.2.2)::(.lst (p1.2.1.flatMap pr) p1.2.1.length .shared)::(.lst (p1.2.2.1.map I) p1.2.2.1.length .shared)::(p1.2.2.2.map I))),u10,(.ptr 3 0),(.lst (s1.flatMap E_turn) s1.length (.uniq 3)),(I s2),(I s3),J,(.ptr (o1::AObj.cells [(.lst (panels.flatMap pr) panels.length .shared)]::AObj.cells (z1.map I)::AObj.cells [(.ref 2 0 (panels.length:Int).toNat (some (panels.length:Int).toNat) 1)]::Y65_1).length 0),u17,u18,u19,u20,u21,u22,u23,u24,u25,u26,u27,u28,u29,u30,u31,u32,u33,(.lst (turns.map L1) turns.length .shared),(I (turns.length:Int)),(I s4),u37,u38,u39,u40,u41,u42,u43,u44,u45,u46,u47,u48,u49,u50,u51,u52,u53,u54,u55,u56,u57,u58,u59,u60,u61,u62,u63,u64,u65,u66,u67,u68,u69,u70,u71,u72,u73,u74,u75,u76,u77,u78,u79,u80,u81,u82,u83,u84,u85,u86,u87,u88,u89,u90,u91,u92,u93,u94,u95,u96,u97,u98,u99,u100,u101,u102,u103,u104,u105,u106,u107,u108,u109,u110,u111,u112,u113,u114,u115] ((o1::AObj.cells [(.lst (panels.flatMap pr) panels.length .shared)]::AObj.cells (z1.map I)::AObj.cells [(.ref 2 0 (panels.length:Int).toNat (some (panels.length:Int).toNat) 1)]::Y65_1)++[AObj.cells [(.lst ((ix turns s4).map I) (ix turns s4).length .shared)]])) {T:List AV} (hT:zipKeep [o_,o_,o_,o_,i_,o_,o_,o_,o_,i_,o_,i_,i_,i_,i_,o_,i_,o_,o_,o_,o_,o_,o_,o_,o_,o_,o_,o_,o_,o_,o_,o_,o_,o_,i_,i_,i_,o_,o_,o_,o_,o_,o_,o_,o_,o_,o_,o_,o_,o_,o_,o_,o_,o_,o_,o_,o_,o_,o_,o_,o_,o_,o_,o_,o_,o_,o_,o_,i_,i_,i_,o_,o_,o_,o_,o_,o_,o_,o_,o_,o_,o_,o_,o_,o_,o_,o_,o_,o_,o_,o_,o_,o_,o_,o_,o_,o_,o_,o_,o_,o_,o_,o_,o_,o_,o_,o_,o_,o_,o_,o_,o_,o_,o_,o_,o_] T=slots 116 [(4,(.ptr 1 0)),(9,(.lptr ((I p1.1.1)::(.lst (p1.1.2.1.map I) p1.1.2.1.length .shared)::(I p1.1.2.2.1)::(I p1.1.2.2.2)::(.lst (p1.2.1.flatMap pr) p1.2.1.length .shared)::(.lst (p1.2.2.1.map I) p1.2.2.1.length .shared)::(p1.2.2.2.map I)))),(11,(.ptr 3 0)),(12,(.lst (s1.flatMap E_turn) s1.length (.uniq 3))),(13,(I s2)),(14,(I s3)),(16,(.ptr (o1::AObj.cells [(.lst (panels.flatMap pr) panels.length .shared)]::AObj.cells (s7.map I)::AObj.cells [(.ref 2 0 (panels.length:Int).toNat (some (panels.length:Int).toNat) 1)]::Y65_1).length 0)),(34,(.lst (turns.map L1) turns.length .shared)),(35,(I (turns.length:Int))),(36,(I s4)),(68,(.lst ((ix turns s4).map I) (ix turns s4).length .shared)),(69,(I ((ix turns s4).length:Int))),(70,(I s6))]) (h:x65_l6 panels turns s4 kl6_0 FU s6 s7=some v) :
  wpR Tryz.prog ann65 65 0 none xrc65_3 T ((o1::AObj.cells [(.lst (panels.flatMap pr) panels.length .shared)]::AObj.cells (s7.map I)::AObj.cells [(.ref 2 0 (panels.length:Int).toNat (some (panels.length:Int).toNat) 1)]::Y65_1)++[AObj.cells [(.lst ((ix turns s4).map I) (ix turns s4).length .shared)]]) Q:=by
 unfold xrc65_3
 skip
 refine wp_loop hT ?_
 refine .intro (fun m T H=>∃ (s6:Int) (s7:(List Int)),T=slots 116 [(4,(.ptr 1 0)),(9,(.lptr ((I p1.1.1)::(.lst (p1.1.2.1.map I) p1.1.2.1.length .shared)::(I p1.1.2.2.1)::(I p1.1.2.2.2)::(.lst (p1.2.1.flatMap pr) p1.2.1.length .shared)::(.lst (p1.2.2.1.map I) p1.2.2.1.length .shared)::(p1.2.2.2.map I)))),(11,(.ptr 3 0)),(12,(.lst (s1.flatMap E_turn) s1.length (.uniq 3))),(13,(I s2)),(14,(I s3)),(16,(.ptr (o1::AObj.cells [(.lst (panels.flatMap pr) panels.length .shared)]::AObj.cells (s7.map I)::AObj.cells [(.ref 2 0 (panels.length:Int).toNat (some (panels.length:Int).toNat) 1)]::Y65_1).length 0)),(34,(.lst (turns.map L1) turns.length .shared)),(35,(I (turns.length:Int))),(36,(I s4)),(68,(.lst ((ix turns s4).map I) (ix turns s4).length .shared)),(69,(I ((ix turns s4).length:Int))),(70,(I s6))]∧H=((o1::AObj.cells [(.lst (panels.flatMap pr) panels.length .shared)]::AObj.cells (s7.map I)::AObj.cells [(.ref 2 0 (panels.length:Int).toNat (some (panels.length:Int).toNat) 1)]::Y65_1)++[AObj.cells [(.lst ((ix turns s4).map I) (ix turns s4).length .shared)]])∧x65_l6 panels turns s4 kl6_0 m s6 s7=some v) FU ⟨s6,s7,rfl,rfl,h⟩ ?_
 clear h hT
 rintro m T H ⟨s6,s7,rfl,rfl,h⟩
 cases m
 ·exact none_ne h
 rename_i m
 rw [x65_l6.eq_2] at h
 conv=>whnf
 rcases bt (decide (s6<((ix turns s4).length:Int))) with hb18 | hb18
 ·rw [hb18]
  conv=>whnf
  replace h:=it_t hb18 h
  obtain ⟨hb19,h⟩:=gd_some h
  refine ⟨hb19,?_⟩
  rw [drop1 I (ix turns s4) s6 hb19]
  conv=>whnf
  obtain ⟨hb20,h⟩:=gd_some h
  refine ⟨⟨hb20.1,hb20.2.1⟩,?_⟩
  replace hb20:0≤(ix (ix turns s4) s6)∧(ix (ix turns s4) s6)<(s7.length:Int):=⟨hb20.1,by have:=hb20.2;omega⟩
  conv=>whnf
  refine rdD I s7 (ix (ix turns s4) s6) hb20 ?_
  conv=>whnf
  obtain ⟨hb21,h⟩:=gd_some h
  refine ⟨⟨hb21.1,hb21.2.1⟩,?_⟩
  replace hb21:0≤(ix (ix turns s4) s6)∧(ix (ix turns s4) s6)<(s7.length:Int):=⟨hb21.1,by have:=hb21.2;omega⟩
  conv=>whnf
  refine updD I s7 (ix (ix turns s4) s6) (w ((ix s7 (ix (ix turns s4) s6))+(1:Int))) hb21 ?_
  conv=>whnf
  exact ⟨m,Nat.lt_succ_self m,(w (s6+(1:Int))),(s7.set (ix (ix turns s4) s6).toNat (w ((ix s7 (ix (ix turns s4) s6))+(1:Int)))),rfl,rfl,h⟩
 ·rw [hb18]
  conv=>whnf
  replace h:=it_f hb18 h
  exact hkl6_0 _ _ _ _ _ _ _ _ _ _ _ _ _ _ _ _ _ _ _ _ _ _ _ _ _ _ _ _ _ _ _ _ _ _ _ _ _ _ _ _ _ _ _ _ _ _ _ _ _ _ _ _ _ _ _ _ _ _ _ _ _ _ _ _ _ _ _ _ _ _ _ _ _ _ _ _ _ _ _ _ _ _ _ _ _ _ _ _ _ _ _ _ _ _ _ _ _ _ _ _ _ _ _ _ _ h
theorem x65_j5_ok {panels:(List (Int×Int))} {turns:(List (List Int))} {p1:((Int×(List Int)×Int×Int)×(List (Int×Int))×(List Int)×(List Int))} {s1:(List ((List Int)×Int×Int))} {s2:Int} {s4:Int} {s5:(List Int)} {kj5_0:(List ((List Int)×Int×Int))→(List Int)→Option ((Option ((Int×(List Int)×Int×Int)×(List (Int×Int))×(List Int)×(List Int)))×(List ((List Int)×Int×Int))×Int)} {s3:Int} {v:((Option ((Int×(List Int)×Int×Int)×(List (Int×Int))×(List Int)×(List Int)))×(List ((List Int)×Int×Int))×Int)} {Q:Ex→List AV→List AObj→Prop} {u0:AV} {u1:AV} {u2:AV} {u3:AV} {u6:AV} {u7:AV} {u8:AV} {u10:AV} {u17:AV} {u18:AV} {u19:AV} {u20:AV} {u21:AV} {u22:AV} {u23:AV} {u24:AV} {u25:AV} {u26:AV} {u27:AV} {u28:AV} {u29:AV} {u30:AV} {u31:AV} {u32:AV} {u33:AV} {u37:AV} {u38:AV} {u39:AV} {u40:AV} {u41:AV} {u42:AV} {u43:AV} {u44:AV} {u45:AV} {u46:AV} {u47:AV} {u48:AV} {u49:AV} {u50:AV} {u51:AV} {u52:AV} {u53:AV} {u54:AV} {u55:AV} {u56:AV} {u57:AV} {u58:AV} {u59:AV} {u60:AV} {u61:AV} {u62:AV} {u63:AV} {u64:AV} {u65:AV} {u66:AV} {u67:AV} {u68:AV} {u69:AV} {u70:AV} {u71:AV} {u72:AV} {u73:AV} {u74:AV} {u75:AV} {u76:AV} {u77:AV} {u78:AV} {u79:AV} {u80:AV} {u81:AV} {u82:AV} {u83:AV} {u84:AV} {u85:AV} {u86:AV} {u87:AV} {u88:AV} {u89:AV} {u90:AV} {u91:AV} {u92:AV} {u93:AV} {u94:AV} {u95:AV} {u96:AV} {u97:AV} {u98:AV} {u99:AV} {u100:AV} {u101:AV} {u102:AV} {u103:AV} {u104:AV} {u105:AV} {u106:AV} {u107:AV} {u108:AV} {u109:AV} {u110:AV} {u111:AV} {u112:AV} {u113:AV} {u114:AV} {u115:AV} {o1:AObj} {Y65_1:List AObj} (hkj5_0:∀ (z2:(List ((List Int)×Int×Int))) (z3:(List Int)) (u0:AV) (u1:AV) (u2:AV) (u3:AV) (u6:AV) (u7:AV) (u8:AV) (u10:AV) (u16:AV) (u17:AV) (u18:AV) (u19:AV) (u20:AV) (u21:AV) (u22:AV) (u23:AV) (u24:AV) (u25:AV) (u26:AV) (u27:AV) (u28:AV) (u29:AV) (u30:AV) (u31:AV) (u32:AV) (u33:AV) (u37:AV) (u38:AV) (u39:AV) (u40:AV) (u41:AV) (u42:AV) (u43:AV) (u44:AV) (u45:AV) (u46:AV) (u47:AV) (u48:AV) (u49:AV) (u50:AV) (u51:AV) (u52:AV) (u53:AV) (u54:AV) (u55:AV) (u56:AV) (u57:AV) (u58:AV) (u59:AV) (u60:AV) (u61:AV) (u62:AV) (u63:AV) (u64:AV) (u65:AV) (u66:AV) (u67:AV) (u68:AV) (u69:AV) (u70:AV) (u71:AV) (u72:AV) (u73:AV) (u74:AV) (u75:AV) (u76:AV) (u77:AV) (u78:AV) (u79:AV) (u80:AV) (u81:AV) (u82:AV) (u83:AV) (u84:AV) (u85:AV) (u86:AV) (u87:AV) (u88:AV) (u89:AV) (u90:AV) (u91:AV) (u92:AV) (u93:AV) (u94:AV) (u95:AV) (u96:AV) (u97:AV) (u98:AV) (u99:AV) (u100:AV) (u101:AV) (u102:AV) (u103:AV) (u104:AV) (u105:AV) (u106:AV) (u107:AV) (u108:AV) (u109:AV) (u110:AV) (u111:AV) (u112:AV) (u113:AV) (u114:AV) (u115:AV) (Yq:List AObj),kj5_0 z2 z3=some v→Q .normal [u0,u1,u2,u3,(.ptr 1 0),J,u6,u7,u8,(.lptr ((I p1.1.1)::(.lst (p1.1.2.1.map I) p1.1.2.1.length .shared)::(I p1.1.2.2.1)::(I p1.1.2.2.2)::(.lst (p1.2.1.flatMap pr) p1.2.1.length .shared)::(.lst (p1.2.2.1.map I) p1.2.2.1.length .shared)::(p1.2.2.2.map I))),u10,(.ptr 3 0),(.lst (z2.flatMap E_turn) z2.length (.uniq 3)),(I (ix panels (ix (ix turns s4) (0:Int))).1),(I (w (s3+((ix turns s4).length:Int)))),J,u16,u17,u18,u19,u20,u21,u22,u23,u24,u25,u26,u27,u28,u29,u30,u31,u32,u33,(.lst (turns.map L1) turns.length .shared),(I (turns.length:Int)),(I s4),u37,u38,u39,u40,u41,u42,u43,u44,u45,u46,u47,u48,u49,u50,u51,u52,u53,u54,u55,u56,u57,u58,u59,u60,u61,u62,u63,u64,u65,u66,u67,u68,u69,u70,u71,u72,u73,u74,u75,u76,u77,u78,u79,u80,u81,u82,u83,u84,u85,u86,u87,u88,u89,u90,u91,u92,u93,u94,u95,u96,u97,u98,u99,u100,u101,u102,u103,u104,u105,u106,u107,u108,u109,u110,u111,u112,u113,u114,u115] (o1::AObj.cells [(.lst (panels.flatMap pr) panels.length .shared)]::AObj.cells (z3.map I)::AObj.cells [(.ref 2 0 (panels.length:Int).toNat (some (panels.length:Int).toNat) 1)]::Yq)) (h:x65_j5 panels turns p1 s1 s2 s4 s5 kj5_0  = some v) :
  wpR Tryz.prog ann65 65 0 none xrc65_4 [u0,u1,u2,u3,(.ptr 1 0),J,u6,u7,u8,(.lptr ((I p1.1.1)::(.lst (p1.1.2.1.map I) p1.1.2.1.length .shared)::(I p1.1.2.2.1)::(I p1.1.2.2.2)::(.lst (p1.2.1.flatMap pr) p1.2.1.length .shared)::(.lst (p1.2.2.1.map I) p1.2.2.1.length .shared)::(p1.2.2.2.map I))),u10,(.ptr 3 0),(.lst (s1.flatMap E_turn) s1.length (.uniq 3)),(I s2),(I s3),J,(.ptr (o1::AObj.cells [(.lst (panels.flatMap pr) panels.length .shared)]::AObj.cells (s5.map I)::AObj.cells [(.ref 2 0 (panels.length:Int).toNat (some (panels.length:Int).toNat) 1)]::Y65_1).length 0),u17,u18,u19,u20,u21,u22,u23,u24,u25,u26,u27,u28,u29,u30,u31,u32,u33,(.lst (turns.map L1) turns.length .shared),(I (turns.length:Int)),(I s4),u37,u38,u39,u40,u41,u42,u43,u44,u45,u46,u47,u48,u49,u50,u51,u52,u53,u54,u55,u56,u57,u58,u59,u60,u61,u62,u63,u64,u65,u66,u67,u68,u69,u70,u71,u72,u73,u74,u75,u76,u77,u78,u79,u80,u81,u82,u83,u84,u85,u86,u87,u88,u89,u90,u91,u92,u93,u94,u95,u96,u97,u98,u99,u100,u101,u102,u103,u104,u105,u106,u107,u108,u109,u110,u111,u112,u113,u114,u115] ((o1::AObj.cells [(.lst (panels.flatMap pr) panels.length .shared)]::AObj.cells (s5.map I)::AObj.cells [(.ref 2 0 (panels.length:Int).toNat (some (panels.length:Int).toNat) 1)]::Y65_1)++[AObj.cells [(.lst ((ix turns s4).map I) (ix turns s4).length .shared)]]) Q:=by
 unfold x65_j5 at h
 unfold xrc65_4
 obtain ⟨c_3,g_3⟩:∃ c,xrc65_3=c:=⟨_,rfl⟩
 rw [g_3]
 conv=>whnf
 refine nthK_of (x:=AObj.cells [(.lst ((ix turns s4).map I) (ix turns s4).length .shared)]) (by first | with_reducible exact get_concat _ _ | exact get_concat _ _ | exact ga (get_concat _ _) | rfl | (simp [List.getElem?_append,AV.settle];done)) ?_
 conv=>whnf
 subst g_3
 refine x65_l6_ok ?_ (by exact rfl) h
 intro z1 u0 u1 u2 u3 u6 u7 u8 u10 u17 u18 u19 u20 u21 u22 u23 u24 u25 u26 u27 u28 u29 u30 u31 u32 u33 u37 u38 u39 u40 u41 u42 u43 u44 u45 u46 u47 u48 u49 u50 u51 u52 u53 u54 u55 u56 u57 u58 u59 u60 u61 u62 u63 u64 u65 u66 u67 u68 u69 u70 u71 u72 u73 u74 u75 u76 u77 u78 u79 u80 u81 u82 u83 u84 u85 u86 u87 u88 u89 u90 u91 u92 u93 u94 u95 u96 u97 u98 u99 u100 u101 u102 u103 u104 u105 u106 u107 u108 u109 u110 u111 u112 u113 u114 u115 h
 conv=>whnf
 refine nthK_of (x:=AObj.cells [(.lst ((ix turns s4).map I) (ix turns s4).length .shared)]) (by first | with_reducible exact get_concat _ _ | exact get_concat _ _ | exact ga (get_concat _ _) | rfl | (simp [List.getElem?_append,AV.settle];done)) ?_
 conv=>whnf
 refine nthK_of (x:=AObj.cells [(.lst ((ix turns s4).map I) (ix turns s4).length .shared)]) (by first | with_reducible exact get_concat _ _ | exact get_concat _ _ | exact ga (get_concat _ _) | rfl | (simp [List.getElem?_append,AV.settle];done)) ?_
 conv=>whnf
 obtain ⟨hb22,h⟩:=gd_some h
 refine ⟨hb22,?_⟩
 rw [drop1 I (ix turns s4) (0:Int) hb22]
 conv=>whnf
 obtain ⟨hb23,h⟩:=gd_some h
 refine ⟨hb23,?_⟩
 rw [dropS pr 2 pr_len panels (ix (ix turns s4) (0:Int)) hb23]
 conv=>whnf
 refine nthK_of (x:=AObj.cells [(.lst ((ix turns s4).map I) (ix turns s4).length .shared)]) (by first | with_reducible exact get_concat _ _ | exact get_concat _ _ | exact ga (get_concat _ _) | rfl | (simp [List.getElem?_append,AV.settle];done)) ?_
 conv=>whnf
 refine nthK_of (x:=AObj.cells [(.lst ((ix turns s4).map I) (ix turns s4).length .shared)]) (by first | with_reducible exact get_concat _ _ | exact get_concat _ _ | exact ga (get_concat _ _) | rfl | (simp [List.getElem?_append,AV.settle];done)) ?_
 conv=>whnf
 obtain ⟨r5,hb24,h⟩:=bd_some h
 refine ⟨(allc (pu_map (fun _=>rfl) _ _ _) (allc (pu_fn (allc (pu_lptr (allc rfl (allc (pu_map (fun _=>rfl) _ _ _) (allc rfl (allc rfl (allc (pu_flat (fun _=>(allc rfl (allc rfl rfl))) _ _ _) (allc (pu_map (fun _=>rfl) _ _ _) (pu_run (fun _=>rfl) _)))))))) rfl) rfl) rfl)),_,x91_ok (allc rfl (allc (pu_map (fun _=>rfl) _ _ _) (allc rfl (allc rfl (allc (pu_flat (fun _=>(allc rfl (allc rfl rfl))) _ _ _) (allc (pu_map (fun _=>rfl) _ _ _) (pu_run (fun _=>rfl) _))))))) (fun _ _ _ hy=>x92_ok hy) hb24,acc0,?_⟩
 conv=>whnf
 obtain ⟨hb25,h⟩:=gd_some h
 refine ⟨hb25,?_⟩
 rw [dropS pr 2 pr_len panels r5 hb25]
 conv=>whnf
 obtain ⟨r6,hb26,h⟩:=bd_some h
 refine ⟨(allc rfl (allc rfl rfl)),_,x93_ok hb26,accN rfl,?_⟩
 conv=>whnf
 obtain ⟨hb27,h⟩:=gd_some h
 refine ⟨by first | rfl | (simp;done) | exact flatLen E_turn _ E_turn_len _,by have:=hb27;omega,rfl,hb27,?_⟩
 erw [apndS E_turn s1 ((ix turns s4),(ix panels r5).2,r6)]
 conv=>whnf
 exact hkj5_0 _ _ _ _ _ _ _ _ _ _ _ _ _ _ _ _ _ _ _ _ _ _ _ _ _ _ _ _ _ _ _ _ _ _ _ _ _ _ _ _ _ _ _ _ _ _ _ _ _ _ _ _ _ _ _ _ _ _ _ _ _ _ _ _ _ _ _ _ _ _ _ _ _ _ _ _ _ _ _ _ _ _ _ _ _ _ _ _ _ _ _ _ _ _ _ _ _ _ _ _ _ _ _ _ _ _ _ _ h
theorem x65_l3_ok {panels:(List (Int×Int))} {turns:(List (List Int))} {p1:((Int×(List Int)×Int×Int)×(List (Int×Int))×(List Int)×(List Int))} {kl3_0:(List ((List Int)×Int×Int))→Int→Option ((Option ((Int×(List Int)×Int×Int)×(List (Int×Int))×(List Int)×(List Int)))×(List ((List Int)×Int×Int))×Int)} {s1:(List ((List Int)×Int×Int))} {s2:Int} {s3:Int} {s4:Int} {s5:(List Int)} {v:((Option ((Int×(List Int)×Int×Int)×(List (Int×Int))×(List Int)×(List Int)))×(List ((List Int)×Int×Int))×Int)} {Q:Ex→List AV→List AObj→Prop} {o1:AObj}  (hR:∀ T H,RetW [.tmp 6,.tmp 7,.tmp 8] (.tuple [(optP E_bench v.1),(.lst (v.2.1.flatMap E_turn) v.2.1.length .shared),(I v.2.2)]) .ret T H→Q .ret T H) (hkl3_0:∀ (z4:(List ((List Int)×Int×Int))) (z5:Int) (u0:AV) (u1:AV) (u2:AV) (u3:AV) (u6:AV) (u7:AV) (u8:AV) (u10:AV) (u11:AV) (u13:AV) (u16:AV) (u17:AV) (u18:AV) (u19:AV) (u20:AV) (u21:AV) (u22:AV) (u23:AV) (u24:AV) (u25:AV) (u26:AV) (u27:AV) (u28:AV) (u29:AV) (u30:AV) (u31:AV) (u32:AV) (u33:AV) (u34:AV) (u35:AV) (u36:AV) (u37:AV) (u38:AV) (u39:AV) (u40:AV) (u41:AV) (u42:AV) (u43:AV) (u44:AV) (u45:AV) (u46:AV) (u47:AV) (u48:AV) (u49:AV) (u50:AV) (u51:AV) (u52:AV) (u53:AV) (u54:AV) (u55:AV) (u56:AV) (u57:AV) (u58:AV) (u59:AV) (u60:AV) (u61:AV) (u62:AV) (u63:AV) (u64:AV) (u65:AV) (u66:AV) (u67:AV) (u68:AV) (u69:AV) (u70:AV) (u71:AV) (u72:AV) (u73:AV) (u74:AV) (u75:AV) (u76:AV) (u77:AV) (u78:AV) (u79:AV) (u80:AV) (u81:AV) (u82:AV) (u83:AV) (u84:AV) (u85:AV) (u86:AV) (u87:AV) (u88:AV) (u89:AV) (u90:AV) (u91:AV) (u92:AV) (u93:AV) (u94:AV) (u95:AV) (u96:AV) (u97:AV) (u98:AV) (u99:AV) (u100:AV) (u101:AV) (u102:AV) (u103:AV) (u104:AV) (u105:AV) (u106:AV) (u107:AV) (u108:AV) (u109:AV) (u110:AV) (u111:AV) (u112:AV) (u113:AV) (u114:AV) (u115:AV) (o6:AObj) (o7:AObj) (Yq:List AObj),kl3_0 z4 z5=some v→Q (.exit 0) [u0,u1,u2,u3,(.ptr 1 0),J,u6,u7,u8,(.lptr ((I p1.1.1)::(.lst (p1.1.2.1.map I) p1.1.2.1.length .shared)::(I p1.1.2.2.1)::(I p1.1.2.2.2)::(.lst (p1.2.1.flatMap pr) p1.2.1.length .shared)::(.lst (p1.2.2.1.map I) p1.2.2.1.length .shared)::(p1.2.2.2.map I))),u10,u11,(.lst (z4.flatMap E_turn) z4.length (.uniq 3)),u13,(I z5),J,u16,u17,u18,u19,u20,u21,u22,u23,u24,u25,u26,u27,u28,u29,u30,u31,u32,u33,u34,u35,u36,u37,u38,u39,u40,u41,u42,u43,u44,u45,u46,u47,u48,u49,u50,u51,u52,u53,u54,u55,u56,u57,u58,u59,u60,u61,u62,u63,u64,u65,u66,u67,u68,u69,u70,u71,u72,u73,u74,u75,u76,u77,u78,u79,u80,u81,u82,u83,u84,u85,u86,u87,u88,u89,u90,u91,u92,u93,u94,u95,u96,u97,u98,u99,u100,u101,u102,u103,u104,u105,u106,u107,u108,u109,u110,u111,u112,u113,u114,u115] (o1::AObj.cells [(.lst (panels.flatMap pr) panels.length .shared)]::o6::o7::Yq)) {T:List AV} (hT:zipKeep [o_,o_,o_,o_,i_,o_,o_,o_,o_,i_,o_,i_,i_,i_,i_,o_,o_,o_,o_,o_,o_,o_,o_,o_,o_,o_,o_,o_,o_,o_,o_,o_,o_,o_,i_,i_,i_,o_,o_,o_,o_,o_,o_,o_,o_,o_,o_,o_,o_,o_,o_,o_,o_,o_,o_,o_,o_,o_,o_,o_,o_,o_,o_,o_,o_,o_,o_,o_,o_,o_,o_,o_,o_,o_,o_,o_,o_,o_,o_,o_,o_,o_,o_,o_,o_,o_,o_,o_,o_,o_,o_,o_,o_,o_,o_,o_,o_,o_,o_,o_,o_,o_,o_,o_,o_,o_,o_,o_,o_,o_,o_,o_,o_,o_,o_,o_] T=slots 116 [(4,(.ptr 1 0)),(9,(.lptr ((I p1.1.1)::(.lst (p1.1.2.1.map I) p1.1.2.1.length .shared)::(I p1.1.2.2.1)::(I p1.1.2.2.2)::(.lst (p1.2.1.flatMap pr) p1.2.1.length .shared)::(.lst (p1.2.2.1.map I) p1.2.2.1.length .shared)::(p1.2.2.2.map I)))),(11,(.ptr 3 0)),(12,(.lst (s1.flatMap E_turn) s1.length (.uniq 3))),(13,(I s2)),(14,(I s3)),(34,(.lst (turns.map L1) turns.length .shared)),(35,(I (turns.length:Int))),(36,(I s4))]) (h:x65_l3 panels turns p1 kl3_0 FU s1 s2 s3 s4 s5=some v) :
  wpR Tryz.prog ann65 65 0 none xrc65_2 T [o1,AObj.cells [(.lst (panels.flatMap pr) panels.length .shared)],AObj.cells (s5.map I),AObj.cells [(.ref 2 0 (panels.length:Int).toNat (some (panels.length:Int).toNat) 1)]] Q:=by
 unfold xrc65_2
 obtain ⟨c_1,g_1⟩:∃ c,xrc65_1=c:=⟨_,rfl⟩
 rw [g_1]
 obtain ⟨c_4,g_4⟩:∃ c,xrc65_4=c:=⟨_,rfl⟩
 rw [g_4]
 refine wp_loop hT ?_
 refine .intro (fun m T H=>∃ (s1:(List ((List Int)×Int×Int))) (s2:Int) (s3:Int) (s4:Int) (s5:(List Int)) (Y65_1:List AObj),T=slots 116 [(4,(.ptr 1 0)),(9,(.lptr ((I p1.1.1)::(.lst (p1.1.2.1.map I) p1.1.2.1.length .shared)::(I p1.1.2.2.1)::(I p1.1.2.2.2)::(.lst (p1.2.1.flatMap pr) p1.2.1.length .shared)::(.lst (p1.2.2.1.map I) p1.2.2.1.length .shared)::(p1.2.2.2.map I)))),(11,(.ptr 3 0)),(12,(.lst (s1.flatMap E_turn) s1.length (.uniq 3))),(13,(I s2)),(14,(I s3)),(34,(.lst (turns.map L1) turns.length .shared)),(35,(I (turns.length:Int))),(36,(I s4))]∧H=(o1::AObj.cells [(.lst (panels.flatMap pr) panels.length .shared)]::AObj.cells (s5.map I)::AObj.cells [(.ref 2 0 (panels.length:Int).toNat (some (panels.length:Int).toNat) 1)]::Y65_1)∧x65_l3 panels turns p1 kl3_0 m s1 s2 s3 s4 s5=some v) FU ⟨s1,s2,s3,s4,s5,[],rfl,rfl,h⟩ ?_
 clear h hT
 rintro m T H ⟨s1,s2,s3,s4,s5,Y65_1,rfl,rfl,h⟩
 cases m
 ·exact none_ne h
 rename_i m
 rw [x65_l3.eq_2] at h
 conv=>whnf
 rcases bt (decide (s4<(turns.length:Int))) with hb11 | hb11
 ·rw [hb11]
  conv=>whnf
  replace h:=it_t hb11 h
  obtain ⟨hb12,h⟩:=gd_some h
  refine ⟨hb12,?_⟩
  rw [drop1 L1 turns s4 hb12]
  conv=>whnf
  refine nthK_of (x:=AObj.cells [(.lst [] 0 .full)]) (by first | with_reducible exact get_concat _ _ | exact get_concat _ _ | exact ga (get_concat _ _) | rfl | (simp [List.getElem?_append,AV.settle];done)) ?_
  conv=>whnf
  rw [set_concat]
  refine nthK_of (x:=AObj.cells [(.lst ((ix turns s4).map I) (ix turns s4).length .shared)]) (by first | with_reducible exact get_concat _ _ | exact get_concat _ _ | exact ga (get_concat _ _) | rfl | (simp [List.getElem?_append,AV.settle];done)) ?_
  conv=>whnf
  rcases bt (decide (((ix turns s4).length:Int)=(0:Int))) with hb13 | hb13
  ·rw [hb13]
   conv=>whnf
   replace h:=it_t hb13 h
   subst g_1
   refine x65_j4_ok ?_ ?_ h
   ·exact fun T H hh=>hR T H hh
   ·intro u0 u1 u2 u3 u6 u7 u8 u10 u17 u18 u19 u20 u21 u22 u23 u24 u25 u26 u27 u28 u29 u30 u31 u32 u33 u37 u38 u39 u40 u41 u42 u43 u44 u45 u46 u47 u48 u49 u50 u51 u52 u53 u54 u55 u56 u57 u58 u59 u60 u61 u62 u63 u64 u65 u66 u67 u68 u69 u70 u71 u72 u73 u74 u75 u76 u77 u78 u79 u80 u81 u82 u83 u84 u85 u86 u87 u88 u89 u90 u91 u92 u93 u94 u95 u96 u97 u98 u99 u100 u101 u102 u103 u104 u105 u106 u107 u108 u109 u110 u111 u112 u113 u114 u115 h
    conv=>whnf
    subst g_4
    refine x65_j5_ok ?_ h
    intro z2 z3 u0 u1 u2 u3 u6 u7 u8 u10 u16 u17 u18 u19 u20 u21 u22 u23 u24 u25 u26 u27 u28 u29 u30 u31 u32 u33 u37 u38 u39 u40 u41 u42 u43 u44 u45 u46 u47 u48 u49 u50 u51 u52 u53 u54 u55 u56 u57 u58 u59 u60 u61 u62 u63 u64 u65 u66 u67 u68 u69 u70 u71 u72 u73 u74 u75 u76 u77 u78 u79 u80 u81 u82 u83 u84 u85 u86 u87 u88 u89 u90 u91 u92 u93 u94 u95 u96 u97 u98 u99 u100 u101 u102 u103 u104 u105 u106 u107 u108 u109 u110 u111 u112 u113 u114 u115 Yq h
    conv=>whnf
    exact ⟨m,Nat.lt_succ_self m,z2,(ix panels (ix (ix turns s4) (0:Int))).1,(w (s3+((ix turns s4).length:Int))),(w (s4+(1:Int))),z3,_,rfl,rfl,h⟩
  ·rw [hb13]
   conv=>whnf
   replace h:=it_f hb13 h
   refine nthK_of (x:=AObj.cells [(.lst ((ix turns s4).map I) (ix turns s4).length .shared)]) (by first | with_reducible exact get_concat _ _ | exact get_concat _ _ | exact ga (get_concat _ _) | rfl | (simp [List.getElem?_append,AV.settle];done)) ?_
   conv=>whnf
   obtain ⟨r7,hb28,h⟩:=bd_some h
   refine ⟨(allc (pu_map (fun _=>rfl) _ _ _) (allc rfl rfl)),_,x61_ok hb28,?_⟩
   conv=>whnf
   subst g_1
   refine x65_j4_ok ?_ ?_ h
   ·exact fun T H hh=>hR T H hh
   ·intro u0 u1 u2 u3 u6 u7 u8 u10 u17 u18 u19 u20 u21 u22 u23 u24 u25 u26 u27 u28 u29 u30 u31 u32 u33 u37 u38 u39 u40 u41 u42 u43 u44 u45 u46 u47 u48 u49 u50 u51 u52 u53 u54 u55 u56 u57 u58 u59 u60 u61 u62 u63 u64 u65 u66 u67 u68 u69 u70 u71 u72 u73 u74 u75 u76 u77 u78 u79 u80 u81 u82 u83 u84 u85 u86 u87 u88 u89 u90 u91 u92 u93 u94 u95 u96 u97 u98 u99 u100 u101 u102 u103 u104 u105 u106 u107 u108 u109 u110 u111 u112 u113 u114 u115 h
    conv=>whnf
    subst g_4
    refine x65_j5_ok ?_ h
    intro z2 z3 u0 u1 u2 u3 u6 u7 u8 u10 u16 u17 u18 u19 u20 u21 u22 u23 u24 u25 u26 u27 u28 u29 u30 u31 u32 u33 u37 u38 u39 u40 u41 u42 u43 u44 u45 u46 u47 u48 u49 u50 u51 u52 u53 u54 u55 u56 u57 u58 u59 u60 u61 u62 u63 u64 u65 u66 u67 u68 u69 u70 u71 u72 u73 u74 u75 u76 u77 u78 u79 u80 u81 u82 u83 u84 u85 u86 u87 u88 u89 u90 u91 u92 u93 u94 u95 u96 u97 u98 u99 u100 u101 u102 u103 u104 u105 u106 u107 u108 u109 u110 u111 u112 u113 u114 u115 Yq h
    conv=>whnf
    exact ⟨m,Nat.lt_succ_self m,z2,(ix panels (ix (ix turns s4) (0:Int))).1,(w (s3+((ix turns s4).length:Int))),(w (s4+(1:Int))),z3,_,rfl,rfl,h⟩
 ·rw [hb11]
  conv=>whnf
  replace h:=it_f hb11 h
  exact hkl3_0 _ _ _ _ _ _ _ _ _ _ _ _ _ _ _ _ _ _ _ _ _ _ _ _ _ _ _ _ _ _ _ _ _ _ _ _ _ _ _ _ _ _ _ _ _ _ _ _ _ _ _ _ _ _ _ _ _ _ _ _ _ _ _ _ _ _ _ _ _ _ _ _ _ _ _ _ _ _ _ _ _ _ _ _ _ _ _ _ _ _ _ _ _ _ _ _ _ _ _ _ _ _ _ _ _ _ _ _ _ _ _ _ _ _ _ h
theorem x65_ok {b:(Int×(List Int)×Int×Int)} {panels:(List (Int×Int))} {turns:(List (List Int))} {v:((Option ((Int×(List Int)×Int×Int)×(List (Int×Int))×(List Int)×(List Int)))×(List ((List Int)×Int×Int))×Int)} (h:x65 b panels turns=some v):PO 65 [(.agg [(I b.1),(.lst (b.2.1.map I) b.2.1.length .shared),(I b.2.2.1),(I b.2.2.2)]),(.lst (panels.flatMap pr) panels.length .shared),(.lst (turns.map L1) turns.length .shared)] (.tuple [(optP E_bench v.1),(.lst (v.2.1.flatMap E_turn) v.2.1.length .shared),(I v.2.2)]):=by
 refine fn_pureW hmix lxx65 rfl (pu_tup (allc (pu_opt (fun _=>(allc rfl (allc (pu_map (fun _=>rfl) _ _ _) (allc rfl (allc rfl (allc (pu_flat (fun _=>(allc rfl (allc rfl rfl))) _ _ _) (allc (pu_map (fun _=>rfl) _ _ _) (pu_run (fun _=>rfl) _)))))))) _) (allc (pu_flat (fun _=>(allc (pu_map (fun _=>rfl) _ _ _) (allc rfl (allc rfl rfl)))) _ _ _) (allc rfl rfl)))) fun Q hQ=>?_
 have hR:∀ T H,RetW [.tmp 6,.tmp 7,.tmp 8] (.tuple [(optP E_bench v.1),(.lst (v.2.1.flatMap E_turn) v.2.1.length .shared),(I v.2.2)]) .ret T H→Q .ret T H:=fun T H hh=>hQ _ T H hh
 unfold x65 at h
 unfold xrc65
 obtain ⟨c_2,g_2⟩:∃ c,xrc65_2=c:=⟨_,rfl⟩
 rw [g_2]
 conv=>whnf
 obtain ⟨r1,hb1,h⟩:=bd_some h
 rcases r1 with ⟨_ | p1,q1⟩
 ·refine ⟨(allc (pu_agg (allc rfl (allc (pu_map (fun _=>rfl) _ _ _) (allc rfl (allc rfl rfl))))) (allc (pu_flat (fun _=>(allc rfl (allc rfl rfl))) _ _ _) rfl)),_,x69_ok hb1,?_⟩
  conv=>whnf
  rcases bt (decide (q1≠(0:Int))) with hb2 | hb2
  ·rw [hb2]
   conv=>whnf
   replace h:=it_t hb2 h
   obtain rfl:=Option.some.inj h
   exact hR _ _ ⟨.inr rfl,_,rfl,_,frz_pure (pu_tup (allc rfl (allc rfl (allc rfl rfl)))),rfl⟩
  ·rw [hb2]
   conv=>whnf
   replace h:=it_f hb2 h
   obtain ⟨hb3,h⟩:=gd_some h
   refine ⟨hb3.1,hb3.2.1,hb3.2.2,?_⟩
   rw [replMap I (0:Int)]
   conv=>whnf
   subst g_2
   refine x65_l1_ok ?_ ?_ (by exact rfl) h
   ·exact fun T H hh=>hR T H hh
   ·intro u0 u1 u2 u3 u6 u7 u8 u10 u11 u13 u16 u17 u18 u19 u20 u21 u22 u23 u24 u25 u26 u27 u28 u29 u30 u31 u32 u33 u34 u35 u36 u37 u38 u39 u40 u41 u42 u43 u44 u45 u46 u47 u48 u49 u50 u51 u52 u53 u54 u55 u56 u57 u58 u59 u60 u61 u62 u63 u64 u65 u66 u67 u68 u69 u70 u71 u72 u73 u74 u75 u76 u77 u78 u79 u80 u81 u82 u83 u84 u85 u86 u87 u88 u89 u90 u91 u92 u93 u94 u95 u96 u97 u98 u99 u100 u101 u102 u103 u104 u105 u106 u107 u108 u109 u110 u111 u112 u113 u114 u115 o3 o4 h
    conv=>whnf
    rcases bt (decide ((0:Int)<(panels.length:Int))) with hb8 | hb8
    ·rw [hb8]
     conv=>whnf
     replace h:=it_t hb8 h
     obtain rfl:=Option.some.inj h
     exact hR _ _ ⟨.inr rfl,_,rfl,_,frz_pure (pu_tup (allc rfl (allc rfl (allc rfl rfl)))),rfl⟩
    ·rw [hb8]
     conv=>whnf
     replace h:=it_f hb8 h
     obtain rfl:=Option.some.inj h
     exact hR _ _ ⟨.inr rfl,_,rfl,_,frz_pure (pu_tup (allc rfl (allc rfl (allc rfl rfl)))),rfl⟩
 ·refine ⟨(allc (pu_agg (allc rfl (allc (pu_map (fun _=>rfl) _ _ _) (allc rfl (allc rfl rfl))))) (allc (pu_flat (fun _=>(allc rfl (allc rfl rfl))) _ _ _) rfl)),_,x69_ok hb1,?_⟩
  conv=>whnf
  rcases bt (decide (q1≠(0:Int))) with hb9 | hb9
  ·rw [hb9]
   conv=>whnf
   replace h:=it_t hb9 h
   obtain rfl:=Option.some.inj h
   exact hR _ _ ⟨.inr rfl,_,rfl,_,frz_pure (pu_tup (allc rfl (allc rfl (allc rfl rfl)))),rfl⟩
  ·rw [hb9]
   conv=>whnf
   replace h:=it_f hb9 h
   obtain ⟨hb10,h⟩:=gd_some h
   refine ⟨hb10.1,hb10.2.1,hb10.2.2,?_⟩
   rw [replMap I (0:Int)]
   conv=>whnf
   subst g_2
   refine x65_l3_ok ?_ ?_ (by exact rfl) h
   ·exact fun T H hh=>hR T H hh
   ·intro z4 z5 u0 u1 u2 u3 u6 u7 u8 u10 u11 u13 u16 u17 u18 u19 u20 u21 u22 u23 u24 u25 u26 u27 u28 u29 u30 u31 u32 u33 u34 u35 u36 u37 u38 u39 u40 u41 u42 u43 u44 u45 u46 u47 u48 u49 u50 u51 u52 u53 u54 u55 u56 u57 u58 u59 u60 u61 u62 u63 u64 u65 u66 u67 u68 u69 u70 u71 u72 u73 u74 u75 u76 u77 u78 u79 u80 u81 u82 u83 u84 u85 u86 u87 u88 u89 u90 u91 u92 u93 u94 u95 u96 u97 u98 u99 u100 u101 u102 u103 u104 u105 u106 u107 u108 u109 u110 u111 u112 u113 u114 u115 o6 o7 Yq h
    conv=>whnf
    rcases bt (decide (z5<(panels.length:Int))) with hb29 | hb29
    ·rw [hb29]
     conv=>whnf
     replace h:=it_t hb29 h
     obtain rfl:=Option.some.inj h
     exact hR _ _ ⟨.inr rfl,_,rfl,_,frz_pure (pu_tup (allc rfl (allc rfl (allc rfl rfl)))),rfl⟩
    ·rw [hb29]
     conv=>whnf
     replace h:=it_f hb29 h
     obtain rfl:=Option.some.inj h
     exact hR _ _ ⟨.inr rfl,_,rfl,_,frz_pure (pu_tup (allc (pu_lptr (allc rfl (allc (pu_map (fun _=>rfl) _ _ _) (allc rfl (allc rfl (allc (pu_flat (fun _=>(allc rfl (allc rfl rfl))) _ _ _) (allc (pu_map (fun _=>rfl) _ _ _) (pu_run (fun _=>rfl) _)))))))) (allc (pu_flat (fun _=>(allc (pu_map (fun _=>rfl) _ _ _) (allc rfl (allc rfl rfl)))) _ _ _) (allc rfl rfl)))),rfl⟩

noncomputable def xrc26_10:RC :=
 .reg false [I_ 34 [.tk 13] .mv,I_ 35 [.tv 15] (.fa 2),I_ 36 [.tv 35] (.ld .one),I_ 37 [.tv 34,.tv 36] (.bin .add),I_ 13 [.tk 37] .mv]
noncomputable def xrc26_9:RC :=
 .seq (.reg false [I_ 30 [.tk 12] .mv,I_ 31 [.sl 15] (.fa 1),I_ 32 [.tv 31] (.ld .one),I_ 33 [.tv 30,.tv 32] (.bin .add),I_ 12 [.tk 33] .mv]) xrc26_10
noncomputable def xrc26_8:RC :=
 .reg false [I_ 38 [.tv 26,.cv (.int .i64 1)] (.bin .add),I_ 26 [.tk 38] .mv]
noncomputable def xrc26_7:RC :=
 .seq (.block 1 (.seq (.reg false [I_ 28 [.sl 24,.sl 26] (.ia 3),I_ 29 [.tv 28] (.ld (.str 3)),I_ 15 [] (.alloc [.lst [] 0 .full,.int .i64 0,.int .i64 0]),⟨none,[.sl 15,.tk 29],none,none,.st 3⟩]) xrc26_9)) xrc26_8
noncomputable def xrc26_6:RC :=
 .seq (.cond (.sl 27) .skip (.exit 0)) xrc26_7
noncomputable def xrc26_11:RC :=
 .loop (some [o_,o_,o_,o_,o_,o_,o_,o_,o_,o_,o_,i_,i_,i_,o_,o_,o_,o_,o_,o_,o_,o_,o_,o_,i_,i_,i_,o_,o_,o_,o_,o_,o_,o_,o_,o_,o_,o_,o_,o_,o_,o_]) (.seq (.reg false [I_ 27 [.sl 26,.sl 25] (.bin .lss)]) xrc26_6)
noncomputable def xrc26_5:RC :=
 .block 0 xrc26_11
noncomputable def xrc26_4:RC :=
 .seq (.reg false [I_ 39 [.tk 12] .mv,I_ 40 [.tk 13] .mv,I_ 41 [.tk 11] .mv,I_ 6 [.tk 39] .mv,I_ 7 [.tk 40] .mv,I_ 8 [.tk 41] .mv]) .ret
noncomputable def xrc26_3:RC :=
 .seq (.seq (.reg false [I_ 24 [.tk 10] .mv,I_ 25 [.sl 24] .lenS,I_ 26 [.cv (.int .i64 0)] .mv]) xrc26_5) xrc26_4
noncomputable def xrc26_2:RC :=
 .seq (.reg false [I_ 12 [.cv (.int .i64 0)] .mv,I_ 13 [.cv (.int .i64 0)] .mv]) xrc26_3
noncomputable def xrc26_1:RC :=
 .seq (.reg false [I_ 17 [.tv 3] (.ld (.str 4)),I_ 18 [.tk 1] .mv,I_ 19 [.tk 2] .mv,I_ 20 [.cv (.func 65 [] []),.sl 17,.sl 18,.sl 19] (.call 3),I_ 16 [.tk 20] .mv,I_ 21 [.sl 16] (.ext 0),I_ 22 [.sl 16] (.ext 1),I_ 23
 [.tv 16] (.ext 2),I_ 9 [.tk 21] .mv,I_ 10 [.tk 22] .mv,I_ 11 [.tk 23] .mv]) xrc26_2
noncomputable def xrc26:RC :=
 .seq (.reg false [I_ 3 [.tk 0] .box,I_ 6 [.cv (.int .i64 0)] .mv,I_ 7 [.cv (.int .i64 0)] .mv,I_ 8 [.cv (.int .i64 0)] .mv]) xrc26_1
theorem lxx26:linkF Tryz.prog ann26 26=some (xrc26,42,[.tmp 6,.tmp 7,.tmp 8]):=by kernel_rfl
def x26_l1 (q1:((List ((List Int)×Int×Int))×Int)) (kl1_0:Int→Int→Option (Int×Int×Int)):Nat→Int→Int→Int→Option (Int×Int×Int)
 | 0,_,_,_=>none
 | m+1,s1,s2,s3 =>
   if (decide (s3<(q1.1.length:Int)))=true then
    gd (0≤s3∧s3<(q1.1.length:Int)) <|
    x26_l1 q1 kl1_0 m (w (s1+(ix q1.1 s3).2.1)) (w (s2+(ix q1.1 s3).2.2)) (w (s3+(1:Int)))
   else
    kl1_0 s1 s2
def x26 (b:(Int×(List Int)×Int×Int)) (panels:(List (Int×Int))) (turns:(List (List Int))):Option (Int×Int×Int) :=
 (x65 b panels turns).bind fun r1 =>
 match r1 with
 | (none,q1) =>
   x26_l1 q1 (fun z1 z2 =>
     some (z1,z2,q1.2)) FU (0:Int) (0:Int) (0:Int)
 | (some p1,q1) =>
   x26_l1 q1 (fun z3 z4 =>
     some (z3,z4,q1.2)) FU (0:Int) (0:Int) (0:Int)
theorem x26_l1_ok {q1:((List ((List Int)×Int×Int))×Int)} {kl1_0:Int→Int→Option (Int×Int×Int)} {s1:Int} {s2:Int} {s3:Int} {v:(Int×Int×Int)} {Q:Ex→List AV→List AObj→Prop} {o1:AObj}  (hkl1_0:∀ (z1:Int) (z2:Int) (u0:AV) (u1:AV) (u2:AV) (u3:AV) (u6:AV) (u7:AV) (u8:AV) (u9:AV) (u10:AV) (u15:AV) (u16:AV) (u17:AV) (u18:AV) (u19:AV) (u20:AV) (u21:AV) (u22:AV) (u23:AV) (u24:AV) (u25:AV) (u26:AV) (u27:AV) (u28:AV) (u29:AV) (u30:AV) (u31:AV) (u32:AV) (u33:AV) (u34:AV) (u35:AV) (u36:AV) (u37:AV) (u38:AV) (u39:AV) (u40:AV) (u41:AV) (Yq:List AObj),kl1_0 z1 z2=some v→Q (.exit 0) [u0,u1,u2,u3,J,J,u6,u7,u8,u9,u10,(I q1.2),(I z1),(I z2),J,u15,u16,u17,u18,u19,u20,u21,u22,u23,u24,u25,u26,u27,u28,u29,u30,u31,u32,u33,u34,u35,u36,u37,u38,u39,u40,u41] (o1::Yq)) {T:List AV} (hT:zipKeep [o_,o_,o_,o_,o_,o_,o_,o_,o_,o_,o_,i_,i_,i_,o_,o_,o_,o_,o_,o_,o_,o_,o_,o_,i_,i_,i_,o_,o_,o_,o_,o_,o_,o_,o_,o_,o_,o_,o_,o_,o_,o_] T=slots 42 [(11,(I q1.2)),(12,(I s1)),(13,(I s2)),(24,(.lst (q1.1.flatMap E_turn) q1.1.length .shared)),(25,(I (q1.1.length:Int))),(26,(I s3))]) (h:x26_l1 q1 kl1_0 FU s1 s2 s3=some v) :
  wpR Tryz.prog ann26 26 0 none xrc26_11 T [o1] Q:=by
 unfold xrc26_11
 obtain ⟨c_6,g_6⟩:∃ c,xrc26_6=c:=⟨_,rfl⟩
 rw [g_6]
 refine wp_loop hT ?_
 refine .intro (fun m T H=>∃ (s1:Int) (s2:Int) (s3:Int) (Y26_1:List AObj),T=slots 42 [(11,(I q1.2)),(12,(I s1)),(13,(I s2)),(24,(.lst (q1.1.flatMap E_turn) q1.1.length .shared)),(25,(I (q1.1.length:Int))),(26,(I s3))]∧H=(o1::Y26_1)∧x26_l1 q1 kl1_0 m s1 s2 s3=some v) FU ⟨s1,s2,s3,[],rfl,rfl,h⟩ ?_
 clear h hT
 rintro m T H ⟨s1,s2,s3,Y26_1,rfl,rfl,h⟩
 cases m
 ·exact none_ne h
 rename_i m
 rw [x26_l1.eq_2] at h
 conv=>whnf
 subst g_6
 unfold xrc26_6
 obtain ⟨c_7,g_7⟩:∃ c,xrc26_7=c:=⟨_,rfl⟩
 rw [g_7]
 conv=>whnf
 rcases bt (decide (s3<(q1.1.length:Int))) with hb2 | hb2
 ·rw [hb2]
  conv=>whnf
  replace h:=it_t hb2 h
  subst g_7
  unfold xrc26_7
  obtain ⟨c_8,g_8⟩:∃ c,xrc26_8=c:=⟨_,rfl⟩
  rw [g_8]
  obtain ⟨c_9,g_9⟩:∃ c,xrc26_9=c:=⟨_,rfl⟩
  rw [g_9]
  conv=>whnf
  obtain ⟨hb3,h⟩:=gd_some h
  refine ⟨hb3,?_⟩
  rw [dropS E_turn 3 E_turn_len q1.1 s3 hb3]
  conv=>whnf
  refine nthK_of (x:=AObj.cells [(.lst [] 0 .full),(I (0:Int)),(I (0:Int))]) (by first | with_reducible exact get_concat _ _ | exact get_concat _ _ | exact ga (get_concat _ _) | rfl | (simp [List.getElem?_append,AV.settle];done)) ?_
  conv=>whnf
  rw [set_concat]
  subst g_9
  unfold xrc26_9
  obtain ⟨c_10,g_10⟩:∃ c,xrc26_10=c:=⟨_,rfl⟩
  rw [g_10]
  conv=>whnf
  refine nthK_of (x:=AObj.cells [(.lst (((ix q1.1 s3).1).map I) ((ix q1.1 s3).1).length .shared),(I (ix q1.1 s3).2.1),(I (ix q1.1 s3).2.2)]) (by first | with_reducible exact get_concat _ _ | exact get_concat _ _ | exact ga (get_concat _ _) | rfl | (simp [List.getElem?_append,AV.settle];done)) ?_
  conv=>whnf
  subst g_10
  unfold xrc26_10
  skip
  conv=>whnf
  refine nthK_of (x:=AObj.cells [(.lst (((ix q1.1 s3).1).map I) ((ix q1.1 s3).1).length .shared),(I (ix q1.1 s3).2.1),(I (ix q1.1 s3).2.2)]) (by first | with_reducible exact get_concat _ _ | exact get_concat _ _ | exact ga (get_concat _ _) | rfl | (simp [List.getElem?_append,AV.settle];done)) ?_
  conv=>whnf
  subst g_8
  unfold xrc26_8
  skip
  conv=>whnf
  exact ⟨m,Nat.lt_succ_self m,(w (s1+(ix q1.1 s3).2.1)),(w (s2+(ix q1.1 s3).2.2)),(w (s3+(1:Int))),_,rfl,rfl,h⟩
 ·rw [hb2]
  conv=>whnf
  replace h:=it_f hb2 h
  exact hkl1_0 _ _ _ _ _ _ _ _ _ _ _ _ _ _ _ _ _ _ _ _ _ _ _ _ _ _ _ _ _ _ _ _ _ _ _ _ _ _ _ h
theorem x26_ok {b:(Int×(List Int)×Int×Int)} {panels:(List (Int×Int))} {turns:(List (List Int))} {v:(Int×Int×Int)} (h:x26 b panels turns=some v):PO 26 [(.agg [(I b.1),(.lst (b.2.1.map I) b.2.1.length .shared),(I b.2.2.1),(I b.2.2.2)]),(.lst (panels.flatMap pr) panels.length .shared),(.lst (turns.map L1) turns.length .shared)] (.tuple [(I v.1),(I v.2.1),(I v.2.2)]):=by
 refine fn_pureW hmix lxx26 rfl (pu_tup (allc rfl (allc rfl (allc rfl rfl)))) fun Q hQ=>?_
 have hR:∀ T H,RetW [.tmp 6,.tmp 7,.tmp 8] (.tuple [(I v.1),(I v.2.1),(I v.2.2)]) .ret T H→Q .ret T H:=fun T H hh=>hQ _ T H hh
 unfold x26 at h
 unfold xrc26
 obtain ⟨c_1,g_1⟩:∃ c,xrc26_1=c:=⟨_,rfl⟩
 rw [g_1]
 conv=>whnf
 subst g_1
 unfold xrc26_1
 obtain ⟨c_2,g_2⟩:∃ c,xrc26_2=c:=⟨_,rfl⟩
 rw [g_2]
 conv=>whnf
 obtain ⟨r1,hb1,h⟩:=bd_some h
 rcases r1 with ⟨_ | p1,q1⟩
 ·refine ⟨(allc (pu_agg (allc rfl (allc (pu_map (fun _=>rfl) _ _ _) (allc rfl (allc rfl rfl))))) (allc (pu_flat (fun _=>(allc rfl (allc rfl rfl))) _ _ _) (allc (pu_map (fun _=>(pu_map (fun _=>rfl) _ _ _)) _ _ _) rfl))),_,x65_ok hb1,?_⟩
  conv=>whnf
  subst g_2
  unfold xrc26_2
  obtain ⟨c_3,g_3⟩:∃ c,xrc26_3=c:=⟨_,rfl⟩
  rw [g_3]
  conv=>whnf
  subst g_3
  unfold xrc26_3
  obtain ⟨c_4,g_4⟩:∃ c,xrc26_4=c:=⟨_,rfl⟩
  rw [g_4]
  obtain ⟨c_5,g_5⟩:∃ c,xrc26_5=c:=⟨_,rfl⟩
  rw [g_5]
  conv=>whnf
  subst g_5
  unfold xrc26_5
  obtain ⟨c_11,g_11⟩:∃ c,xrc26_11=c:=⟨_,rfl⟩
  rw [g_11]
  conv=>whnf
  subst g_11
  refine x26_l1_ok ?_ (by exact rfl) h
  intro z1 z2 u0 u1 u2 u3 u6 u7 u8 u9 u10 u15 u16 u17 u18 u19 u20 u21 u22 u23 u24 u25 u26 u27 u28 u29 u30 u31 u32 u33 u34 u35 u36 u37 u38 u39 u40 u41 Yq h
  conv=>whnf
  subst g_4
  unfold xrc26_4
  skip
  conv=>whnf
  obtain rfl:=Option.some.inj h
  exact hR _ _ ⟨.inr rfl,_,rfl,_,frz_pure (pu_tup (allc rfl (allc rfl (allc rfl rfl)))),rfl⟩
 ·refine ⟨(allc (pu_agg (allc rfl (allc (pu_map (fun _=>rfl) _ _ _) (allc rfl (allc rfl rfl))))) (allc (pu_flat (fun _=>(allc rfl (allc rfl rfl))) _ _ _) (allc (pu_map (fun _=>(pu_map (fun _=>rfl) _ _ _)) _ _ _) rfl))),_,x65_ok hb1,?_⟩
  conv=>whnf
  subst g_2
  unfold xrc26_2
  obtain ⟨c_3,g_3⟩:∃ c,xrc26_3=c:=⟨_,rfl⟩
  rw [g_3]
  conv=>whnf
  subst g_3
  unfold xrc26_3
  obtain ⟨c_4,g_4⟩:∃ c,xrc26_4=c:=⟨_,rfl⟩
  rw [g_4]
  obtain ⟨c_5,g_5⟩:∃ c,xrc26_5=c:=⟨_,rfl⟩
  rw [g_5]
  conv=>whnf
  subst g_5
  unfold xrc26_5
  obtain ⟨c_11,g_11⟩:∃ c,xrc26_11=c:=⟨_,rfl⟩
  rw [g_11]
  conv=>whnf
  subst g_11
  refine x26_l1_ok ?_ (by exact rfl) h
  intro z3 z4 u0 u1 u2 u3 u6 u7 u8 u9 u10 u15 u16 u17 u18 u19 u20 u21 u22 u23 u24 u25 u26 u27 u28 u29 u30 u31 u32 u33 u34 u35 u36 u37 u38 u39 u40 u41 Yq h
  conv=>whnf
  subst g_4
  unfold xrc26_4
  skip
  conv=>whnf
  obtain rfl:=Option.some.inj h
  exact hR _ _ ⟨.inr rfl,_,rfl,_,frz_pure (pu_tup (allc rfl (allc rfl (allc rfl rfl)))),rfl⟩

noncomputable def xrc52:RC :=
 .seq (.reg false [I_ 4 [.cv (.int .i64 0)] .mv]) (.seq (.reg false [I_ 5 [.sl 0] .mv,I_ 6 [.sl 1] .mv,I_ 7 [.tv 5,.tv 6] (.bin .sub),I_ 8 [.tk 1] .mv,I_ 9 [.tk 0] .mv,I_ 10 [.tv 8,.tv 9] (.bin .sub),I_ 11 [.tk 7,.tk 10]
 .max,I_ 4 [.tk 11] .mv]) .ret)
theorem lxx52:linkF Tryz.prog ann52 52=some (xrc52,12,[.tmp 4]):=by kernel_rfl
def x52 (a:Int) (b:Int):Option Int :=
 some (max (w (a-b)) (w (b-a)))
theorem x52_ok {a:Int} {b:Int} {v:Int} (h:x52 a b=some v):PO 52 [(I a),(I b)] (I v):=by
 refine fn_pureW hmix lxx52 rfl rfl fun Q hQ=>?_
 have hR:∀ T H,RetW [.tmp 4] (I v) .ret T H→Q .ret T H:=fun T H hh=>hQ _ T H hh
 unfold x52 at h
 unfold xrc52
 skip
 conv=>whnf
 obtain rfl:=Option.some.inj h
 exact hR _ _ ⟨.inr rfl,_,rfl,_,frz_pure rfl,rfl⟩

noncomputable def xrc67_1:RC :=
 .loop (some [o_,i_,i_,i_,o_,o_,o_,i_,i_,i_,i_,o_,o_,o_,o_,o_,o_,o_,o_,o_,o_,o_,o_,o_,o_,o_,o_,o_,o_,o_,o_,o_,o_,o_,o_,o_,o_,o_,o_,o_,o_,o_,o_,o_,o_,o_,o_,o_,o_,o_,o_,o_,o_,o_,o_,o_,o_,o_,o_,o_,o_,o_,o_,o_,o_,o_,o_,o_,o_,o_,o_,o_,o_,o_,o_,o_,o_,o_,o_,o_]) (.seq (.seq (.reg false [I_ 38 [.sl 10] .mv,I_ 39 [.sl 9] .mv,I_ 40 [.tk 39] .lenS,I_ 41 [.tv 38,.tv 40] (.bin
 .lss)]) (.cond (.sl 41) .skip (.exit 2))) (.seq (.block 3 (.seq (.reg true [I_ 44 [.sl 1] .mv,I_ 45 [.sl 9] .mv,I_ 46 [.sl 10] .mv,I_ 47 [.tv 45,.tv 46] (.ia 1),I_ 48 [.tv 47] (.ld .one),I_ 49 [.tv 44,.tv 48] (.ia 2),I_
 50 [.tv 49] (.fa 0),I_ 51 [.tv 50] (.ld .one),I_ 52 [.sl 1] .mv,I_ 53 [.sl 9] .mv,I_ 54 [.tv 53,.cv (.int .i64 0)] (.ia 1),I_ 55 [.tv 54] (.ld .one),I_ 56 [.tv 52,.tv 55] (.ia 2),I_ 57 [.tv 56] (.fa 0),I_ 58 [.tv 57]
 (.ld .one),I_ 59 [.tv 51,.tv 58] (.bin .neq)]) (.cond (.sl 59) (.seq (.reg false [I_ 6 [.cv (.int .i64 24)] .mv]) .ret) .skip))) (.reg false [I_ 42 [.tk 10] .mv,I_ 43 [.tv 42,.cv (.int .i64 1)] (.bin .add),I_ 10 [.tk 43]
 .mv])))
noncomputable def xrc67_2:RC :=
 .loop (some [o_,i_,i_,i_,o_,o_,o_,i_,i_,i_,o_,i_,o_,o_,o_,o_,o_,o_,o_,o_,o_,o_,o_,o_,o_,o_,o_,o_,o_,o_,o_,o_,o_,o_,o_,o_,o_,o_,o_,o_,o_,o_,o_,o_,o_,o_,o_,o_,o_,o_,o_,o_,o_,o_,o_,o_,o_,o_,o_,o_,o_,o_,o_,o_,o_,o_,o_,o_,o_,o_,o_,o_,o_,o_,o_,o_,o_,o_,o_,o_]) (.seq (.seq (.reg false [I_ 60 [.sl 11] .mv,I_ 61 [.sl 9] .mv,I_ 62 [.tk 61] .lenS,I_ 63 [.tv 60,.tv 62] (.bin
 .lss)]) (.cond (.sl 63) .skip (.exit 4))) (.seq (.block 5 (.seq (.reg false [I_ 66 [.sl 7] .mv,I_ 67 [.sl 9] .mv,I_ 68 [.sl 11] .mv,I_ 69 [.tv 67,.tv 68] (.ia 1),I_ 70 [.tv 69] (.ld .one),I_ 71 [.cv (.func 53 [] []),.sl
 66,.sl 70] (.call 3)]) (.cond (.sl 71) (.seq (.reg false [I_ 6 [.cv (.int .i64 16)] .mv]) .ret) .skip))) (.reg false [I_ 64 [.tk 11] .mv,I_ 65 [.tv 64,.cv (.int .i64 1)] (.bin .add),I_ 11 [.tk 65] .mv])))
noncomputable def xrc67_3:RC :=
 .loop (some [o_,i_,i_,i_,o_,o_,o_,i_,i_,o_,o_,o_,o_,o_,o_,o_,o_,o_,o_,o_,o_,o_,o_,o_,o_,o_,o_,o_,o_,o_,o_,o_,o_,o_,o_,o_,o_,o_,o_,o_,o_,o_,o_,o_,o_,o_,o_,o_,o_,o_,o_,o_,o_,o_,o_,o_,o_,o_,o_,o_,o_,o_,o_,o_,o_,o_,o_,o_,o_,o_,o_,o_,o_,o_,o_,o_,o_,o_,o_,o_]) (.seq (.seq (.reg false [I_ 12 [.sl 8] .mv,I_ 13 [.sl 2] .mv,I_ 14 [.tk 13] .lenS,I_ 15 [.tv 12,.tv 14]
 (.bin .lss)]) (.cond (.sl 15) .skip (.exit 0))) (.seq (.block 1 (.seq (.reg false [I_ 18 [.sl 2] .mv,I_ 19 [.sl 8] .mv,I_ 20 [.tv 18,.tv 19] (.ia 1),I_ 21 [.tv 20] (.ld .one),I_ 9 [.tk 21] .mv]) (.seq (.seq (.reg false [I_
 22 [.sl 9] .mv,I_ 23 [.tk 22] .lenS,I_ 24 [.tv 23,.cv (.int .i64 0)] (.bin .eql),I_ 25 [.tk 24] .mv,⟨some 26,[.sl 9],some (25,false),none,.mv⟩,⟨some 27,[.sl 1],some (25,false),none,.mv⟩,⟨some 28,[.tk 27],some
 (25,false),none,.lenS⟩,⟨some 29,[.cv (.func 62 [] []),.sl 26,.sl 28],some (25,false),none,.call 3⟩,⟨some 30,[.tv 29],some (25,false),none,.un .not⟩,I_ 31 [.tv 25,.cv (.bool true),.tv 30] .pick]) (.cond (.sl
 31) (.seq (.reg false [I_ 6 [.cv (.int .i64 2)] .mv]) .ret) .skip)) (.seq (.seq (.reg false [I_ 32 [.sl 9] .mv,I_ 33 [.tk 32] .lenS,I_ 34 [.sl 3] (.ld (.str 4)),I_ 35 [.cv (.func 51 [] []),.sl 34] (.call 3),I_ 36 [.tk 35]
 .lenS,I_ 37 [.tv 33,.tv 36] (.bin .gtr)]) (.cond (.sl 37) (.seq (.reg false [I_ 6 [.cv (.int .i64 10)] .mv]) .ret) .skip)) (.seq (.seq (.reg false [I_ 10 [.cv (.int .i64 0)] .mv]) (.block 2 xrc67_1)) (.seq (.seq (.reg false
 [I_ 11 [.cv (.int .i64 0)] .mv]) (.block 4 xrc67_2)) (.reg false [I_ 72 [.tk 7] .mv,I_ 73 [.tk 9] .mv,I_ 74 [.tk 72,.tk 73] (.app 1 8),I_ 7 [.tk 74] .mv]))))))) (.reg false [I_ 16 [.tk 8] .mv,I_ 17 [.tv 16,.cv (.int .i64
 1)] (.bin .add),I_ 8 [.tk 17] .mv])))
noncomputable def xrc67:RC :=
 .seq (.reg false [I_ 3 [.tk 0] .box,I_ 6 [.cv (.int .i64 0)] .mv]) (.seq (.reg false [I_ 7 [.cv (.lst [] 0 .full)] (.nil 1)]) (.seq (.seq (.reg false [I_ 8 [.cv (.int .i64 0)] .mv]) (.block 0 xrc67_3)) (.seq (.seq (.reg false
 [I_ 75 [.tk 7] .mv,I_ 76 [.tk 75] .lenS,I_ 77 [.tk 1] .mv,I_ 78 [.tk 77] .lenS,I_ 79 [.tv 76,.tv 78] (.bin .lss)]) (.cond (.sl 79) (.seq (.reg false [I_ 6 [.cv (.int .i64 14)] .mv]) .ret) .skip)) (.seq (.reg false [I_ 6
 [.cv (.int .i64 0)] .mv]) .ret))))
theorem lxx67:linkF Tryz.prog ann67 67=some (xrc67,80,[.tmp 6]):=by kernel_rfl
def x67_l2 (panels:(List (Int×Int))) (turns:(List (List Int))) (s2:Int) (kl2_0:Unit→Option Int):Nat→Int→Option Int
 | 0,_=>none
 | m+1,s3 =>
   if (decide (s3<((ix turns s2).length:Int)))=true then
    gd (0≤s3∧s3<((ix turns s2).length:Int)) <|
    gd (0≤(ix (ix turns s2) s3)∧(ix (ix turns s2) s3)<(panels.length:Int)) <|
    gd (0≤(0:Int)∧(0:Int)<((ix turns s2).length:Int)) <|
    gd (0≤(ix (ix turns s2) (0:Int))∧(ix (ix turns s2) (0:Int))<(panels.length:Int)) <|
    if (decide ((ix panels (ix (ix turns s2) s3)).1≠(ix panels (ix (ix turns s2) (0:Int))).1))=true then
     some (24:Int)
    else
     x67_l2 panels turns s2 kl2_0 m (w (s3+(1:Int)))
   else
    kl2_0 ()
def x67_l3 (turns:(List (List Int))) (s1:(List Int)) (s2:Int) (kl3_0:Unit→Option Int):Nat→Int→Option Int
 | 0,_=>none
 | m+1,s4 =>
   if (decide (s4<((ix turns s2).length:Int)))=true then
    gd (0≤s4∧s4<((ix turns s2).length:Int)) <|
    (x53 s1 (ix (ix turns s2) s4)).bind fun r3 =>
    if r3=true then
     some (16:Int)
    else
     x67_l3 turns s1 s2 kl3_0 m (w (s4+(1:Int)))
   else
    kl3_0 ()
def x67_l1 (b:(Int×(List Int)×Int×Int)) (panels:(List (Int×Int))) (turns:(List (List Int))) (kl1_0:(List Int)→Option Int):Nat→(List Int)→Int→Option Int
 | 0,_,_=>none
 | m+1,s1,s2 =>
   if (decide (s2<(turns.length:Int)))=true then
    gd (0≤s2∧s2<(turns.length:Int)) <|
    if (decide (((ix turns s2).length:Int)=(0:Int)))=true then
     some (2:Int)
    else
     (x62 (ix turns s2) (panels.length:Int)).bind fun r1 =>
     if r1=true then
      (x51 b).bind fun r2 =>
      if (decide ((r2.length:Int)<((ix turns s2).length:Int)))=true then
       some (10:Int)
      else
       x67_l2 panels turns s2 (fun _ =>
         x67_l3 turns s1 s2 (fun _ =>
           gd ((s1.length+(ix turns s2).length)*8≤140737488355328) <|
           x67_l1 b panels turns kl1_0 m (s1++(ix turns s2)) (w (s2+(1:Int)))) FU (0:Int)) FU (0:Int)
     else
      some (2:Int)
   else
    kl1_0 s1
def x67 (b:(Int×(List Int)×Int×Int)) (panels:(List (Int×Int))) (turns:(List (List Int))):Option Int :=
 x67_l1 b panels turns (fun z1 =>
   if (decide ((z1.length:Int)<(panels.length:Int)))=true then
    some (14:Int)
   else
    some (0:Int)) FU ([]:List Int) (0:Int)
theorem x67_l2_ok {panels:(List (Int×Int))} {turns:(List (List Int))} {s2:Int} {kl2_0:Unit→Option Int} {s3:Int} {b:(Int×(List Int)×Int×Int)} {s1:(List Int)} {v:Int} {Q:Ex→List AV→List AObj→Prop}   (hR:∀ T H,RetW [.tmp 6] (I v) .ret T H→Q .ret T H) (hkl2_0:∀ (u0:AV) (u6:AV) (u10:AV) (u11:AV) (u12:AV) (u13:AV) (u14:AV) (u15:AV) (u16:AV) (u17:AV) (u18:AV) (u19:AV) (u20:AV) (u21:AV) (u22:AV) (u23:AV) (u24:AV) (u25:AV) (u26:AV) (u27:AV) (u28:AV) (u29:AV) (u30:AV) (u31:AV) (u32:AV) (u33:AV) (u34:AV) (u35:AV) (u36:AV) (u37:AV) (u38:AV) (u39:AV) (u40:AV) (u41:AV) (u42:AV) (u43:AV) (u44:AV) (u45:AV) (u46:AV) (u47:AV) (u48:AV) (u49:AV) (u50:AV) (u51:AV) (u52:AV) (u53:AV) (u54:AV) (u55:AV) (u56:AV) (u57:AV) (u58:AV) (u59:AV) (u60:AV) (u61:AV) (u62:AV) (u63:AV) (u64:AV) (u65:AV) (u66:AV) (u67:AV) (u68:AV) (u69:AV) (u70:AV) (u71:AV) (u72:AV) (u73:AV) (u74:AV) (u75:AV) (u76:AV) (u77:AV) (u78:AV) (u79:AV),kl2_0 ()=some v→Q (.exit 2) [u0,(.lst (panels.flatMap pr) panels.length .shared),(.lst (turns.map L1) turns.length .shared),(.ptr 0 0),J,J,u6,(.lst (s1.map I) s1.length (.uniq 1)),(I s2),(.lst ((ix turns s2).map I) (ix turns s2).length .shared),u10,u11,u12,u13,u14,u15,u16,u17,u18,u19,u20,u21,u22,u23,u24,u25,u26,u27,u28,u29,u30,u31,u32,u33,u34,u35,u36,u37,u38,u39,u40,u41,u42,u43,u44,u45,u46,u47,u48,u49,u50,u51,u52,u53,u54,u55,u56,u57,u58,u59,u60,u61,u62,u63,u64,u65,u66,u67,u68,u69,u70,u71,u72,u73,u74,u75,u76,u77,u78,u79] [AObj.cells [(I b.1),(.lst (b.2.1.map I) b.2.1.length .shared),(I b.2.2.1),(I b.2.2.2)]]) {T:List AV} (hT:zipKeep [o_,i_,i_,i_,o_,o_,o_,i_,i_,i_,i_,o_,o_,o_,o_,o_,o_,o_,o_,o_,o_,o_,o_,o_,o_,o_,o_,o_,o_,o_,o_,o_,o_,o_,o_,o_,o_,o_,o_,o_,o_,o_,o_,o_,o_,o_,o_,o_,o_,o_,o_,o_,o_,o_,o_,o_,o_,o_,o_,o_,o_,o_,o_,o_,o_,o_,o_,o_,o_,o_,o_,o_,o_,o_,o_,o_,o_,o_,o_,o_] T=slots 80 [(1,(.lst (panels.flatMap pr) panels.length .shared)),(2,(.lst (turns.map L1) turns.length .shared)),(3,(.ptr 0 0)),(7,(.lst (s1.map I) s1.length (.uniq 1))),(8,(I s2)),(9,(.lst ((ix turns s2).map I) (ix turns s2).length .shared)),(10,(I s3))]) (h:x67_l2 panels turns s2 kl2_0 FU s3=some v) :
  wpR Tryz.prog ann67 67 0 none xrc67_1 T [AObj.cells [(I b.1),(.lst (b.2.1.map I) b.2.1.length .shared),(I b.2.2.1),(I b.2.2.2)]] Q:=by
 unfold xrc67_1
 skip
 refine wp_loop hT ?_
 refine .intro (fun m T H=>∃ (s3:Int),T=slots 80 [(1,(.lst (panels.flatMap pr) panels.length .shared)),(2,(.lst (turns.map L1) turns.length .shared)),(3,(.ptr 0 0)),(7,(.lst (s1.map I) s1.length (.uniq 1))),(8,(I s2)),(9,(.lst ((ix turns s2).map I) (ix turns s2).length .shared)),(10,(I s3))]∧H=[AObj.cells [(I b.1),(.lst (b.2.1.map I) b.2.1.length .shared),(I b.2.2.1),(I b.2.2.2)]]∧x67_l2 panels turns s2 kl2_0 m s3=some v) FU ⟨s3,rfl,rfl,h⟩ ?_
 clear h hT
 rintro m T H ⟨s3,rfl,rfl,h⟩
 cases m
 ·exact none_ne h
 rename_i m
 rw [x67_l2.eq_2] at h
 conv=>whnf
 rcases bt (decide (s3<((ix turns s2).length:Int))) with hb7 | hb7
 ·rw [hb7]
  conv=>whnf
  replace h:=it_t hb7 h
  obtain ⟨hb8,h⟩:=gd_some h
  refine ⟨hb8,?_⟩
  rw [drop1 I (ix turns s2) s3 hb8]
  conv=>whnf
  obtain ⟨hb9,h⟩:=gd_some h
  refine ⟨hb9,?_⟩
  rw [dropS pr 2 pr_len panels (ix (ix turns s2) s3) hb9]
  conv=>whnf
  obtain ⟨hb10,h⟩:=gd_some h
  refine ⟨hb10,?_⟩
  rw [drop1 I (ix turns s2) (0:Int) hb10]
  conv=>whnf
  obtain ⟨hb11,h⟩:=gd_some h
  refine ⟨hb11,?_⟩
  rw [dropS pr 2 pr_len panels (ix (ix turns s2) (0:Int)) hb11]
  conv=>whnf
  rcases bt (decide ((ix panels (ix (ix turns s2) s3)).1≠(ix panels (ix (ix turns s2) (0:Int))).1)) with hb12 | hb12
  ·rw [hb12]
   conv=>whnf
   replace h:=it_t hb12 h
   obtain rfl:=Option.some.inj h
   exact hR _ _ ⟨.inr rfl,_,rfl,_,frz_pure rfl,rfl⟩
  ·rw [hb12]
   conv=>whnf
   replace h:=it_f hb12 h
   exact ⟨m,Nat.lt_succ_self m,(w (s3+(1:Int))),rfl,rfl,h⟩
 ·rw [hb7]
  conv=>whnf
  replace h:=it_f hb7 h
  exact hkl2_0 _ _ _ _ _ _ _ _ _ _ _ _ _ _ _ _ _ _ _ _ _ _ _ _ _ _ _ _ _ _ _ _ _ _ _ _ _ _ _ _ _ _ _ _ _ _ _ _ _ _ _ _ _ _ _ _ _ _ _ _ _ _ _ _ _ _ _ _ _ _ _ _ h
theorem x67_l3_ok {turns:(List (List Int))} {s1:(List Int)} {s2:Int} {kl3_0:Unit→Option Int} {s4:Int} {b:(Int×(List Int)×Int×Int)} {panels:(List (Int×Int))} {v:Int} {Q:Ex→List AV→List AObj→Prop}   {cp7:Cap} (hR:∀ T H,RetW [.tmp 6] (I v) .ret T H→Q .ret T H) (hkl3_0:∀ (u0:AV) (u6:AV) (u10:AV) (u11:AV) (u12:AV) (u13:AV) (u14:AV) (u15:AV) (u16:AV) (u17:AV) (u18:AV) (u19:AV) (u20:AV) (u21:AV) (u22:AV) (u23:AV) (u24:AV) (u25:AV) (u26:AV) (u27:AV) (u28:AV) (u29:AV) (u30:AV) (u31:AV) (u32:AV) (u33:AV) (u34:AV) (u35:AV) (u36:AV) (u37:AV) (u38:AV) (u39:AV) (u40:AV) (u41:AV) (u42:AV) (u43:AV) (u44:AV) (u45:AV) (u46:AV) (u47:AV) (u48:AV) (u49:AV) (u50:AV) (u51:AV) (u52:AV) (u53:AV) (u54:AV) (u55:AV) (u56:AV) (u57:AV) (u58:AV) (u59:AV) (u60:AV) (u61:AV) (u62:AV) (u63:AV) (u64:AV) (u65:AV) (u66:AV) (u67:AV) (u68:AV) (u69:AV) (u70:AV) (u71:AV) (u72:AV) (u73:AV) (u74:AV) (u75:AV) (u76:AV) (u77:AV) (u78:AV) (u79:AV),kl3_0 ()=some v→Q (.exit 4) [u0,(.lst (panels.flatMap pr) panels.length .shared),(.lst (turns.map L1) turns.length .shared),(.ptr 0 0),J,J,u6,(.lst (s1.map I) s1.length (.uniq 1)),(I s2),(.lst ((ix turns s2).map I) (ix turns s2).length .shared),u10,u11,u12,u13,u14,u15,u16,u17,u18,u19,u20,u21,u22,u23,u24,u25,u26,u27,u28,u29,u30,u31,u32,u33,u34,u35,u36,u37,u38,u39,u40,u41,u42,u43,u44,u45,u46,u47,u48,u49,u50,u51,u52,u53,u54,u55,u56,u57,u58,u59,u60,u61,u62,u63,u64,u65,u66,u67,u68,u69,u70,u71,u72,u73,u74,u75,u76,u77,u78,u79] [AObj.cells [(I b.1),(.lst (b.2.1.map I) b.2.1.length .shared),(I b.2.2.1),(I b.2.2.2)]]) (hkl3_0_1:∀ (u0:AV) (u6:AV) (u10:AV) (u11:AV) (u12:AV) (u13:AV) (u14:AV) (u15:AV) (u16:AV) (u17:AV) (u18:AV) (u19:AV) (u20:AV) (u21:AV) (u22:AV) (u23:AV) (u24:AV) (u25:AV) (u26:AV) (u27:AV) (u28:AV) (u29:AV) (u30:AV) (u31:AV) (u32:AV) (u33:AV) (u34:AV) (u35:AV) (u36:AV) (u37:AV) (u38:AV) (u39:AV) (u40:AV) (u41:AV) (u42:AV) (u43:AV) (u44:AV) (u45:AV) (u46:AV) (u47:AV) (u48:AV) (u49:AV) (u50:AV) (u51:AV) (u52:AV) (u53:AV) (u54:AV) (u55:AV) (u56:AV) (u57:AV) (u58:AV) (u59:AV) (u60:AV) (u61:AV) (u62:AV) (u63:AV) (u64:AV) (u65:AV) (u66:AV) (u67:AV) (u68:AV) (u69:AV) (u70:AV) (u71:AV) (u72:AV) (u73:AV) (u74:AV) (u75:AV) (u76:AV) (u77:AV) (u78:AV) (u79:AV),kl3_0 ()=some v→Q (.exit 4) [u0,(.lst (panels.flatMap pr) panels.length .shared),(.lst (turns.map L1) turns.length .shared),(.ptr 0 0),J,J,u6,(.lst (s1.map I) s1.length (.own 1)),(I s2),(.lst ((ix turns s2).map I) (ix turns s2).length .shared),u10,u11,u12,u13,u14,u15,u16,u17,u18,u19,u20,u21,u22,u23,u24,u25,u26,u27,u28,u29,u30,u31,u32,u33,u34,u35,u36,u37,u38,u39,u40,u41,u42,u43,u44,u45,u46,u47,u48,u49,u50,u51,u52,u53,u54,u55,u56,u57,u58,u59,u60,u61,u62,u63,u64,u65,u66,u67,u68,u69,u70,u71,u72,u73,u74,u75,u76,u77,u78,u79] [AObj.cells [(I b.1),(.lst (b.2.1.map I) b.2.1.length .shared),(I b.2.2.1),(I b.2.2.2)]]) (hcp7:(cp7=(.uniq 1)∨cp7=(.own 1))) {T:List AV} (hT:zipKeep [o_,i_,i_,i_,o_,o_,o_,i_,i_,i_,o_,i_,o_,o_,o_,o_,o_,o_,o_,o_,o_,o_,o_,o_,o_,o_,o_,o_,o_,o_,o_,o_,o_,o_,o_,o_,o_,o_,o_,o_,o_,o_,o_,o_,o_,o_,o_,o_,o_,o_,o_,o_,o_,o_,o_,o_,o_,o_,o_,o_,o_,o_,o_,o_,o_,o_,o_,o_,o_,o_,o_,o_,o_,o_,o_,o_,o_,o_,o_,o_] T=slots 80 [(1,(.lst (panels.flatMap pr) panels.length .shared)),(2,(.lst (turns.map L1) turns.length .shared)),(3,(.ptr 0 0)),(7,(.lst (s1.map I) s1.length cp7)),(8,(I s2)),(9,(.lst ((ix turns s2).map I) (ix turns s2).length .shared)),(11,(I s4))]) (h:x67_l3 turns s1 s2 kl3_0 FU s4=some v) :
  wpR Tryz.prog ann67 67 0 none xrc67_2 T [AObj.cells [(I b.1),(.lst (b.2.1.map I) b.2.1.length .shared),(I b.2.2.1),(I b.2.2.2)]] Q:=by
 unfold xrc67_2
 skip
 refine wp_loop hT ?_
 refine .intro (fun m T H=>∃ (s4:Int) (cp7:Cap),(cp7=(.uniq 1)∨cp7=(.own 1))∧T=slots 80 [(1,(.lst (panels.flatMap pr) panels.length .shared)),(2,(.lst (turns.map L1) turns.length .shared)),(3,(.ptr 0 0)),(7,(.lst (s1.map I) s1.length cp7)),(8,(I s2)),(9,(.lst ((ix turns s2).map I) (ix turns s2).length .shared)),(11,(I s4))]∧H=[AObj.cells [(I b.1),(.lst (b.2.1.map I) b.2.1.length .shared),(I b.2.2.1),(I b.2.2.2)]]∧x67_l3 turns s1 s2 kl3_0 m s4=some v) FU ⟨s4,_,hcp7,rfl,rfl,h⟩ ?_
 clear h hT
 rintro m T H ⟨s4,cp7,hcp7,rfl,rfl,h⟩
 cases m
 ·exact none_ne h
 rename_i m
 rw [x67_l3.eq_2] at h
 rcases hcp7 with rfl | rfl
 ·conv=>whnf
  rcases bt (decide (s4<((ix turns s2).length:Int))) with hb13 | hb13
  ·rw [hb13]
   conv=>whnf
   replace h:=it_t hb13 h
   obtain ⟨hb14,h⟩:=gd_some h
   refine ⟨hb14,?_⟩
   rw [drop1 I (ix turns s2) s4 hb14]
   conv=>whnf
   obtain ⟨r3,hb15,h⟩:=bd_some h
   refine ⟨(allc (pu_map (fun _=>rfl) _ _ _) (allc rfl rfl)),_,x53_ok hb15,?_⟩
   conv=>whnf
   cases r3
   ·conv=>whnf
    replace h:=it_f rfl h
    exact ⟨m,Nat.lt_succ_self m,(w (s4+(1:Int))),_,(.inr rfl),rfl,rfl,h⟩
   ·conv=>whnf
    replace h:=it_t rfl h
    obtain rfl:=Option.some.inj h
    exact hR _ _ ⟨.inr rfl,_,rfl,_,frz_pure rfl,rfl⟩
  ·rw [hb13]
   conv=>whnf
   replace h:=it_f hb13 h
   exact hkl3_0 _ _ _ _ _ _ _ _ _ _ _ _ _ _ _ _ _ _ _ _ _ _ _ _ _ _ _ _ _ _ _ _ _ _ _ _ _ _ _ _ _ _ _ _ _ _ _ _ _ _ _ _ _ _ _ _ _ _ _ _ _ _ _ _ _ _ _ _ _ _ _ _ h
 ·conv=>whnf
  rcases bt (decide (s4<((ix turns s2).length:Int))) with hb13 | hb13
  ·rw [hb13]
   conv=>whnf
   replace h:=it_t hb13 h
   obtain ⟨hb14,h⟩:=gd_some h
   refine ⟨hb14,?_⟩
   rw [drop1 I (ix turns s2) s4 hb14]
   conv=>whnf
   obtain ⟨r3,hb15,h⟩:=bd_some h
   refine ⟨(allc (pu_map (fun _=>rfl) _ _ _) (allc rfl rfl)),_,x53_ok hb15,?_⟩
   conv=>whnf
   cases r3
   ·conv=>whnf
    replace h:=it_f rfl h
    exact ⟨m,Nat.lt_succ_self m,(w (s4+(1:Int))),_,(.inr rfl),rfl,rfl,h⟩
   ·conv=>whnf
    replace h:=it_t rfl h
    obtain rfl:=Option.some.inj h
    exact hR _ _ ⟨.inr rfl,_,rfl,_,frz_pure rfl,rfl⟩
  ·rw [hb13]
   conv=>whnf
   replace h:=it_f hb13 h
   exact hkl3_0_1 _ _ _ _ _ _ _ _ _ _ _ _ _ _ _ _ _ _ _ _ _ _ _ _ _ _ _ _ _ _ _ _ _ _ _ _ _ _ _ _ _ _ _ _ _ _ _ _ _ _ _ _ _ _ _ _ _ _ _ _ _ _ _ _ _ _ _ _ _ _ _ _ h
theorem x67_l2v_ok {panels:(List (Int×Int))} {turns:(List (List Int))} {s2:Int} {kl2_0:Unit→Option Int} {s3:Int} {b:(Int×(List Int)×Int×Int)} {s1:(List Int)} {v:Int} {Q:Ex→List AV→List AObj→Prop}   (hR:∀ T H,RetW [.tmp 6] (I v) .ret T H→Q .ret T H) (hkl2_0:∀ (u0:AV) (u6:AV) (u10:AV) (u11:AV) (u12:AV) (u13:AV) (u14:AV) (u15:AV) (u16:AV) (u17:AV) (u18:AV) (u19:AV) (u20:AV) (u21:AV) (u22:AV) (u23:AV) (u24:AV) (u25:AV) (u26:AV) (u27:AV) (u28:AV) (u29:AV) (u30:AV) (u31:AV) (u32:AV) (u33:AV) (u34:AV) (u35:AV) (u36:AV) (u37:AV) (u38:AV) (u39:AV) (u40:AV) (u41:AV) (u42:AV) (u43:AV) (u44:AV) (u45:AV) (u46:AV) (u47:AV) (u48:AV) (u49:AV) (u50:AV) (u51:AV) (u52:AV) (u53:AV) (u54:AV) (u55:AV) (u56:AV) (u57:AV) (u58:AV) (u59:AV) (u60:AV) (u61:AV) (u62:AV) (u63:AV) (u64:AV) (u65:AV) (u66:AV) (u67:AV) (u68:AV) (u69:AV) (u70:AV) (u71:AV) (u72:AV) (u73:AV) (u74:AV) (u75:AV) (u76:AV) (u77:AV) (u78:AV) (u79:AV),kl2_0 ()=some v→Q (.exit 2) [u0,(.lst (panels.flatMap pr) panels.length .shared),(.lst (turns.map L1) turns.length .shared),(.ptr 0 0),J,J,u6,(.lst (s1.map I) s1.length (.own 1)),(I s2),(.lst ((ix turns s2).map I) (ix turns s2).length .shared),u10,u11,u12,u13,u14,u15,u16,u17,u18,u19,u20,u21,u22,u23,u24,u25,u26,u27,u28,u29,u30,u31,u32,u33,u34,u35,u36,u37,u38,u39,u40,u41,u42,u43,u44,u45,u46,u47,u48,u49,u50,u51,u52,u53,u54,u55,u56,u57,u58,u59,u60,u61,u62,u63,u64,u65,u66,u67,u68,u69,u70,u71,u72,u73,u74,u75,u76,u77,u78,u79] [AObj.cells [(I b.1),(.lst (b.2.1.map I) b.2.1.length .shared),(I b.2.2.1),(I b.2.2.2)]]) {T:List AV} (hT:zipKeep [o_,i_,i_,i_,o_,o_,o_,i_,i_,i_,i_,o_,o_,o_,o_,o_,o_,o_,o_,o_,o_,o_,o_,o_,o_,o_,o_,o_,o_,o_,o_,o_,o_,o_,o_,o_,o_,o_,o_,o_,o_,o_,o_,o_,o_,o_,o_,o_,o_,o_,o_,o_,o_,o_,o_,o_,o_,o_,o_,o_,o_,o_,o_,o_,o_,o_,o_,o_,o_,o_,o_,o_,o_,o_,o_,o_,o_,o_,o_,o_] T=slots 80 [(1,(.lst (panels.flatMap pr) panels.length .shared)),(2,(.lst (turns.map L1) turns.length .shared)),(3,(.ptr 0 0)),(7,(.lst (s1.map I) s1.length (.own 1))),(8,(I s2)),(9,(.lst ((ix turns s2).map I) (ix turns s2).length .shared)),(10,(I s3))]) (h:x67_l2 panels turns s2 kl2_0 FU s3=some v) :
  wpR Tryz.prog ann67 67 0 none xrc67_1 T [AObj.cells [(I b.1),(.lst (b.2.1.map I) b.2.1.length .shared),(I b.2.2.1),(I b.2.2.2)]] Q:=by
 unfold xrc67_1
 skip
 refine wp_loop hT ?_
 refine .intro (fun m T H=>∃ (s3:Int),T=slots 80 [(1,(.lst (panels.flatMap pr) panels.length .shared)),(2,(.lst (turns.map L1) turns.length .shared)),(3,(.ptr 0 0)),(7,(.lst (s1.map I) s1.length (.own 1))),(8,(I s2)),(9,(.lst ((ix turns s2).map I) (ix turns s2).length .shared)),(10,(I s3))]∧H=[AObj.cells [(I b.1),(.lst (b.2.1.map I) b.2.1.length .shared),(I b.2.2.1),(I b.2.2.2)]]∧x67_l2 panels turns s2 kl2_0 m s3=some v) FU ⟨s3,rfl,rfl,h⟩ ?_
 clear h hT
 rintro m T H ⟨s3,rfl,rfl,h⟩
 cases m
 ·exact none_ne h
 rename_i m
 rw [x67_l2.eq_2] at h
 conv=>whnf
 rcases bt (decide (s3<((ix turns s2).length:Int))) with hb7 | hb7
 ·rw [hb7]
  conv=>whnf
  replace h:=it_t hb7 h
  obtain ⟨hb8,h⟩:=gd_some h
  refine ⟨hb8,?_⟩
  rw [drop1 I (ix turns s2) s3 hb8]
  conv=>whnf
  obtain ⟨hb9,h⟩:=gd_some h
  refine ⟨hb9,?_⟩
  rw [dropS pr 2 pr_len panels (ix (ix turns s2) s3) hb9]
  conv=>whnf
  obtain ⟨hb10,h⟩:=gd_some h
  refine ⟨hb10,?_⟩
  rw [drop1 I (ix turns s2) (0:Int) hb10]
  conv=>whnf
  obtain ⟨hb11,h⟩:=gd_some h
  refine ⟨hb11,?_⟩
  rw [dropS pr 2 pr_len panels (ix (ix turns s2) (0:Int)) hb11]
  conv=>whnf
  rcases bt (decide ((ix panels (ix (ix turns s2) s3)).1≠(ix panels (ix (ix turns s2) (0:Int))).1)) with hb12 | hb12
  ·rw [hb12]
   conv=>whnf
   replace h:=it_t hb12 h
   obtain rfl:=Option.some.inj h
   exact hR _ _ ⟨.inr rfl,_,rfl,_,frz_pure rfl,rfl⟩
  ·rw [hb12]
   conv=>whnf
   replace h:=it_f hb12 h
   exact ⟨m,Nat.lt_succ_self m,(w (s3+(1:Int))),rfl,rfl,h⟩
 ·rw [hb7]
  conv=>whnf
  replace h:=it_f hb7 h
  exact hkl2_0 _ _ _ _ _ _ _ _ _ _ _ _ _ _ _ _ _ _ _ _ _ _ _ _ _ _ _ _ _ _ _ _ _ _ _ _ _ _ _ _ _ _ _ _ _ _ _ _ _ _ _ _ _ _ _ _ _ _ _ _ _ _ _ _ _ _ _ _ _ _ _ _ h
theorem x67_l3v_ok {turns:(List (List Int))} {s1:(List Int)} {s2:Int} {kl3_0:Unit→Option Int} {s4:Int} {b:(Int×(List Int)×Int×Int)} {panels:(List (Int×Int))} {v:Int} {Q:Ex→List AV→List AObj→Prop}   (hR:∀ T H,RetW [.tmp 6] (I v) .ret T H→Q .ret T H) (hkl3_0:∀ (u0:AV) (u6:AV) (u10:AV) (u11:AV) (u12:AV) (u13:AV) (u14:AV) (u15:AV) (u16:AV) (u17:AV) (u18:AV) (u19:AV) (u20:AV) (u21:AV) (u22:AV) (u23:AV) (u24:AV) (u25:AV) (u26:AV) (u27:AV) (u28:AV) (u29:AV) (u30:AV) (u31:AV) (u32:AV) (u33:AV) (u34:AV) (u35:AV) (u36:AV) (u37:AV) (u38:AV) (u39:AV) (u40:AV) (u41:AV) (u42:AV) (u43:AV) (u44:AV) (u45:AV) (u46:AV) (u47:AV) (u48:AV) (u49:AV) (u50:AV) (u51:AV) (u52:AV) (u53:AV) (u54:AV) (u55:AV) (u56:AV) (u57:AV) (u58:AV) (u59:AV) (u60:AV) (u61:AV) (u62:AV) (u63:AV) (u64:AV) (u65:AV) (u66:AV) (u67:AV) (u68:AV) (u69:AV) (u70:AV) (u71:AV) (u72:AV) (u73:AV) (u74:AV) (u75:AV) (u76:AV) (u77:AV) (u78:AV) (u79:AV),kl3_0 ()=some v→Q (.exit 4) [u0,(.lst (panels.flatMap pr) panels.length .shared),(.lst (turns.map L1) turns.length .shared),(.ptr 0 0),J,J,u6,(.lst (s1.map I) s1.length (.own 1)),(I s2),(.lst ((ix turns s2).map I) (ix turns s2).length .shared),u10,u11,u12,u13,u14,u15,u16,u17,u18,u19,u20,u21,u22,u23,u24,u25,u26,u27,u28,u29,u30,u31,u32,u33,u34,u35,u36,u37,u38,u39,u40,u41,u42,u43,u44,u45,u46,u47,u48,u49,u50,u51,u52,u53,u54,u55,u56,u57,u58,u59,u60,u61,u62,u63,u64,u65,u66,u67,u68,u69,u70,u71,u72,u73,u74,u75,u76,u77,u78,u79] [AObj.cells [(I b.1),(.lst (b.2.1.map I) b.2.1.length .shared),(I b.2.2.1),(I b.2.2.2)]]) {T:List AV} (hT:zipKeep [o_,i_,i_,i_,o_,o_,o_,i_,i_,i_,o_,i_,o_,o_,o_,o_,o_,o_,o_,o_,o_,o_,o_,o_,o_,o_,o_,o_,o_,o_,o_,o_,o_,o_,o_,o_,o_,o_,o_,o_,o_,o_,o_,o_,o_,o_,o_,o_,o_,o_,o_,o_,o_,o_,o_,o_,o_,o_,o_,o_,o_,o_,o_,o_,o_,o_,o_,o_,o_,o_,o_,o_,o_,o_,o_,o_,o_,o_,o_,o_] T=slots 80 [(1,(.lst (panels.flatMap pr) panels.length .shared)),(2,(.lst (turns.map L1) turns.length .shared)),(3,(.ptr 0 0)),(7,(.lst (s1.map I) s1.length (.own 1))),(8,(I s2)),(9,(.lst ((ix turns s2).map I) (ix turns s2).length .shared)),(11,(I s4))]) (h:x67_l3 turns s1 s2 kl3_0 FU s4=some v) :
  wpR Tryz.prog ann67 67 0 none xrc67_2 T [AObj.cells [(I b.1),(.lst (b.2.1.map I) b.2.1.length .shared),(I b.2.2.1),(I b.2.2.2)]] Q:=by
 unfold xrc67_2
 skip
 refine wp_loop hT ?_
 refine .intro (fun m T H=>∃ (s4:Int),T=slots 80 [(1,(.lst (panels.flatMap pr) panels.length .shared)),(2,(.lst (turns.map L1) turns.length .shared)),(3,(.ptr 0 0)),(7,(.lst (s1.map I) s1.length (.own 1))),(8,(I s2)),(9,(.lst ((ix turns s2).map I) (ix turns s2).length .shared)),(11,(I s4))]∧H=[AObj.cells [(I b.1),(.lst (b.2.1.map I) b.2.1.length .shared),(I b.2.2.1),(I b.2.2.2)]]∧x67_l3 turns s1 s2 kl3_0 m s4=some v) FU ⟨s4,rfl,rfl,h⟩ ?_
 clear h hT
 rintro m T H ⟨s4,rfl,rfl,h⟩
 cases m
 ·exact none_ne h
 rename_i m
 rw [x67_l3.eq_2] at h
 conv=>whnf
 rcases bt (decide (s4<((ix turns s2).length:Int))) with hb13 | hb13
 ·rw [hb13]
  conv=>whnf
  replace h:=it_t hb13 h
  obtain ⟨hb14,h⟩:=gd_some h
  refine ⟨hb14,?_⟩
  rw [drop1 I (ix turns s2) s4 hb14]
  conv=>whnf
  obtain ⟨r3,hb15,h⟩:=bd_some h
  refine ⟨(allc (pu_map (fun _=>rfl) _ _ _) (allc rfl rfl)),_,x53_ok hb15,?_⟩
  conv=>whnf
  cases r3
  ·conv=>whnf
   replace h:=it_f rfl h
   exact ⟨m,Nat.lt_succ_self m,(w (s4+(1:Int))),rfl,rfl,h⟩
  ·conv=>whnf
   replace h:=it_t rfl h
   obtain rfl:=Option.some.inj h
   exact hR _ _ ⟨.inr rfl,_,rfl,_,frz_pure rfl,rfl⟩
 ·rw [hb13]
  conv=>whnf
  replace h:=it_f hb13 h
  exact hkl3_0 _ _ _ _ _ _ _ _ _ _ _ _ _ _ _ _ _ _ _ _ _ _ _ _ _ _ _ _ _ _ _ _ _ _ _ _ _ _ _ _ _ _ _ _ _ _ _ _ _ _ _ _ _ _ _ _ _ _ _ _ _ _ _ _ _ _ _ _ _ _ _ _ h
theorem x67_l1_ok {b:(Int×(List Int)×Int×Int)} {panels:(List (Int×Int))} {turns:(List (List Int))} {kl1_0:(List Int)→Option Int} {s1:(List Int)} {s2:Int} {v:Int} {Q:Ex→List AV→List AObj→Prop}   {cp7:Cap} (hR:∀ T H,RetW [.tmp 6] (I v) .ret T H→Q .ret T H) (hkl1_0:∀ (z1:(List Int)) (u0:AV) (u2:AV) (u3:AV) (u6:AV) (u8:AV) (u9:AV) (u10:AV) (u11:AV) (u12:AV) (u13:AV) (u14:AV) (u15:AV) (u16:AV) (u17:AV) (u18:AV) (u19:AV) (u20:AV) (u21:AV) (u22:AV) (u23:AV) (u24:AV) (u25:AV) (u26:AV) (u27:AV) (u28:AV) (u29:AV) (u30:AV) (u31:AV) (u32:AV) (u33:AV) (u34:AV) (u35:AV) (u36:AV) (u37:AV) (u38:AV) (u39:AV) (u40:AV) (u41:AV) (u42:AV) (u43:AV) (u44:AV) (u45:AV) (u46:AV) (u47:AV) (u48:AV) (u49:AV) (u50:AV) (u51:AV) (u52:AV) (u53:AV) (u54:AV) (u55:AV) (u56:AV) (u57:AV) (u58:AV) (u59:AV) (u60:AV) (u61:AV) (u62:AV) (u63:AV) (u64:AV) (u65:AV) (u66:AV) (u67:AV) (u68:AV) (u69:AV) (u70:AV) (u71:AV) (u72:AV) (u73:AV) (u74:AV) (u75:AV) (u76:AV) (u77:AV) (u78:AV) (u79:AV) (o1:AObj),kl1_0 z1=some v→Q (.exit 0) [u0,(.lst (panels.flatMap pr) panels.length .shared),u2,u3,J,J,u6,(.lst (z1.map I) z1.length (.uniq 1)),u8,u9,u10,u11,u12,u13,u14,u15,u16,u17,u18,u19,u20,u21,u22,u23,u24,u25,u26,u27,u28,u29,u30,u31,u32,u33,u34,u35,u36,u37,u38,u39,u40,u41,u42,u43,u44,u45,u46,u47,u48,u49,u50,u51,u52,u53,u54,u55,u56,u57,u58,u59,u60,u61,u62,u63,u64,u65,u66,u67,u68,u69,u70,u71,u72,u73,u74,u75,u76,u77,u78,u79] [o1]) (hkl1_0_1:∀ (z1:(List Int)) (u0:AV) (u2:AV) (u3:AV) (u6:AV) (u8:AV) (u9:AV) (u10:AV) (u11:AV) (u12:AV) (u13:AV) (u14:AV) (u15:AV) (u16:AV) (u17:AV) (u18:AV) (u19:AV) (u20:AV) (u21:AV) (u22:AV) (u23:AV) (u24:AV) (u25:AV) (u26:AV) (u27:AV) (u28:AV) (u29:AV) (u30:AV) (u31:AV) (u32:AV) (u33:AV) (u34:AV) (u35:AV) (u36:AV) (u37:AV) (u38:AV) (u39:AV) (u40:AV) (u41:AV) (u42:AV) (u43:AV) (u44:AV) (u45:AV) (u46:AV) (u47:AV) (u48:AV) (u49:AV) (u50:AV) (u51:AV) (u52:AV) (u53:AV) (u54:AV) (u55:AV) (u56:AV) (u57:AV) (u58:AV) (u59:AV) (u60:AV) (u61:AV) (u62:AV) (u63:AV) (u64:AV) (u65:AV) (u66:AV) (u67:AV) (u68:AV) (u69:AV) (u70:AV) (u71:AV) (u72:AV) (u73:AV) (u74:AV) (u75:AV) (u76:AV) (u77:AV) (u78:AV) (u79:AV) (o1:AObj),kl1_0 z1=some v→Q (.exit 0) [u0,(.lst (panels.flatMap pr) panels.length .shared),u2,u3,J,J,u6,(.lst (z1.map I) z1.length (.own 1)),u8,u9,u10,u11,u12,u13,u14,u15,u16,u17,u18,u19,u20,u21,u22,u23,u24,u25,u26,u27,u28,u29,u30,u31,u32,u33,u34,u35,u36,u37,u38,u39,u40,u41,u42,u43,u44,u45,u46,u47,u48,u49,u50,u51,u52,u53,u54,u55,u56,u57,u58,u59,u60,u61,u62,u63,u64,u65,u66,u67,u68,u69,u70,u71,u72,u73,u74,u75,u76,u77,u78,u79] [o1]) (hcp7:(cp7=(.uniq 1)∨cp7=(.own 1))) {T:List AV} (hT:zipKeep [o_,i_,i_,i_,o_,o_,o_,i_,i_,o_,o_,o_,o_,o_,o_,o_,o_,o_,o_,o_,o_,o_,o_,o_,o_,o_,o_,o_,o_,o_,o_,o_,o_,o_,o_,o_,o_,o_,o_,o_,o_,o_,o_,o_,o_,o_,o_,o_,o_,o_,o_,o_,o_,o_,o_,o_,o_,o_,o_,o_,o_,o_,o_,o_,o_,o_,o_,o_,o_,o_,o_,o_,o_,o_,o_,o_,o_,o_,o_,o_] T=slots 80 [(1,(.lst (panels.flatMap pr) panels.length .shared)),(2,(.lst (turns.map L1) turns.length .shared)),(3,(.ptr 0 0)),(7,(.lst (s1.map I) s1.length cp7)),(8,(I s2))]) (h:x67_l1 b panels turns kl1_0 FU s1 s2=some v) :
  wpR Tryz.prog ann67 67 0 none xrc67_3 T [AObj.cells [(I b.1),(.lst (b.2.1.map I) b.2.1.length .shared),(I b.2.2.1),(I b.2.2.2)]] Q:=by
 unfold xrc67_3
 obtain ⟨c_1,g_1⟩:∃ c,xrc67_1=c:=⟨_,rfl⟩
 rw [g_1]
 obtain ⟨c_2,g_2⟩:∃ c,xrc67_2=c:=⟨_,rfl⟩
 rw [g_2]
 refine wp_loop hT ?_
 refine .intro (fun m T H=>∃ (s1:(List Int)) (s2:Int) (cp7:Cap),(cp7=(.uniq 1)∨cp7=(.own 1))∧T=slots 80 [(1,(.lst (panels.flatMap pr) panels.length .shared)),(2,(.lst (turns.map L1) turns.length .shared)),(3,(.ptr 0 0)),(7,(.lst (s1.map I) s1.length cp7)),(8,(I s2))]∧H=[AObj.cells [(I b.1),(.lst (b.2.1.map I) b.2.1.length .shared),(I b.2.2.1),(I b.2.2.2)]]∧x67_l1 b panels turns kl1_0 m s1 s2=some v) FU ⟨s1,s2,_,hcp7,rfl,rfl,h⟩ ?_
 clear h hT
 rintro m T H ⟨s1,s2,cp7,hcp7,rfl,rfl,h⟩
 cases m
 ·exact none_ne h
 rename_i m
 rw [x67_l1.eq_2] at h
 rcases hcp7 with rfl | rfl
 ·conv=>whnf
  rcases bt (decide (s2<(turns.length:Int))) with hb1 | hb1
  ·rw [hb1]
   conv=>whnf
   replace h:=it_t hb1 h
   obtain ⟨hb2,h⟩:=gd_some h
   refine ⟨hb2,?_⟩
   rw [drop1 L1 turns s2 hb2]
   conv=>whnf
   rcases bt (decide (((ix turns s2).length:Int)=(0:Int))) with hb3 | hb3
   ·rw [hb3]
    conv=>whnf
    replace h:=it_t hb3 h
    obtain rfl:=Option.some.inj h
    exact hR _ _ ⟨.inr rfl,_,rfl,_,frz_pure rfl,rfl⟩
   ·rw [hb3]
    conv=>whnf
    replace h:=it_f hb3 h
    obtain ⟨r1,hb4,h⟩:=bd_some h
    refine ⟨(allc (pu_map (fun _=>rfl) _ _ _) (allc rfl rfl)),_,x62_ok hb4,?_⟩
    conv=>whnf
    cases r1
    ·conv=>whnf
     replace h:=it_f rfl h
     obtain rfl:=Option.some.inj h
     exact hR _ _ ⟨.inr rfl,_,rfl,_,frz_pure rfl,rfl⟩
    ·conv=>whnf
     replace h:=it_t rfl h
     obtain ⟨r2,hb5,h⟩:=bd_some h
     refine ⟨(allc (pu_agg (allc rfl (allc (pu_map (fun _=>rfl) _ _ _) (allc rfl (allc rfl rfl))))) rfl),_,x51_ok hb5,?_⟩
     conv=>whnf
     rcases bt (decide ((r2.length:Int)<((ix turns s2).length:Int))) with hb6 | hb6
     ·rw [hb6]
      conv=>whnf
      replace h:=it_t hb6 h
      obtain rfl:=Option.some.inj h
      exact hR _ _ ⟨.inr rfl,_,rfl,_,frz_pure rfl,rfl⟩
     ·rw [hb6]
      conv=>whnf
      replace h:=it_f hb6 h
      subst g_1
      refine x67_l2_ok ?_ ?_ (by exact rfl) h
      ·exact fun T H hh=>hR T H hh
      ·intro u0 u6 u10 u11 u12 u13 u14 u15 u16 u17 u18 u19 u20 u21 u22 u23 u24 u25 u26 u27 u28 u29 u30 u31 u32 u33 u34 u35 u36 u37 u38 u39 u40 u41 u42 u43 u44 u45 u46 u47 u48 u49 u50 u51 u52 u53 u54 u55 u56 u57 u58 u59 u60 u61 u62 u63 u64 u65 u66 u67 u68 u69 u70 u71 u72 u73 u74 u75 u76 u77 u78 u79 h
       conv=>whnf
       subst g_2
       refine x67_l3_ok ?_ ?_ ?_ (.inl rfl) (by exact rfl) h
       ·exact fun T H hh=>hR T H hh
       ·intro u0 u6 u10 u11 u12 u13 u14 u15 u16 u17 u18 u19 u20 u21 u22 u23 u24 u25 u26 u27 u28 u29 u30 u31 u32 u33 u34 u35 u36 u37 u38 u39 u40 u41 u42 u43 u44 u45 u46 u47 u48 u49 u50 u51 u52 u53 u54 u55 u56 u57 u58 u59 u60 u61 u62 u63 u64 u65 u66 u67 u68 u69 u70 u71 u72 u73 u74 u75 u76 u77 u78 u79 h
        conv=>whnf
        obtain ⟨hb16,h⟩:=gd_some h
        refine ⟨by first | rfl | simp,by have:=hb16;omega,rfl,hb16,?_⟩
        erw [apnd I s1 (ix turns s2)]
        conv=>whnf
        exact ⟨m,Nat.lt_succ_self m,(s1++(ix turns s2)),(w (s2+(1:Int))),_,(.inl rfl),rfl,rfl,h⟩
       ·intro u0 u6 u10 u11 u12 u13 u14 u15 u16 u17 u18 u19 u20 u21 u22 u23 u24 u25 u26 u27 u28 u29 u30 u31 u32 u33 u34 u35 u36 u37 u38 u39 u40 u41 u42 u43 u44 u45 u46 u47 u48 u49 u50 u51 u52 u53 u54 u55 u56 u57 u58 u59 u60 u61 u62 u63 u64 u65 u66 u67 u68 u69 u70 u71 u72 u73 u74 u75 u76 u77 u78 u79 h
        conv=>whnf
        obtain ⟨hb17,h⟩:=gd_some h
        refine ⟨by first | rfl | simp,by have:=hb17;omega,rfl,hb17,?_⟩
        erw [apnd I s1 (ix turns s2)]
        conv=>whnf
        exact ⟨m,Nat.lt_succ_self m,(s1++(ix turns s2)),(w (s2+(1:Int))),_,(.inr rfl),rfl,rfl,h⟩
  ·rw [hb1]
   conv=>whnf
   replace h:=it_f hb1 h
   exact hkl1_0 _ _ _ _ _ _ _ _ _ _ _ _ _ _ _ _ _ _ _ _ _ _ _ _ _ _ _ _ _ _ _ _ _ _ _ _ _ _ _ _ _ _ _ _ _ _ _ _ _ _ _ _ _ _ _ _ _ _ _ _ _ _ _ _ _ _ _ _ _ _ _ _ _ _ _ _ _ _ h
 ·conv=>whnf
  rcases bt (decide (s2<(turns.length:Int))) with hb1 | hb1
  ·rw [hb1]
   conv=>whnf
   replace h:=it_t hb1 h
   obtain ⟨hb2,h⟩:=gd_some h
   refine ⟨hb2,?_⟩
   rw [drop1 L1 turns s2 hb2]
   conv=>whnf
   rcases bt (decide (((ix turns s2).length:Int)=(0:Int))) with hb3 | hb3
   ·rw [hb3]
    conv=>whnf
    replace h:=it_t hb3 h
    obtain rfl:=Option.some.inj h
    exact hR _ _ ⟨.inr rfl,_,rfl,_,frz_pure rfl,rfl⟩
   ·rw [hb3]
    conv=>whnf
    replace h:=it_f hb3 h
    obtain ⟨r1,hb4,h⟩:=bd_some h
    refine ⟨(allc (pu_map (fun _=>rfl) _ _ _) (allc rfl rfl)),_,x62_ok hb4,?_⟩
    conv=>whnf
    cases r1
    ·conv=>whnf
     replace h:=it_f rfl h
     obtain rfl:=Option.some.inj h
     exact hR _ _ ⟨.inr rfl,_,rfl,_,frz_pure rfl,rfl⟩
    ·conv=>whnf
     replace h:=it_t rfl h
     obtain ⟨r2,hb5,h⟩:=bd_some h
     refine ⟨(allc (pu_agg (allc rfl (allc (pu_map (fun _=>rfl) _ _ _) (allc rfl (allc rfl rfl))))) rfl),_,x51_ok hb5,?_⟩
     conv=>whnf
     rcases bt (decide ((r2.length:Int)<((ix turns s2).length:Int))) with hb6 | hb6
     ·rw [hb6]
      conv=>whnf
      replace h:=it_t hb6 h
      obtain rfl:=Option.some.inj h
      exact hR _ _ ⟨.inr rfl,_,rfl,_,frz_pure rfl,rfl⟩
     ·rw [hb6]
      conv=>whnf
      replace h:=it_f hb6 h
      subst g_1
      refine x67_l2v_ok ?_ ?_ (by exact rfl) h
      ·exact fun T H hh=>hR T H hh
      ·intro u0 u6 u10 u11 u12 u13 u14 u15 u16 u17 u18 u19 u20 u21 u22 u23 u24 u25 u26 u27 u28 u29 u30 u31 u32 u33 u34 u35 u36 u37 u38 u39 u40 u41 u42 u43 u44 u45 u46 u47 u48 u49 u50 u51 u52 u53 u54 u55 u56 u57 u58 u59 u60 u61 u62 u63 u64 u65 u66 u67 u68 u69 u70 u71 u72 u73 u74 u75 u76 u77 u78 u79 h
       conv=>whnf
       subst g_2
       refine x67_l3v_ok ?_ ?_ (by exact rfl) h
       ·exact fun T H hh=>hR T H hh
       ·intro u0 u6 u10 u11 u12 u13 u14 u15 u16 u17 u18 u19 u20 u21 u22 u23 u24 u25 u26 u27 u28 u29 u30 u31 u32 u33 u34 u35 u36 u37 u38 u39 u40 u41 u42 u43 u44 u45 u46 u47 u48 u49 u50 u51 u52 u53 u54 u55 u56 u57 u58 u59 u60 u61 u62 u63 u64 u65 u66 u67 u68 u69 u70 u71 u72 u73 u74 u75 u76 u77 u78 u79 h
        conv=>whnf
        obtain ⟨hb16,h⟩:=gd_some h
        refine ⟨by first | rfl | simp,by have:=hb16;omega,rfl,hb16,?_⟩
        erw [apnd I s1 (ix turns s2)]
        conv=>whnf
        exact ⟨m,Nat.lt_succ_self m,(s1++(ix turns s2)),(w (s2+(1:Int))),_,(.inr rfl),rfl,rfl,h⟩
  ·rw [hb1]
   conv=>whnf
   replace h:=it_f hb1 h
   exact hkl1_0_1 _ _ _ _ _ _ _ _ _ _ _ _ _ _ _ _ _ _ _ _ _ _ _ _ _ _ _ _ _ _ _ _ _ _ _ _ _ _ _ _ _ _ _ _ _ _ _ _ _ _ _ _ _ _ _ _ _ _ _ _ _ _ _ _ _ _ _ _ _ _ _ _ _ _ _ _ _ _ h
theorem x67_ok {b:(Int×(List Int)×Int×Int)} {panels:(List (Int×Int))} {turns:(List (List Int))} {v:Int} (h:x67 b panels turns=some v):PO 67 [(.agg [(I b.1),(.lst (b.2.1.map I) b.2.1.length .shared),(I b.2.2.1),(I b.2.2.2)]),(.lst (panels.flatMap pr) panels.length .shared),(.lst (turns.map L1) turns.length .shared)] (I v):=by
 refine fn_pureW hmix lxx67 rfl rfl fun Q hQ=>?_
 have hR:∀ T H,RetW [.tmp 6] (I v) .ret T H→Q .ret T H:=fun T H hh=>hQ _ T H hh
 unfold x67 at h
 unfold xrc67
 obtain ⟨c_3,g_3⟩:∃ c,xrc67_3=c:=⟨_,rfl⟩
 rw [g_3]
 conv=>whnf
 subst g_3
 refine x67_l1_ok ?_ ?_ ?_ (.inl rfl) (by exact rfl) h
 ·exact fun T H hh=>hR T H hh
 ·intro z1 u0 u2 u3 u6 u8 u9 u10 u11 u12 u13 u14 u15 u16 u17 u18 u19 u20 u21 u22 u23 u24 u25 u26 u27 u28 u29 u30 u31 u32 u33 u34 u35 u36 u37 u38 u39 u40 u41 u42 u43 u44 u45 u46 u47 u48 u49 u50 u51 u52 u53 u54 u55 u56 u57 u58 u59 u60 u61 u62 u63 u64 u65 u66 u67 u68 u69 u70 u71 u72 u73 u74 u75 u76 u77 u78 u79 o1 h
  conv=>whnf
  rcases bt (decide ((z1.length:Int)<(panels.length:Int))) with hb17 | hb17
  ·rw [hb17]
   conv=>whnf
   replace h:=it_t hb17 h
   obtain rfl:=Option.some.inj h
   exact hR _ _ ⟨.inr rfl,_,rfl,_,frz_pure rfl,rfl⟩
  ·rw [hb17]
   conv=>whnf
   replace h:=it_f hb17 h
   obtain rfl:=Option.some.inj h
   exact hR _ _ ⟨.inr rfl,_,rfl,_,frz_pure rfl,rfl⟩
 ·intro z1 u0 u2 u3 u6 u8 u9 u10 u11 u12 u13 u14 u15 u16 u17 u18 u19 u20 u21 u22 u23 u24 u25 u26 u27 u28 u29 u30 u31 u32 u33 u34 u35 u36 u37 u38 u39 u40 u41 u42 u43 u44 u45 u46 u47 u48 u49 u50 u51 u52 u53 u54 u55 u56 u57 u58 u59 u60 u61 u62 u63 u64 u65 u66 u67 u68 u69 u70 u71 u72 u73 u74 u75 u76 u77 u78 u79 o1 h
  conv=>whnf
  rcases bt (decide ((z1.length:Int)<(panels.length:Int))) with hb18 | hb18
  ·rw [hb18]
   conv=>whnf
   replace h:=it_t hb18 h
   obtain rfl:=Option.some.inj h
   exact hR _ _ ⟨.inr rfl,_,rfl,_,frz_pure rfl,rfl⟩
  ·rw [hb18]
   conv=>whnf
   replace h:=it_f hb18 h
   obtain rfl:=Option.some.inj h
   exact hR _ _ ⟨.inr rfl,_,rfl,_,frz_pure rfl,rfl⟩

noncomputable def xrc68_1:RC :=
 .loop (some [i_,i_,o_,o_,o_,i_,i_,o_,o_,o_,o_,o_,o_,o_,o_,o_,o_,o_,o_,o_,o_,o_,o_,o_]) (.seq (.seq (.reg false [I_ 7 [.sl 6] .mv,I_ 8
 [.sl 1] .mv,I_ 9 [.tk 8] .lenS,I_ 10 [.tv 7,.tv 9] (.bin .lss)]) (.cond (.sl 10) .skip (.exit 0))) (.seq (.block 1 (.reg false [I_ 13 [.tk 5] .mv,I_ 14 [.sl 0] .mv,I_ 15 [.sl 1] .mv,I_ 16 [.sl 6] .mv,I_ 17 [.tv 15,.tv
 16] (.ia 1),I_ 18 [.tv 17] (.ld .one),I_ 19 [.tv 14,.tv 18] (.ia 2),I_ 20 [.tv 19] (.fa 1),I_ 21 [.tv 20] (.ld .one),I_ 22 [.tk 13,.tk 21] .max,I_ 5 [.tk 22] .mv])) (.reg false [I_ 11 [.tk 6] .mv,I_ 12 [.tv 11,.cv
 (.int .i64 1)] (.bin .add),I_ 6 [.tk 12] .mv])))
noncomputable def xrc68:RC :=
 .seq (.reg false [I_ 4 [.cv (.int .i64 0)] .mv]) (.seq (.reg false [I_ 5 [.cv (.int .i64 0)] .mv]) (.seq (.seq (.reg false [I_ 6 [.cv (.int .i64 0)] .mv]) (.block 0 xrc68_1)) (.seq (.reg false [I_ 23 [.tk 5] .mv,I_ 4 [.tk 23]
 .mv]) .ret)))
theorem lxx68:linkF Tryz.prog ann68 68=some (xrc68,24,[.tmp 4]):=by kernel_rfl
def x68_l1 (panels:(List (Int×Int))) (turn:(List Int)) (kl1_0:Int→Option Int):Nat→Int→Int→Option Int
 | 0,_,_=>none
 | m+1,s1,s2 =>
   if (decide (s2<(turn.length:Int)))=true then
    gd (0≤s2∧s2<(turn.length:Int)) <|
    gd (0≤(ix turn s2)∧(ix turn s2)<(panels.length:Int)) <|
    x68_l1 panels turn kl1_0 m (max s1 ((ix panels (ix turn s2)).2)) (w (s2+(1:Int)))
   else
    kl1_0 s1
def x68 (panels:(List (Int×Int))) (turn:(List Int)):Option Int :=
 x68_l1 panels turn (fun z1 =>
   some z1) FU (0:Int) (0:Int)
theorem x68_l1_ok {panels:(List (Int×Int))} {turn:(List Int)} {kl1_0:Int→Option Int} {s1:Int} {s2:Int} {v:Int} {Q:Ex→List AV→List AObj→Prop}   (hkl1_0:∀ (z1:Int) (u0:AV) (u1:AV) (u4:AV) (u6:AV) (u7:AV) (u8:AV) (u9:AV) (u10:AV) (u11:AV) (u12:AV) (u13:AV) (u14:AV) (u15:AV) (u16:AV) (u17:AV) (u18:AV) (u19:AV) (u20:AV) (u21:AV) (u22:AV) (u23:AV),kl1_0 z1=some v→Q (.exit 0) [u0,u1,J,J,u4,(I z1),u6,u7,u8,u9,u10,u11,u12,u13,u14,u15,u16,u17,u18,u19,u20,u21,u22,u23] []) {T:List AV} (hT:zipKeep [i_,i_,o_,o_,o_,i_,i_,o_,o_,o_,o_,o_,o_,o_,o_,o_,o_,o_,o_,o_,o_,o_,o_,o_] T=slots 24 [(0,(.lst (panels.flatMap pr) panels.length .shared)),(1,(.lst (turn.map I) turn.length .shared)),(5,(I s1)),(6,(I s2))]) (h:x68_l1 panels turn kl1_0 FU s1 s2=some v) :
  wpR Tryz.prog ann68 68 0 none xrc68_1 T [] Q:=by
 unfold xrc68_1
 skip
 refine wp_loop hT ?_
 refine .intro (fun m T H=>∃ (s1:Int) (s2:Int),T=slots 24 [(0,(.lst (panels.flatMap pr) panels.length .shared)),(1,(.lst (turn.map I) turn.length .shared)),(5,(I s1)),(6,(I s2))]∧H=[]∧x68_l1 panels turn kl1_0 m s1 s2=some v) FU ⟨s1,s2,rfl,rfl,h⟩ ?_
 clear h hT
 rintro m T H ⟨s1,s2,rfl,rfl,h⟩
 cases m
 ·exact none_ne h
 rename_i m
 rw [x68_l1.eq_2] at h
 conv=>whnf
 rcases bt (decide (s2<(turn.length:Int))) with hb1 | hb1
 ·rw [hb1]
  conv=>whnf
  replace h:=it_t hb1 h
  obtain ⟨hb2,h⟩:=gd_some h
  refine ⟨hb2,?_⟩
  rw [drop1 I turn s2 hb2]
  conv=>whnf
  obtain ⟨hb3,h⟩:=gd_some h
  refine ⟨hb3,?_⟩
  rw [dropS pr 2 pr_len panels (ix turn s2) hb3]
  conv=>whnf
  exact ⟨m,Nat.lt_succ_self m,(max s1 ((ix panels (ix turn s2)).2)),(w (s2+(1:Int))),rfl,rfl,h⟩
 ·rw [hb1]
  conv=>whnf
  replace h:=it_f hb1 h
  exact hkl1_0 _ _ _ _ _ _ _ _ _ _ _ _ _ _ _ _ _ _ _ _ _ _ h
theorem x68_ok {panels:(List (Int×Int))} {turn:(List Int)} {v:Int} (h:x68 panels turn=some v):PO 68 [(.lst (panels.flatMap pr) panels.length .shared),(.lst (turn.map I) turn.length .shared)] (I v):=by
 refine fn_pureW hmix lxx68 rfl rfl fun Q hQ=>?_
 have hR:∀ T H,RetW [.tmp 4] (I v) .ret T H→Q .ret T H:=fun T H hh=>hQ _ T H hh
 unfold x68 at h
 unfold xrc68
 obtain ⟨c_1,g_1⟩:∃ c,xrc68_1=c:=⟨_,rfl⟩
 rw [g_1]
 conv=>whnf
 subst g_1
 refine x68_l1_ok ?_ (by exact rfl) h
 intro z1 u0 u1 u4 u6 u7 u8 u9 u10 u11 u12 u13 u14 u15 u16 u17 u18 u19 u20 u21 u22 u23 h
 conv=>whnf
 obtain rfl:=Option.some.inj h
 exact hR _ _ ⟨.inr rfl,_,rfl,_,frz_pure rfl,rfl⟩

noncomputable def xrc27_1:RC :=
 .loop (some [o_,i_,i_,o_,o_,o_,o_,o_,o_,i_,i_,i_,i_,o_,o_,o_,o_,o_,o_,o_,o_,o_,o_,o_,o_,o_,o_,o_,o_,o_,o_,o_,o_,o_,o_,o_,o_,o_,o_,o_,o_,o_,o_,o_,o_,o_,o_,o_,o_,o_,o_,o_,o_,o_,o_,o_,o_,o_,o_,o_,o_,o_,o_,o_]) (.seq (.seq (.reg false [I_ 32 [.sl 12] .mv,I_ 33 [.sl 2] .mv,I_ 34 [.tk 33] .lenS,I_ 35 [.tv 32,.tv 34] (.bin .lss)]) (.cond (.sl 35) .skip (.exit 0))) (.seq (.block 1 (.seq (.reg false [I_ 38 [.sl 1] .mv,I_ 39
 [.sl 2] .mv,I_ 40 [.sl 12] .mv,I_ 41 [.tv 39,.tv 40] (.ia 1),I_ 42 [.tv 41] (.ld .one),I_ 43 [.tv 42,.cv (.int .i64 0)] (.ia 1),I_ 44 [.tv 43] (.ld .one),I_ 45 [.tv 38,.tv 44] (.ia 2),I_ 46 [.tv 45] (.fa 0),I_ 47
 [.tv 46] (.ld .one),I_ 13 [.tk 47] .mv]) (.seq (.reg false [I_ 48 [.tk 9] .mv,I_ 49 [.sl 1] .mv,I_ 50 [.sl 2] .mv,I_ 51 [.sl 12] .mv,I_ 52 [.tv 50,.tv 51] (.ia 1),I_ 53 [.tv 52] (.ld .one),I_ 54 [.cv (.func 68 [] []),
 .sl 49,.sl 53] (.call 3),I_ 55 [.tv 48,.tv 54] (.bin .add),I_ 9 [.tk 55] .mv]) (.seq (.reg false [I_ 56 [.tk 10] .mv,I_ 57 [.tk 11] .mv,I_ 58 [.sl 13] .mv,I_ 59 [.cv (.func 52 [] []),.sl 57,.sl 58] (.call 3),I_ 60
 [.tv 56,.tv 59] (.bin .add),I_ 10 [.tk 60] .mv]) (.reg false [I_ 61 [.tk 13] .mv,I_ 11 [.tk 61] .mv]))))) (.reg false [I_ 36 [.tk 12] .mv,I_ 37 [.tv 36,.cv (.int .i64 1)] (.bin .add),I_ 12 [.tk 37] .mv])))
noncomputable def xrc27:RC :=
 .seq (.reg false [I_ 3 [.tk 0] .box,I_ 6 [.cv (.int .i64 0)] .mv,I_ 7 [.cv (.int .i64 0)] .mv,I_ 8 [.cv (.int .i64 0)] .mv]) (.seq (.seq (.reg false [I_ 14 [.sl 3] (.ld (.str 4)),I_ 15 [.sl 1] .mv,I_ 16 [.cv (.func 66 []
 []),.sl 14,.sl 15] (.call 3),I_ 17 [.tv 16,.cv (.int .i64 0)] (.bin .neq)]) (.cond (.sl 17) (.seq (.reg false [I_ 18 [.tv 3] (.ld (.str 4)),I_ 19 [.tk 1] .mv,I_ 20 [.cv (.func 66 [] []),.sl 18,.sl 19] (.call 3),I_ 6
 [.cv (.int .i64 0)] .mv,I_ 7 [.cv (.int .i64 0)] .mv,I_ 8 [.tk 20] .mv]) .ret) .skip)) (.seq (.seq (.reg false [I_ 21 [.sl 3] (.ld (.str 4)),I_ 22 [.sl 1] .mv,I_ 23 [.sl 2] .mv,I_ 24 [.cv (.func 67 [] []),.sl 21,.sl 22,
 .sl 23] (.call 3),I_ 25 [.tv 24,.cv (.int .i64 0)] (.bin .neq)]) (.cond (.sl 25) (.seq (.reg false [I_ 26 [.tv 3] (.ld (.str 4)),I_ 27 [.tk 1] .mv,I_ 28 [.tk 2] .mv,I_ 29 [.cv (.func 67 [] []),.sl 26,.sl 27,.sl 28]
 (.call 3),I_ 6 [.cv (.int .i64 0)] .mv,I_ 7 [.cv (.int .i64 0)] .mv,I_ 8 [.tk 29] .mv]) .ret) .skip)) (.seq (.reg true [I_ 30 [.tv 3] (.fa 2),I_ 31 [.tv 30] (.ld .one),I_ 9 [.cv (.int .i64 0)] .mv,I_ 10 [.cv (.int .i64
 0)] .mv,I_ 11 [.tk 31] .mv]) (.seq (.seq (.reg false [I_ 12 [.cv (.int .i64 0)] .mv]) (.block 0 xrc27_1)) (.seq (.reg false [I_ 62 [.tk 9] .mv,I_ 63 [.tk 10] .mv,I_ 6 [.tk 62] .mv,I_ 7 [.tk 63] .mv,I_ 8 [.cv (.int .i64 0)]
 .mv]) .ret)))))
theorem lxx27:linkF Tryz.prog ann27 27=some (xrc27,64,[.tmp 6,.tmp 7,.tmp 8]):=by kernel_rfl
def x27_l1 (panels:(List (Int×Int))) (turns:(List (List Int))) (kl1_0:Int→Int→Option (Int×Int×Int)):Nat→Int→Int→Int→Int→Option (Int×Int×Int)
 | 0,_,_,_,_=>none
 | m+1,s1,s2,s3,s4 =>
   if (decide (s4<(turns.length:Int)))=true then
    gd (0≤s4∧s4<(turns.length:Int)) <|
    gd (0≤(0:Int)∧(0:Int)<((ix turns s4).length:Int)) <|
    gd (0≤(ix (ix turns s4) (0:Int))∧(ix (ix turns s4) (0:Int))<(panels.length:Int)) <|
    gd (0≤s4∧s4<(turns.length:Int)) <|
    (x68 panels (ix turns s4)).bind fun r5 =>
    (x52 s3 ((ix panels (ix (ix turns s4) (0:Int))).1)).bind fun r6 =>
    x27_l1 panels turns kl1_0 m (w (s1+r5)) (w (s2+r6)) ((ix panels (ix (ix turns s4) (0:Int))).1) (w (s4+(1:Int)))
   else
    kl1_0 s1 s2
def x27 (b:(Int×(List Int)×Int×Int)) (panels:(List (Int×Int))) (turns:(List (List Int))):Option (Int×Int×Int) :=
 (x66 b panels).bind fun r1 =>
 if (decide (r1≠(0:Int)))=true then
  (x66 b panels).bind fun r2 =>
  some ((0:Int),(0:Int),r2)
 else
  (x67 b panels turns).bind fun r3 =>
  if (decide (r3≠(0:Int)))=true then
   (x67 b panels turns).bind fun r4 =>
   some ((0:Int),(0:Int),r4)
  else
   x27_l1 panels turns (fun z1 z2 =>
     some (z1,z2,(0:Int))) FU (0:Int) (0:Int) b.2.2.1 (0:Int)
theorem x27_l1_ok {panels:(List (Int×Int))} {turns:(List (List Int))} {kl1_0:Int→Int→Option (Int×Int×Int)} {s1:Int} {s2:Int} {s3:Int} {s4:Int} {v:(Int×Int×Int)} {Q:Ex→List AV→List AObj→Prop} {o1:AObj}  (hkl1_0:∀ (z1:Int) (z2:Int) (u0:AV) (u1:AV) (u2:AV) (u3:AV) (u6:AV) (u7:AV) (u8:AV) (u11:AV) (u12:AV) (u13:AV) (u14:AV) (u15:AV) (u16:AV) (u17:AV) (u18:AV) (u19:AV) (u20:AV) (u21:AV) (u22:AV) (u23:AV) (u24:AV) (u25:AV) (u26:AV) (u27:AV) (u28:AV) (u29:AV) (u30:AV) (u31:AV) (u32:AV) (u33:AV) (u34:AV) (u35:AV) (u36:AV) (u37:AV) (u38:AV) (u39:AV) (u40:AV) (u41:AV) (u42:AV) (u43:AV) (u44:AV) (u45:AV) (u46:AV) (u47:AV) (u48:AV) (u49:AV) (u50:AV) (u51:AV) (u52:AV) (u53:AV) (u54:AV) (u55:AV) (u56:AV) (u57:AV) (u58:AV) (u59:AV) (u60:AV) (u61:AV) (u62:AV) (u63:AV),kl1_0 z1 z2=some v→Q (.exit 0) [u0,u1,u2,u3,J,J,u6,u7,u8,(I z1),(I z2),u11,u12,u13,u14,u15,u16,u17,u18,u19,u20,u21,u22,u23,u24,u25,u26,u27,u28,u29,u30,u31,u32,u33,u34,u35,u36,u37,u38,u39,u40,u41,u42,u43,u44,u45,u46,u47,u48,u49,u50,u51,u52,u53,u54,u55,u56,u57,u58,u59,u60,u61,u62,u63] [o1]) {T:List AV} (hT:zipKeep [o_,i_,i_,o_,o_,o_,o_,o_,o_,i_,i_,i_,i_,o_,o_,o_,o_,o_,o_,o_,o_,o_,o_,o_,o_,o_,o_,o_,o_,o_,o_,o_,o_,o_,o_,o_,o_,o_,o_,o_,o_,o_,o_,o_,o_,o_,o_,o_,o_,o_,o_,o_,o_,o_,o_,o_,o_,o_,o_,o_,o_,o_,o_,o_] T=slots 64 [(1,(.lst (panels.flatMap pr) panels.length .shared)),(2,(.lst (turns.map L1) turns.length .shared)),(9,(I s1)),(10,(I s2)),(11,(I s3)),(12,(I s4))]) (h:x27_l1 panels turns kl1_0 FU s1 s2 s3 s4=some v) :
  wpR Tryz.prog ann27 27 0 none xrc27_1 T [o1] Q:=by
 unfold xrc27_1
 skip
 refine wp_loop hT ?_
 refine .intro (fun m T H=>∃ (s1:Int) (s2:Int) (s3:Int) (s4:Int),T=slots 64 [(1,(.lst (panels.flatMap pr) panels.length .shared)),(2,(.lst (turns.map L1) turns.length .shared)),(9,(I s1)),(10,(I s2)),(11,(I s3)),(12,(I s4))]∧H=[o1]∧x27_l1 panels turns kl1_0 m s1 s2 s3 s4=some v) FU ⟨s1,s2,s3,s4,rfl,rfl,h⟩ ?_
 clear h hT
 rintro m T H ⟨s1,s2,s3,s4,rfl,rfl,h⟩
 cases m
 ·exact none_ne h
 rename_i m
 rw [x27_l1.eq_2] at h
 conv=>whnf
 rcases bt (decide (s4<(turns.length:Int))) with hb7 | hb7
 ·rw [hb7]
  conv=>whnf
  replace h:=it_t hb7 h
  obtain ⟨hb8,h⟩:=gd_some h
  refine ⟨hb8,?_⟩
  rw [drop1 L1 turns s4 hb8]
  conv=>whnf
  obtain ⟨hb9,h⟩:=gd_some h
  refine ⟨hb9,?_⟩
  rw [drop1 I (ix turns s4) (0:Int) hb9]
  conv=>whnf
  obtain ⟨hb10,h⟩:=gd_some h
  refine ⟨hb10,?_⟩
  rw [dropS pr 2 pr_len panels (ix (ix turns s4) (0:Int)) hb10]
  conv=>whnf
  obtain ⟨hb11,h⟩:=gd_some h
  refine ⟨hb11,?_⟩
  rw [drop1 L1 turns s4 hb11]
  conv=>whnf
  obtain ⟨r5,hb12,h⟩:=bd_some h
  refine ⟨(allc (pu_flat (fun _=>(allc rfl (allc rfl rfl))) _ _ _) (allc (pu_map (fun _=>rfl) _ _ _) rfl)),_,x68_ok hb12,?_⟩
  conv=>whnf
  obtain ⟨r6,hb13,h⟩:=bd_some h
  refine ⟨(allc rfl (allc rfl rfl)),_,x52_ok hb13,?_⟩
  conv=>whnf
  exact ⟨m,Nat.lt_succ_self m,(w (s1+r5)),(w (s2+r6)),(ix panels (ix (ix turns s4) (0:Int))).1,(w (s4+(1:Int))),rfl,rfl,h⟩
 ·rw [hb7]
  conv=>whnf
  replace h:=it_f hb7 h
  exact hkl1_0 _ _ _ _ _ _ _ _ _ _ _ _ _ _ _ _ _ _ _ _ _ _ _ _ _ _ _ _ _ _ _ _ _ _ _ _ _ _ _ _ _ _ _ _ _ _ _ _ _ _ _ _ _ _ _ _ _ _ _ _ _ _ h
theorem x27_ok {b:(Int×(List Int)×Int×Int)} {panels:(List (Int×Int))} {turns:(List (List Int))} {v:(Int×Int×Int)} (h:x27 b panels turns=some v):PO 27 [(.agg [(I b.1),(.lst (b.2.1.map I) b.2.1.length .shared),(I b.2.2.1),(I b.2.2.2)]),(.lst (panels.flatMap pr) panels.length .shared),(.lst (turns.map L1) turns.length .shared)] (.tuple [(I v.1),(I v.2.1),(I v.2.2)]):=by
 refine fn_pureW hmix lxx27 rfl (pu_tup (allc rfl (allc rfl (allc rfl rfl)))) fun Q hQ=>?_
 have hR:∀ T H,RetW [.tmp 6,.tmp 7,.tmp 8] (.tuple [(I v.1),(I v.2.1),(I v.2.2)]) .ret T H→Q .ret T H:=fun T H hh=>hQ _ T H hh
 unfold x27 at h
 unfold xrc27
 obtain ⟨c_1,g_1⟩:∃ c,xrc27_1=c:=⟨_,rfl⟩
 rw [g_1]
 conv=>whnf
 obtain ⟨r1,hb1,h⟩:=bd_some h
 refine ⟨(allc (pu_agg (allc rfl (allc (pu_map (fun _=>rfl) _ _ _) (allc rfl (allc rfl rfl))))) (allc (pu_flat (fun _=>(allc rfl (allc rfl rfl))) _ _ _) rfl)),_,x66_ok hb1,?_⟩
 conv=>whnf
 rcases bt (decide (r1≠(0:Int))) with hb2 | hb2
 ·rw [hb2]
  conv=>whnf
  replace h:=it_t hb2 h
  obtain ⟨r2,hb3,h⟩:=bd_some h
  refine ⟨(allc (pu_agg (allc rfl (allc (pu_map (fun _=>rfl) _ _ _) (allc rfl (allc rfl rfl))))) (allc (pu_flat (fun _=>(allc rfl (allc rfl rfl))) _ _ _) rfl)),_,x66_ok hb3,?_⟩
  conv=>whnf
  obtain rfl:=Option.some.inj h
  exact hR _ _ ⟨.inr rfl,_,rfl,_,frz_pure (pu_tup (allc rfl (allc rfl (allc rfl rfl)))),rfl⟩
 ·rw [hb2]
  conv=>whnf
  replace h:=it_f hb2 h
  obtain ⟨r3,hb4,h⟩:=bd_some h
  refine ⟨(allc (pu_agg (allc rfl (allc (pu_map (fun _=>rfl) _ _ _) (allc rfl (allc rfl rfl))))) (allc (pu_flat (fun _=>(allc rfl (allc rfl rfl))) _ _ _) (allc (pu_map (fun _=>(pu_map (fun _=>rfl) _ _ _)) _ _ _) rfl))),_,x67_ok hb4,?_⟩
  conv=>whnf
  rcases bt (decide (r3≠(0:Int))) with hb5 | hb5
  ·rw [hb5]
   conv=>whnf
   replace h:=it_t hb5 h
   obtain ⟨r4,hb6,h⟩:=bd_some h
   refine ⟨(allc (pu_agg (allc rfl (allc (pu_map (fun _=>rfl) _ _ _) (allc rfl (allc rfl rfl))))) (allc (pu_flat (fun _=>(allc rfl (allc rfl rfl))) _ _ _) (allc (pu_map (fun _=>(pu_map (fun _=>rfl) _ _ _)) _ _ _) rfl))),_,x67_ok hb6,?_⟩
   conv=>whnf
   obtain rfl:=Option.some.inj h
   exact hR _ _ ⟨.inr rfl,_,rfl,_,frz_pure (pu_tup (allc rfl (allc rfl (allc rfl rfl)))),rfl⟩
  ·rw [hb5]
   conv=>whnf
   replace h:=it_f hb5 h
   subst g_1
   refine x27_l1_ok ?_ (by exact rfl) h
   intro z1 z2 u0 u1 u2 u3 u6 u7 u8 u11 u12 u13 u14 u15 u16 u17 u18 u19 u20 u21 u22 u23 u24 u25 u26 u27 u28 u29 u30 u31 u32 u33 u34 u35 u36 u37 u38 u39 u40 u41 u42 u43 u44 u45 u46 u47 u48 u49 u50 u51 u52 u53 u54 u55 u56 u57 u58 u59 u60 u61 u62 u63 h
   conv=>whnf
   obtain rfl:=Option.some.inj h
   exact hR _ _ ⟨.inr rfl,_,rfl,_,frz_pure (pu_tup (allc rfl (allc rfl (allc rfl rfl)))),rfl⟩

def heatT (ps:List (Int×Int)) (t:List Int):Int:=(ix ps (ix t 0)).1
def hourT (ps:List (Int×Int)) (t:List Int):Int:=maxL 0 (t.map fun x=>(ix ps x).2)
def tErr1 (n:Nat) (ps:List (Int×Int)) (dn t:List Int):Int :=
 if t.length=0 then 2 else if riseGo (ps.length:Int) 0 t=false then 2 else if n<t.length then 10
 else if (t.any fun x=>decide ((ix ps x).1≠(ix ps (ix t 0)).1))=true then 24 else if (t.any fun x=>decide (x∈dn))=true then 16 else 0
def tErr (n:Nat) (ps:List (Int×Int)):List Int→List (List Int)→Int
 | dn,[]=>if dn.length<ps.length then 14 else 0
 | dn,t::r=>if tErr1 n ps dn t=0 then tErr n ps (dn++t) r else tErr1 n ps dn t
theorem ix0_mem {t:List Int} (h:0<t.length):ix t 0∈t:=by
 rw [show (0:Int)=((0:Nat):Int) from rfl,ix_nat h];exact List.getElem_mem _
theorem x67_l2_eq {ps:List (Int×Int)} {turns:List (List Int)} {s2:Int} {t:List Int} (ht:ix turns s2=t) (hr:∀ x∈t,0≤x∧x<(ps.length:Int)) (hl:t.length≤1000) (h0:0<t.length) {k:Unit→Option Int}:∀ (m i:Nat) (z:Int),z=i→i≤t.length→t.length-i<m→x67_l2 ps turns s2 k m z=if ((t.drop i).any fun x=>decide ((ix ps x).1≠(ix ps (ix t 0)).1))=true then some 24 else k ()
 | 0,i,_,_,_,h=>absurd h (by omega)
 | m+1,i,_,rfl,hi,hm=>by
   rw [x67_l2,ht]
   by_cases h:i<t.length
   ·have h1:=hr _ (List.getElem_mem h)
    have h2:=hr _ (ix0_mem h0)
    rw [iflt h,gdi h,ix_nat h,gd_pos h1,gd_pos ⟨by omega,by omega⟩,gd_pos h2,w_succ i (by omega),x67_l2_eq ht hr hl h0 m (i+1) _ rfl (by omega) (by omega),List.drop_eq_getElem_cons h,List.any_cons]
    by_cases h3:(ix ps t[i]).1=(ix ps (ix t 0)).1
    ·rw [show decide ((ix ps t[i]).1≠(ix ps (ix t 0)).1)=false from by simp [h3],if_neg (by decide),Bool.false_or]
    ·rw [show decide ((ix ps t[i]).1≠(ix ps (ix t 0)).1)=true from decide_eq_true h3,if_pos rfl,Bool.true_or,if_pos rfl]
   ·rw [ifge h,List.drop_eq_nil_of_le (by omega)];rfl
theorem x67_l3_eq {turns:List (List Int)} {s2:Int} {t s1:List Int} (ht:ix turns s2=t) (hs:s1.length≤140737488355328) (hl:t.length≤1000) {k:Unit→Option Int}:∀ (m i:Nat) (z:Int),z=i→i≤t.length→t.length-i<m→x67_l3 turns s1 s2 k m z=if ((t.drop i).any fun x=>decide (x∈s1))=true then some 16 else k ()
 | 0,i,_,_,_,h=>absurd h (by omega)
 | m+1,i,_,rfl,hi,hm=>by
   rw [x67_l3,ht]
   by_cases h:i<t.length
   ·rw [iflt h,gdi h,ix_nat h,x53_eq _ _ hs,Option.bind_some,w_succ i (by omega),x67_l3_eq ht hs hl m (i+1) _ rfl (by omega) (by omega),List.drop_eq_getElem_cons h,List.any_cons]
    by_cases h3:t[i]∈s1
    ·rw [decide_eq_true h3,if_pos rfl,Bool.true_or,if_pos rfl]
    ·rw [decide_eq_false h3,if_neg (by decide),Bool.false_or]
   ·rw [ifge h,List.drop_eq_nil_of_le (by omega)];rfl
theorem x67_l1_eq {b:Bed} {ps:List (Int×Int)} {turns:List (List Int)} {wl:List Int} (hw:x51 b=some wl) (hps:ps.length≤1000) (hts:turns.length≤1000) (hl:∀ t∈turns,t.length≤9223372036854775807) {k:List Int→Option Int} (hk:∀ z:List Int,k z=some (if z.length<ps.length then 14 else 0)):∀ (m i:Nat) (z:Int) (s1:List Int),z=i→i≤turns.length→turns.length-i<m→s1.length≤1000*i→x67_l1 b ps turns k m s1 z=some (tErr wl.length ps s1 (turns.drop i))
 | 0,i,_,_,_,_,h,_=>absurd h (by omega)
 | m+1,i,_,s1,rfl,hi,hm,hs=>by
   rw [x67_l1]
   by_cases h:i<turns.length
   ·have hlt:=hl _ (List.getElem_mem h)
    have ht:ix turns (i:Int)=turns[i]:=ix_nat h
    rw [List.drop_eq_getElem_cons h,tErr,iflt h,gdi h,ht]
    generalize turns[i]=t at hlt ht
    have hu:tErr1 wl.length ps s1 t=tErr1 wl.length ps s1 t:=rfl
    conv at hu=>rhs;unfold tErr1
    by_cases h0:t.length=0
    ·rw [if_pos h0] at hu
     rw [if_pos (decide_eq_true (by omega)),hu,if_neg (by decide)]
    rw [if_neg h0] at hu
    rw [if_neg (by rw [decide_eq_true_eq];omega),x62_eq hlt ⟨by omega,by omega⟩,Option.bind_some]
    by_cases h1:riseGo (ps.length:Int) 0 t=false
    ·rw [if_pos h1] at hu
     rw [if_neg (by simp [h1]),hu,if_neg (by decide)]
    rw [if_neg h1] at hu
    have h1:riseGo (ps.length:Int) 0 t=true:=by simpa using h1
    have hlt:t.length≤1000:=by have:=rise_len h1 (by omega);omega
    rw [if_pos h1,hw,Option.bind_some]
    by_cases h2:wl.length<t.length
    ·rw [if_pos h2] at hu
     rw [if_pos (decide_eq_true (by omega)),hu,if_neg (by decide)]
    rw [if_neg h2] at hu
    rw [if_neg (by rw [decide_eq_true_eq];omega),x67_l2_eq ht (rise_spec _ _ _ h1).1 hlt (by omega) FU 0 0 rfl (Nat.zero_le _) (FU_lt (by omega)),List.drop_zero]
    by_cases h3:(t.any fun x=>decide ((ix ps x).1≠(ix ps (ix t 0)).1))=true
    ·rw [if_pos h3] at hu
     rw [if_pos h3,hu,if_neg (by decide)]
    rw [if_neg h3] at hu
    rw [if_neg h3,x67_l3_eq ht (by omega) hlt FU 0 0 rfl (Nat.zero_le _) (FU_lt (by omega)),List.drop_zero]
    by_cases h4:(t.any fun x=>decide (x∈s1))=true
    ·rw [if_pos h4] at hu
     rw [if_pos h4,hu,if_neg (by decide)]
    rw [if_neg h4] at hu
    rw [if_neg h4,hu,if_pos rfl,gd_pos (by omega),w_succ i (by omega)]
    exact x67_l1_eq hw hps hts hl hk m (i+1) _ _ rfl (by omega) (by omega) (by rw [List.length_append];omega)
   ·rw [ifge h,List.drop_eq_nil_of_le (by omega),hk];rfl
theorem x67_eq {b:Bed} {ps:List (Int×Int)} {turns:List (List Int)} {wl:List Int} (hw:x51 b=some wl) (hps:ps.length≤1000) (hts:turns.length≤1000) (hl:∀ t∈turns,t.length≤9223372036854775807):x67 b ps turns=some (tErr wl.length ps [] turns):=by
 rw [x67,x67_l1_eq hw hps hts hl (fun z=>by
  by_cases h:z.length<ps.length
  ·rw [if_pos (decide_eq_true (by omega)),if_pos h]
  ·rw [if_neg (by rw [decide_eq_true_eq];omega),if_neg h]) FU 0 0 [] rfl (Nat.zero_le _) (FU_lt (by omega)) (by simp),List.drop_zero]
structure TOk (n:Nat) (ps:List (Int×Int)) (dn:List Int) (ts:List (List Int)):Prop where
 ne:∀ t∈ts,0<t.length
 rng:∀ t∈ts,∀ x∈t,0≤x∧x<(ps.length:Int)
 up:∀ t∈ts,t.Pairwise (·<·)
 len:∀ t∈ts,t.length≤n
 heat:∀ t∈ts,∀ x∈t,(ix ps x).1=heatT ps t
 nd:(dn++ts.flatten).Nodup
 all:ps.length≤(dn++ts.flatten).length
theorem tErr1_iff {n:Nat} {ps:List (Int×Int)} {dn t:List Int}:tErr1 n ps dn t=0↔0<t.length∧(∀ x∈t,0≤x∧x<(ps.length:Int))∧t.Pairwise (·<·)∧t.length≤n∧(∀ x∈t,(ix ps x).1=heatT ps t)∧∀ x∈t,x ∉ dn:=by
 unfold tErr1
 by_cases h0:t.length=0
 ·rw [if_pos h0];exact ⟨fun h=>(by cases h),fun h=>by omega⟩
 rw [if_neg h0]
 cases h1:riseGo (ps.length:Int) 0 t with
 | false =>
   rw [if_pos rfl]
   refine ⟨fun h=>(by cases h),fun h=>?_⟩
   rw [(rise_iff _ _).2 ⟨h.2.1,h.2.2.1⟩] at h1;cases h1
 | true =>
   have h1:=(rise_iff _ _).1 h1
   rw [if_neg (by decide)]
   by_cases h2:n<t.length
   ·rw [if_pos h2];exact ⟨fun h=>(by cases h),fun h=>by omega⟩
   rw [if_neg h2]
   by_cases h3:(t.any fun x=>decide ((ix ps x).1≠(ix ps (ix t 0)).1))=true
   ·rw [if_pos h3]
    refine ⟨fun h=>(by cases h),fun h=>?_⟩
    obtain ⟨x,hx,h4⟩:=List.any_eq_true.1 h3
    exact absurd (h.2.2.2.2.1 x hx) (of_decide_eq_true h4)
   rw [if_neg h3]
   by_cases h4:(t.any fun x=>decide (x∈dn))=true
   ·rw [if_pos h4]
    refine ⟨fun h=>(by cases h),fun h=>?_⟩
    obtain ⟨x,hx,h5⟩:=List.any_eq_true.1 h4
    exact absurd (of_decide_eq_true h5) (h.2.2.2.2.2 x hx)
   rw [if_neg h4]
   refine ⟨fun _=>⟨by omega,h1.1,h1.2,by omega,fun x hx=>?_,fun x hx hd=>?_⟩,fun _=>rfl⟩
   ·rcases Classical.em ((ix ps x).1=heatT ps t) with h | h
    ·exact h
    ·exact absurd (List.any_eq_true.2 ⟨x,hx,decide_eq_true h⟩) h3
   ·exact h4 (List.any_eq_true.2 ⟨x,hx,decide_eq_true hd⟩)
theorem tErr_iff {n:Nat} {ps:List (Int×Int)}:∀ (ts:List (List Int)) (dn:List Int),dn.Nodup→(tErr n ps dn ts=0↔TOk n ps dn ts)
 | [],dn,hd=>by
   rw [tErr]
   have e:dn++([]:List (List Int)).flatten=dn:=by simp
   by_cases h:dn.length<ps.length
   ·rw [if_pos h]
    refine ⟨fun h=>(by cases h),fun hT=>?_⟩
    have:=hT.all;rw [e] at this;omega
   ·rw [if_neg h]
    exact ⟨fun _=>⟨by simp,by simp,by simp,by simp,by simp,by rw [e];exact hd,by rw [e];omega⟩,fun _=>rfl⟩
 | t::r,dn,hd=>by
   rw [tErr]
   have e:dn++(t::r).flatten=(dn++t)++r.flatten:=by simp
   by_cases h1:tErr1 n ps dn t=0
   ·obtain ⟨a1,a2,a3,a4,a5,a6⟩:=tErr1_iff.1 h1
    have hd2:(dn++t).Nodup:=List.pairwise_append.2 ⟨hd,a3.imp fun h=>by omega,fun x hx y hy e=>a6 y hy (by rw [←e];exact hx)⟩
    rw [if_pos h1,tErr_iff r _ hd2]
    constructor
    ·intro h
     exact ⟨List.forall_mem_cons.2 ⟨a1,h.ne⟩,List.forall_mem_cons.2 ⟨a2,h.rng⟩,List.forall_mem_cons.2 ⟨a3,h.up⟩,List.forall_mem_cons.2 ⟨a4,h.len⟩,List.forall_mem_cons.2 ⟨a5,h.heat⟩,by rw [e];exact h.nd,by rw [e];exact h.all⟩
    ·intro h
     have nd:=h.nd
     have al:=h.all
     rw [e] at nd al
     exact ⟨(List.forall_mem_cons.1 h.ne).2,(List.forall_mem_cons.1 h.rng).2,(List.forall_mem_cons.1 h.up).2,(List.forall_mem_cons.1 h.len).2,(List.forall_mem_cons.1 h.heat).2,nd,al⟩
   ·rw [if_neg h1]
    refine ⟨fun h=>absurd h h1,fun h=>absurd (tErr1_iff.2 ?_) h1⟩
    have nd:=h.nd
    rw [e] at nd
    have nd2:=(List.pairwise_append.1 nd).1
    exact ⟨(List.forall_mem_cons.1 h.ne).1,(List.forall_mem_cons.1 h.rng).1,(List.forall_mem_cons.1 h.up).1,(List.forall_mem_cons.1 h.len).1,(List.forall_mem_cons.1 h.heat).1,fun x hx hxd=>(List.pairwise_append.1 nd2).2.2 x hxd x hx rfl⟩
def cntL (N:Nat) (dn:List Int):List Int:=(List.range N).map fun (i:Nat)=>if (i:Int)∈dn then 1 else 0
theorem cntL_len (N:Nat) (dn:List Int):(cntL N dn).length=N:=by simp [cntL]
theorem cntL_ix {N:Nat} {dn:List Int} {x:Int} (h:0≤x∧x<(N:Int)):ix (cntL N dn) x=if x∈dn then 1 else 0:=by
 rw [ix_of (by rw [cntL_len];exact h)]
 simp only [cntL,List.getElem_map,List.getElem_range]
 rw [show ((x.toNat:Nat):Int)=x by omega]
theorem cntL_set {N:Nat} {dn:List Int} {x:Int} (h:0≤x∧x<(N:Int)):(cntL N dn).set x.toNat 1=cntL N (dn++[x]):=by
 apply List.ext_getElem
 ·simp [cntL_len]
 ·intro i h1 h2
  rw [List.getElem_set]
  simp only [cntL,List.getElem_map,List.getElem_range]
  by_cases hi:x.toNat=i
  ·rw [if_pos hi,if_pos (by simp;omega)]
  ·rw [if_neg hi]
   have:((i:Int)∈dn++[x])↔((i:Int)∈dn):=by
    simp;intro e;omega
   simp only [this]
theorem cntL_nil (N:Nat):cntL N []=List.replicate N 0:=by
 apply List.ext_getElem
 ·simp [cntL_len]
 ·intro i h1 h2;simp [cntL]
theorem x65_l6_eq {ps:List (Int×Int)} {turns:List (List Int)} {s4:Int} {t dn:List Int} (ht:ix turns s4=t) (hr:∀ x∈t,0≤x∧x<(ps.length:Int)) (hu:t.Pairwise (·<·)) (hd:∀ x∈t,x ∉ dn) (hl:t.length≤1000) {k:List Int→Option (Option Bench×List (List Int×Int×Int)×Int)}:∀ (m i:Nat) (z:Int),z=i→i≤t.length→t.length-i<m→x65_l6 ps turns s4 k m z (cntL ps.length (dn++t.take i))=k (cntL ps.length (dn++t))
 | 0,i,_,_,_,h=>absurd h (by omega)
 | m+1,i,_,rfl,hi,hm=>by
   rw [x65_l6,ht]
   by_cases h:i<t.length
   ·have h1:=hr _ (List.getElem_mem h)
    have h2:t[i] ∉ dn++t.take i:=by
     rw [List.mem_append]
     rintro (h2 | h2)
     ·exact hd _ (List.getElem_mem h) h2
     ·obtain ⟨j,hj,e⟩:=List.mem_iff_getElem.1 h2
      rw [List.length_take] at hj
      rw [List.getElem_take] at e
      have:=List.pairwise_iff_getElem.1 hu j i (by omega) h (by omega)
      omega
    have hg:0≤t[i]∧t[i]<(((ps.length:Int).toNat:Nat):Int)∧(ps.length:Int).toNat=(cntL ps.length (dn++t.take i)).length:=⟨h1.1,by omega,by rw [cntL_len];omega⟩
    rw [iflt h,gdi h,ix_nat h,gd_pos hg,gd_pos hg,cntL_ix h1,if_neg h2,w_succ i (by omega),show w (0+1)=1 by decide,cntL_set h1]
    have ih:=x65_l6_eq ht hr hu hd hl (k:=k) m (i+1) _ rfl (by omega) (by omega)
    rw [take_snoc h,←List.append_assoc] at ih
    exact ih
   ·obtain rfl:i=t.length:=by omega
    rw [ifge h,List.take_length]
theorem x91_l1_eq {x:Bench} {t:List Int} {k:Int→Option Int} (hr:∀ y∈t,0≤y∧y<(x.2.1.length:Int)) (hl:t.length≤1000):∀ (m i:Nat) (z s:Int),z=i→i≤(t.drop 1).length→(t.drop 1).length-i<m→s∈t→∃ r,x91_l1 t (fun y0 y1=>x92 x y0 y1) k m s z=k r∧r∈t∧(ix x.2.1 r).2=maxL (ix x.2.1 s).2 (((t.drop 1).drop i).map fun y=>(ix x.2.1 y).2)
 | 0,i,_,_,_,_,h,_=>absurd h (by omega)
 | m+1,i,_,s,rfl,hi,hm,hs=>by
   rw [x91_l1,show ((1:Int).toNat)=1 from rfl]
   have hl2:(t.drop 1).length≤1000:=by rw [List.length_drop];omega
   by_cases h:i<(t.drop 1).length
   ·have hm1:(t.drop 1)[i]∈t:=List.mem_of_mem_drop (List.getElem_mem h)
    have e:x92 x (t.drop 1)[i] s=some (decide ((ix x.2.1 s).2<(ix x.2.1 (t.drop 1)[i]).2)):=by
     rw [x92,gd_pos (hr _ hm1),gd_pos (hr _ hs)]
    have e2:∀ a:Int,maxL a (((t.drop 1).drop i).map fun y=>(ix x.2.1 y).2)=maxL (max a (ix x.2.1 (t.drop 1)[i]).2) (((t.drop 1).drop (i+1)).map fun y=>(ix x.2.1 y).2):=fun a=>by
     rw [List.drop_eq_getElem_cons h];rfl
    rw [iflt h,gdi h,ix_nat h]
    simp only [e,Option.bind_some,w_succ i (by omega)]
    by_cases hb:(ix x.2.1 s).2<(ix x.2.1 (t.drop 1)[i]).2
    ·rw [if_pos (decide_eq_true hb)]
     obtain ⟨r,h1,h2,h3⟩:=x91_l1_eq hr hl m (i+1) _ _ rfl (by omega) (by omega) hm1 (k:=k)
     refine ⟨r,h1,h2,?_⟩
     rw [h3,e2,show max (ix x.2.1 s).2 (ix x.2.1 (t.drop 1)[i]).2=(ix x.2.1 (t.drop 1)[i]).2 by omega]
    ·rw [if_neg (by simpa using hb)]
     obtain ⟨r,h1,h2,h3⟩:=x91_l1_eq hr hl m (i+1) _ _ rfl (by omega) (by omega) hs (k:=k)
     refine ⟨r,h1,h2,?_⟩
     rw [h3,e2,show max (ix x.2.1 s).2 (ix x.2.1 (t.drop 1)[i]).2=(ix x.2.1 s).2 by omega]
   ·rw [ifge h,List.drop_eq_nil_of_le (by omega)]
    exact ⟨s,rfl,hs,rfl⟩
theorem x91_eq {x:Bench} {t:List Int} (hr:∀ y∈t,0≤y∧y<(x.2.1.length:Int)) (hh:hrsOk x.2.1) (hl:t.length≤1000) (h0:0<t.length):∃ r,x91 t (fun y0 y1=>x92 x y0 y1)=some r∧r∈t∧(ix x.2.1 r).2=hourT x.2.1 t:=by
 obtain ⟨r,h1,h2,h3⟩:=x91_l1_eq hr hl (k:=fun z=>some z) FU 0 0 (ix t 0) rfl (Nat.zero_le _) (FU_lt (by rw [List.length_drop];omega)) (ix0_mem h0)
 refine ⟨r,?_,h2,?_⟩
 ·rw [x91,gd_pos ⟨by omega,by omega⟩,gd_pos ⟨by omega,by omega⟩];exact h1
 ·have hm:=hr _ (ix0_mem h0)
  have h4:=hh _ (show ix x.2.1 (ix t 0)∈x.2.1 by rw [ix_of hm];exact List.getElem_mem _)
  rw [h3,List.drop_zero]
  cases t with
  | nil=>cases h0
  | cons a t =>
    show _=maxL (max 0 (ix x.2.1 a).2) (t.map fun y=>(ix x.2.1 y).2)
    have:ix (a::t) 0=a:=rfl
    rw [this] at h4 ⊢
    rw [show max 0 (ix x.2.1 a).2=(ix x.2.1 a).2 by omega];rfl
def tRows (ps:List (Int×Int)):Int→List (List Int)→List (List Int×Int×Int)
 | _,[]=>[]
 | last,t::r=>(t,hourT ps t,farD last (heatT ps t))::tRows ps (heatT ps t) r
theorem x65_l3_eq {ps:List (Int×Int)} {turns:List (List Int)} {p1:Bench} (hp1:p1.2.1=ps) (hp:PsOk ps) (hts:turns.length≤1000) (hl:∀ t∈turns,t.length≤9223372036854775807) {k:List (List Int×Int×Int)→Int→Option (Option Bench×List (List Int×Int×Int)×Int)} (hk:∀ z (c:Nat),k z (c:Int)=some (if c<ps.length then (none,[],14) else (some p1,z,0))):∀ (m i:Nat) (z:Int) (s1:List (List Int×Int×Int)) (s2:Int) (dn:List Int),z=i→i≤turns.length→turns.length-i<m→s1.length≤i→dn.length≤1000*i→x65_l3 ps turns p1 k m s1 s2 (dn.length:Int) z (cntL ps.length dn)=some (if tErr p1.2.2.1.length ps dn (turns.drop i)=0 then (some p1,s1++tRows ps s2 (turns.drop i),0) else (none,[],tErr p1.2.2.1.length ps dn (turns.drop i)))
 | 0,i,_,_,_,_,_,_,h,_,_=>absurd h (by omega)
 | m+1,i,_,s1,s2,dn,rfl,hi,hm,hs,hd=>by
   have hpl:=hp.len
   rw [x65_l3]
   by_cases h:i<turns.length
   ·have hlt:=hl _ (List.getElem_mem h)
    have ht:ix turns (i:Int)=turns[i]:=ix_nat h
    rw [List.drop_eq_getElem_cons h,iflt h,gdi h,ht]
    generalize turns[i]=t at hlt ht
    have hc:tErr p1.2.2.1.length ps dn (t::turns.drop (i+1))=if tErr1 p1.2.2.1.length ps dn t=0 then tErr p1.2.2.1.length ps (dn++t) (turns.drop (i+1)) else tErr1 p1.2.2.1.length ps dn t:=rfl
    have hu:tErr1 p1.2.2.1.length ps dn t=tErr1 p1.2.2.1.length ps dn t:=rfl
    conv at hu=>rhs;unfold tErr1
    by_cases h0:t.length=0
    ·rw [if_pos h0] at hu
     rw [if_pos (decide_eq_true (by omega)),x65_j4,if_pos rfl]
     rw [hu,if_neg (by decide)] at hc
     rw [hc,if_neg (by decide)]
    rw [if_neg h0] at hu
    rw [if_neg (by rw [decide_eq_true_eq];omega),x61_eq hlt ⟨by omega,by omega⟩,Option.bind_some,x65_j4,ht]
    by_cases h1:riseGo (ps.length:Int) 0 t=false
    ·rw [if_pos h1] at hu
     rw [if_pos (by simp [h1])]
     rw [hu,if_neg (by decide)] at hc
     rw [hc,if_neg (by decide)]
    rw [if_neg h1] at hu
    have h1:riseGo (ps.length:Int) 0 t=true:=by simpa using h1
    have hlt:t.length≤1000:=by have:=rise_len h1 (by omega);omega
    rw [if_neg (by simp [h1])]
    have hr:=(rise_spec _ _ _ h1).1
    have hup:=(rise_spec _ _ _ h1).2
    have hg0:=hr _ (ix0_mem (t:=t) (by omega))
    by_cases h2:p1.2.2.1.length<t.length
    ·rw [if_pos h2] at hu
     rw [if_pos (decide_eq_true (by omega))]
     rw [hu,if_neg (by decide)] at hc
     rw [hc,if_neg (by decide)]
    rw [if_neg h2] at hu
    have e3:x86 t (fun y0=>x89 y0 ps t)=some (t.any fun x=>decide ((ix ps x).1≠(ix ps (ix t 0)).1)):=x86_eq (fun x hx=>by rw [x89,gd_pos (hr x hx),gd_pos ⟨by omega,by omega⟩,gd_pos hg0]) (by omega)
    rw [if_neg (by rw [decide_eq_true_eq];omega),e3,Option.bind_some]
    by_cases h3:(t.any fun x=>decide ((ix ps x).1≠(ix ps (ix t 0)).1))=true
    ·rw [if_pos h3] at hu
     rw [if_pos h3]
     rw [hu,if_neg (by decide)] at hc
     rw [hc,if_neg (by decide)]
    rw [if_neg h3] at hu
    have e4:x86 t (fun y0=>x90 y0 (cntL ps.length dn))=some (t.any fun x=>decide (x∈dn)):=x86_eq (fun x hx=>by
     rw [x90,gd_pos (by rw [cntL_len];exact hr x hx),cntL_ix (hr x hx)]
     by_cases hx2:x∈dn <;> simp [hx2]) (by omega)
    rw [if_neg h3,gd_pos (by rw [cntL_len];omega),e4,Option.bind_some]
    by_cases h4:(t.any fun x=>decide (x∈dn))=true
    ·rw [if_pos h4] at hu
     rw [if_pos h4]
     rw [hu,if_neg (by decide)] at hc
     rw [hc,if_neg (by decide)]
    rw [if_neg h4] at hu
    have hdis:∀ x∈t,x ∉ dn:=fun x hx hxd=>h4 (List.any_eq_true.2 ⟨x,hx,decide_eq_true hxd⟩)
    rw [hu,if_pos rfl] at hc
    rw [if_neg h4,hc,x65_j5,ht]
    have e6:=x65_l6_eq (ps:=ps) (dn:=dn) ht hr hup hdis hlt (k:=fun z1 =>
     gd (0≤(0:Int)∧(0:Int)<((ix turns (i:Int)).length:Int)) <|
     gd (0≤(ix (ix turns (i:Int)) (0:Int))∧(ix (ix turns (i:Int)) (0:Int))<(ps.length:Int)) <|
     (x91 (ix turns (i:Int)) (fun y0 y1=>x92 p1 y0 y1)).bind fun r5 =>
     gd (0≤r5∧r5<(ps.length:Int)) <|
     (x93 s2 ((ix ps (ix (ix turns (i:Int)) (0:Int))).1)).bind fun r6 =>
     gd ((s1.length+1)*40≤140737488355328) <|
     x65_l3 ps turns p1 k m (s1++[((ix turns (i:Int)),(ix ps r5).2,r6)]) ((ix ps (ix (ix turns (i:Int)) (0:Int))).1) (w ((dn.length:Int)+((ix turns (i:Int)).length:Int))) (w ((i:Int)+(1:Int))) z1) FU 0 0 rfl (Nat.zero_le _) (FU_lt (by omega))
    rw [List.take_zero,List.append_nil] at e6
    rw [ht] at e6
    refine e6.trans ?_
    obtain ⟨r5,f1,f2,f3⟩:=x91_eq (x:=p1) (t:=t) (by rw [hp1];exact hr) (by rw [hp1];exact hp.hrs) hlt (by omega)
    rw [hp1] at f3
    have e7:x93 s2 (ix ps (ix t 0)).1=some (farD s2 (heatT ps t)):=rfl
    rw [gd_pos ⟨by omega,by omega⟩,gd_pos hg0,f1,Option.bind_some,gd_pos (hr _ f2),e7,Option.bind_some,gd_pos (by omega),f3,w_succ i (by omega),w_id (by omega)]
    have ih:=x65_l3_eq hp1 hp hts hl hk m (i+1) _ (s1++[(t,hourT ps t,farD s2 (heatT ps t))]) (heatT ps t) (dn++t) rfl (by omega) (by omega) (by rw [List.length_append];simp;omega) (by rw [List.length_append];omega)
    rw [List.length_append,Int.natCast_add,List.append_assoc] at ih
    exact ih
   ·rw [ifge h,List.drop_eq_nil_of_le (by omega),hk,tErr]
    by_cases hd:dn.length<ps.length
    ·rw [if_pos hd,if_pos hd,if_neg (by decide)]
    ·rw [if_neg hd,if_neg hd,if_pos rfl,tRows,List.append_nil]
theorem x65_eq {b:Bed} (hb:bErr b=0) (hl:b.2.1.length≤20) {ps:List (Int×Int)} (hp:PsOk ps) {turns:List (List Int)} (hts:turns.length≤1000) (ht:∀ t∈turns,t.length≤9223372036854775807):x65 b ps turns=some (if tErr (wn b) ps [] turns=0 then (some (b,ps,wholeL b.1.toNat b.2.1,wantL ps),tRows ps b.2.2.1 turns,0) else (none,[],tErr (wn b) ps [] turns)):=by
 have hpl:=hp.len
 have:=x65_l3_eq (p1:=(b,ps,wholeL b.1.toNat b.2.1,wantL ps)) rfl hp hts ht (k:=fun z4 z5 =>
       if (decide (z5<(ps.length:Int)))=true then
        some (none,[],(14:Int))
       else
        some ((some (b,ps,wholeL b.1.toNat b.2.1,wantL ps)),z4,(0:Int))) (fun z c=>by
  by_cases h:c<ps.length
  ·rw [if_pos (decide_eq_true (by omega)),if_pos h]
  ·rw [if_neg (by rw [decide_eq_true_eq];omega),if_neg h]) FU 0 0 [] b.2.2.1 [] rfl (Nat.zero_le _) (FU_lt (by omega)) (by simp) (by simp)
 rw [List.drop_zero,cntL_nil] at this
 rw [x65,x69_eq hb hl hp,Option.bind_some]
 show (if (decide ((0:Int)≠(0:Int)))=true then _ else _)=_
 rw [if_neg (by decide),gd_pos ⟨by omega,by omega,by omega⟩]
 exact this
theorem x65_err {b:Bed} (hl:b.2.1.length≤1000) {ps:List (Int×Int)} (he:eB b ps≠0) (turns:List (List Int)):x65 b ps turns=some (none,[],eB b ps):=by
 rw [x65,x69_err hl he,Option.bind_some]
 exact if_pos (decide_eq_true he)
def tHours (ps:List (Int×Int)) (ts:List (List Int)):Int:=(ts.map (hourT ps)).sum
theorem x26_l1_eq {R:List (List Int×Int×Int)} {e:Int} (hl:R.length≤1000) (hr:∀ r∈R,(0≤r.2.1∧r.2.1≤1000)∧(0≤r.2.2∧r.2.2≤1000)) {k:Int→Int→Option (Int×Int×Int)}:∀ (m i:Nat) (z s t:Int),z=i→i≤R.length→R.length-i<m→0≤s∧s≤1000*i→0≤t∧t≤1000*i→x26_l1 (R,e) k m s t z=k (s+((R.drop i).map (·.2.1)).sum) (t+((R.drop i).map (·.2.2)).sum)
 | 0,i,_,_,_,_,_,h,_,_=>absurd h (by omega)
 | m+1,i,_,s,t,rfl,hi,hm,hs,ht=>by
   rw [x26_l1]
   by_cases h:i<R.length
   ·have h1:=hr _ (List.getElem_mem h)
    show (if (decide ((i:Int)<(R.length:Int)))=true then gd (0≤(i:Int)∧(i:Int)<(R.length:Int)) (x26_l1 (R,e) k m (w (s+(ix R (i:Int)).2.1)) (w (t+(ix R (i:Int)).2.2)) (w ((i:Int)+1))) else k s t)=_
    rw [iflt h,gdi h,ix_nat h,w_succ i (by omega),w_id (n:=s+_) (by omega),w_id (n:=t+_) (by omega),x26_l1_eq hl hr m (i+1) _ _ _ rfl (by omega) (by omega) (by omega) (by omega),List.drop_eq_getElem_cons h,List.map_cons,List.map_cons,List.sum_cons,List.sum_cons,Int.add_assoc,Int.add_assoc]
   ·show (if (decide ((i:Int)<(R.length:Int)))=true then gd (0≤(i:Int)∧(i:Int)<(R.length:Int)) (x26_l1 (R,e) k m (w (s+(ix R (i:Int)).2.1)) (w (t+(ix R (i:Int)).2.2)) (w ((i:Int)+1))) else k s t)=_
    rw [ifge h,List.drop_eq_nil_of_le (by omega)]
    show k s t=k (s+0) (t+0)
    rw [Int.add_zero,Int.add_zero]
theorem ixps_mem {ps:List (Int×Int)} {x:Int} (h:0≤x∧x<(ps.length:Int)):ix ps x∈ps:=by rw [ix_of h];exact List.getElem_mem _
theorem hourT_in {ps:List (Int×Int)} (hp:hrsOk ps) {t:List Int} (hr:∀ x∈t,0≤x∧x<(ps.length:Int)):0≤hourT ps t∧hourT ps t≤24:=by
 have h1:=maxL_spec (t.map fun x=>(ix ps x).2) 0
 unfold hourT
 refine ⟨h1.1,?_⟩
 rcases h1.2.2 with h | h
 ·rw [h];omega
 ·obtain ⟨x,hx,e⟩:=List.mem_map.1 h
  have:=hp _ (ixps_mem (hr x hx))
  rw [←e];exact this.2
theorem heatT_in {ps:List (Int×Int)} (hp:PsOk ps) {t:List Int} (h0:0<t.length) (hr:∀ x∈t,0≤x∧x<(ps.length:Int)):0≤heatT ps t∧heatT ps t≤20:=hp.heat _ (ixps_mem (hr _ (ix0_mem h0)))
theorem tRows_len (ps:List (Int×Int)):∀ (ts:List (List Int)) (s:Int),(tRows ps s ts).length=ts.length
 | [],_=>rfl
 | t::r,s=>by rw [tRows,List.length_cons,List.length_cons,tRows_len ps r]
theorem tRows_hours (ps:List (Int×Int)):∀ (ts:List (List Int)) (s:Int),((tRows ps s ts).map (·.2.1)).sum=tHours ps ts
 | [],_=>rfl
 | t::r,s=>by rw [tRows,List.map_cons,List.sum_cons,tRows_hours ps r];rfl
theorem tRows_way {ps:List (Int×Int)} (hp:PsOk ps):∀ (ts:List (List Int)) (s:Int),(∀ t∈ts,0<t.length)→(∀ t∈ts,∀ x∈t,0≤x∧x<(ps.length:Int))→0≤s∧s≤20→((tRows ps s ts).map (·.2.2)).sum=walk s (ts.map (heatT ps))∧∀ r∈tRows ps s ts,(0≤r.2.1∧r.2.1≤1000)∧(0≤r.2.2∧r.2.2≤1000)
 | [],_,_,_,_=>⟨rfl,by simp [tRows]⟩
 | t::r,s,h0,hr,hs=>by
   have a1:=(List.forall_mem_cons.1 h0).1
   have a2:=(List.forall_mem_cons.1 hr).1
   have h1:=heatT_in hp a1 a2
   have h2:=hourT_in hp.hrs a2
   obtain ⟨i1,i2⟩:=tRows_way hp r (heatT ps t) (List.forall_mem_cons.1 h0).2 (List.forall_mem_cons.1 hr).2 h1
   have h3:=farD_eq (a:=s) (b:=heatT ps t) (by omega) (by omega)
   constructor
   ·rw [tRows,List.map_cons,List.sum_cons,i1,List.map_cons,walk,h3]
   ·rw [tRows]
    refine List.forall_mem_cons.2 ⟨?_,i2⟩
    dsimp only
    rw [h3]
    omega
def tAns (b:Bed) (ps:List (Int×Int)) (ts:List (List Int)):Int×Int×Int :=
 if eB b ps=0 then if tErr (wn b) ps [] ts=0 then (tHours ps ts,walk b.2.2.1 (ts.map (heatT ps)),0) else (0,0,tErr (wn b) ps [] ts) else (0,0,eB b ps)
theorem nil_nodup:([]:List Int).Nodup:=List.Pairwise.nil
theorem x26_eq {b:Bed} (hl:b.2.1.length≤20) {ps:List (Int×Int)} {turns:List (List Int)} (hts:turns.length≤1000) (ht:∀ t∈turns,t.length≤9223372036854775807):x26 b ps turns=some (tAns b ps turns):=by
 rw [x26]
 unfold tAns
 by_cases he:eB b ps=0
 ·obtain ⟨hb,hp⟩:=eB_ok he
  have hB:=bedOk hb
  rw [if_pos he,x65_eq hb hl hp hts ht,Option.bind_some]
  by_cases hT:tErr (wn b) ps [] turns=0
  ·have hO:=(tErr_iff turns [] nil_nodup).1 hT
   obtain ⟨i1,i2⟩:=tRows_way hp turns b.2.2.1 hO.ne hO.rng hB.h0
   rw [if_pos hT,if_pos hT]
   have:=x26_l1_eq (R:=tRows ps b.2.2.1 turns) (e:=0) (by rw [tRows_len];exact hts) i2 (k:=fun z3 z4=>some (z3,z4,0)) FU 0 0 0 0 rfl (Nat.zero_le _) (FU_lt (by rw [tRows_len];omega)) (by omega) (by omega)
   rw [List.drop_zero,i1,tRows_hours,Int.zero_add,Int.zero_add] at this
   exact this
  ·rw [if_neg hT,if_neg hT]
   exact x26_l1_eq (R:=[]) (e:=tErr (wn b) ps [] turns) (by simp) (by simp) (k:=fun z3 z4=>some (z3,z4,tErr (wn b) ps [] turns)) FU 0 0 0 0 rfl (Nat.zero_le _) (FU_lt (by simp)) (by omega) (by omega)
 ·rw [if_neg he,x65_err (by omega) he,Option.bind_some]
  exact x26_l1_eq (R:=[]) (e:=eB b ps) (by simp) (by simp) (k:=fun z3 z4=>some (z3,z4,eB b ps)) FU 0 0 0 0 rfl (Nat.zero_le _) (FU_lt (by simp)) (by omega) (by omega)
theorem x68_l1_eq {ps:List (Int×Int)} {t:List Int} (hr:∀ x∈t,0≤x∧x<(ps.length:Int)) (hl:t.length≤1000) {k:Int→Option Int}:∀ (m i:Nat) (z s:Int),z=i→i≤t.length→t.length-i<m→x68_l1 ps t k m s z=k (maxL s ((t.drop i).map fun x=>(ix ps x).2))
 | 0,i,_,_,_,_,h=>absurd h (by omega)
 | m+1,i,_,s,rfl,hi,hm=>by
   rw [x68_l1]
   by_cases h:i<t.length
   ·rw [iflt h,gdi h,ix_nat h,gd_pos (hr _ (List.getElem_mem h)),w_succ i (by omega),x68_l1_eq hr hl m (i+1) _ _ rfl (by omega) (by omega),List.drop_eq_getElem_cons h];rfl
   ·rw [ifge h,List.drop_eq_nil_of_le (by omega)];rfl
theorem x68_eq {ps:List (Int×Int)} {t:List Int} (hr:∀ x∈t,0≤x∧x<(ps.length:Int)) (hl:t.length≤1000):x68 ps t=some (hourT ps t):=by
 rw [x68,x68_l1_eq hr hl FU 0 0 0 rfl (Nat.zero_le _) (FU_lt (by omega)),List.drop_zero];rfl
theorem x27_l1_eq {ps:List (Int×Int)} (hp:PsOk ps) {turns:List (List Int)} (hts:turns.length≤1000) (hl:∀ t∈turns,t.length≤1000) (h0:∀ t∈turns,0<t.length) (hr:∀ t∈turns,∀ x∈t,0≤x∧x<(ps.length:Int)) {k:Int→Int→Option (Int×Int×Int)}:∀ (m i:Nat) (z s1 s2 s3:Int),z=i→i≤turns.length→turns.length-i<m→0≤s1∧s1≤1000*i→0≤s2∧s2≤1000*i→0≤s3∧s3≤20→x27_l1 ps turns k m s1 s2 s3 z=k (s1+tHours ps (turns.drop i)) (s2+walk s3 ((turns.drop i).map (heatT ps)))
 | 0,i,_,_,_,_,_,_,h,_,_,_=>absurd h (by omega)
 | m+1,i,_,s1,s2,s3,rfl,hi,hm,hs1,hs2,hs3=>by
   rw [x27_l1]
   by_cases h:i<turns.length
   ·have hm:=List.getElem_mem h
    have a0:=h0 _ hm
    have ar:=hr _ hm
    have h1:=heatT_in hp a0 ar
    have h2:=hourT_in hp.hrs ar
    have h3:=farD_eq (a:=s3) (b:=heatT ps turns[i]) (by omega) (by omega)
    have e:x52 s3 (ix ps (ix turns[i] 0)).1=some (farD s3 (heatT ps turns[i])):=rfl
    rw [iflt h,gdi h,ix_nat h,gd_pos ⟨by omega,by omega⟩,gd_pos (ar _ (ix0_mem a0)),gdi h,x68_eq ar (hl _ hm),Option.bind_some,e,Option.bind_some,h3,w_succ i (by omega),w_id (n:=s1+_) (by omega),w_id (n:=s2+_) (by omega)]
    show x27_l1 ps turns k m _ _ (heatT ps turns[i]) _=_
    rw [x27_l1_eq hp hts hl h0 hr m (i+1) _ _ _ _ rfl (by omega) (by omega) (by omega) (by omega) h1,List.drop_eq_getElem_cons h,List.map_cons,walk,←Int.add_assoc]
    unfold tHours
    rw [List.map_cons,List.sum_cons,←Int.add_assoc]
   ·rw [ifge h,List.drop_eq_nil_of_le (by omega)]
    show k s1 s2=k (s1+0) (s2+0)
    rw [Int.add_zero,Int.add_zero]
theorem x27_eq {b:Bed} (hl:b.2.1.length≤20) {ps:List (Int×Int)} {turns:List (List Int)} (hts:turns.length≤1000) (ht:∀ t∈turns,t.length≤9223372036854775807):x27 b ps turns=some (tAns b ps turns):=by
 rw [x27,x66_eB hl,Option.bind_some]
 unfold tAns
 by_cases he:eB b ps=0
 ·obtain ⟨hb,hp⟩:=eB_ok he
  have hB:=bedOk hb
  have hpl:=hp.len
  have h1:=hB.o1;have h10:=hB.o10
  have e67:x67 b ps turns=some (tErr (wn b) ps [] turns):=x67_eq (x51_eq b (by omega) (by omega)) (by omega) hts ht
  rw [if_pos he,if_neg (by simp [he]),e67,Option.bind_some]
  by_cases hT:tErr (wn b) ps [] turns=0
  ·have hO:=(tErr_iff turns [] nil_nodup).1 hT
   rw [if_pos hT,if_neg (by simp [hT])]
   have:=x27_l1_eq hp hts (fun t ht=>by have:=rise_len ((rise_iff _ _).2 ⟨hO.rng t ht,hO.up t ht⟩) (by omega);omega) hO.ne hO.rng (k:=fun z1 z2=>some (z1,z2,(0:Int))) FU 0 0 0 0 b.2.2.1 rfl (Nat.zero_le _) (FU_lt (by omega)) (by omega) (by omega) hB.h0
   rw [List.drop_zero,Int.zero_add,Int.zero_add] at this
   exact this
  ·rw [if_neg hT,if_pos (decide_eq_true hT),Option.bind_some]
 ·rw [if_neg he,if_pos (decide_eq_true he),Option.bind_some]
end Go.Proofs.YtbnbjjgagikobaaGreat.Ab
