
import Derived.Test.YtbnbjjgagikobaaGreatJf7
import Derived.Test.YtbnbjjgagikobaaGreatJf5
import Derived.Test.YtbnbjjgagikobaaGreatJf6
import Derived.KernelRfl
set_option linter.unusedSimpArgs false
set_option linter.unusedVariables false
set_option linter.unusedSectionVars false

namespace Go.Proofs.YtbnbjjgagikobaaGreat.Ab
open Go
set_option maxRecDepth 20000
set_option maxHeartbeats 4000000
def asB (ps:List (Int×Int)) (one:Int) (b:Bool) (x:Int):Bool:=decide ((ix ps x).1=(ix ps one).1) && decide ((ix ps one).2≤(ix ps x).2) && (!b || decide ((ix ps one).2<(ix ps x).2) || decide (x<one))
theorem x82_step {ps:List (Int×Int)} {M:List Int} {one:Int} {b:Bool} {k:Int→Option Int} {m i:Nat} (h:i<M.length) (hr:0≤M[i]∧M[i]<(ps.length:Int)) (ho:0≤one∧one<(ps.length:Int)) (s:Int) :
  x82_l1 ps M one b k (m+1) s (i:Int)=x82_l1 ps M one b k m (if asB ps one b M[i]=true then w (s+1) else s) (w ((i:Int)+1)):=by
 rw [x82_l1,iflt h,gdi h,ix_nat h,gd_pos hr,gd_pos ho]
 unfold asB
 by_cases h1:(ix ps M[i]).1=(ix ps one).1
 ·rw [if_neg (by simp [h1]),gd_pos ho,decide_eq_true h1,Bool.true_and]
  by_cases h2:(ix ps M[i]).2<(ix ps one).2
  ·rw [if_pos (decide_eq_true h2),decide_eq_false (by omega),Bool.false_and];rfl
  ·rw [if_neg (by simpa using h2),decide_eq_true (show (ix ps one).2≤(ix ps M[i]).2 by omega),Bool.true_and]
   cases b with
   | false=>rfl
   | true =>
     rw [if_pos rfl,gd_pos ho]
     by_cases h3:(ix ps one).2<(ix ps M[i]).2
     ·rw [if_pos (decide_eq_true h3),decide_eq_true h3];rfl
     ·rw [if_neg (by simpa using h3),gdi h,decide_eq_false h3]
      by_cases h4:M[i]<one
      ·rw [if_pos (decide_eq_true h4),decide_eq_true h4];rfl
      ·rw [if_neg (by simpa using h4),decide_eq_false h4];rfl
 ·rw [if_pos (decide_eq_true h1),decide_eq_false h1];rfl
theorem x82_l1_eq {ps:List (Int×Int)} {M:List Int} {one:Int} {b:Bool} {k:Int→Option Int} (hr:∀ x∈M,0≤x∧x<(ps.length:Int)) (ho:0≤one∧one<(ps.length:Int)) (hl:M.length≤1000):∀ (m i:Nat) (z:Int) (c:Nat),z=i→i≤M.length→M.length-i<m→c≤i→x82_l1 ps M one b k m (c:Int) z=k ((c+(M.drop i).countP (asB ps one b):Nat):Int)
 | 0,i,_,_,_,_,h,_=>absurd h (by omega)
 | m+1,i,_,c,rfl,hi,hm,hc=>by
   by_cases h:i<M.length
   ·rw [x82_step h (hr _ (List.getElem_mem h)) ho,w_succ i (by omega),List.drop_eq_getElem_cons h]
    by_cases hb:asB ps one b M[i]=true
    ·rw [if_pos hb,w_succ c (by omega),x82_l1_eq hr ho hl m (i+1) _ (c+1) rfl (by omega) (by omega) (by omega),List.countP_cons_of_pos hb,Nat.add_assoc,Nat.add_comm 1]
    ·rw [if_neg hb,x82_l1_eq hr ho hl m (i+1) _ c rfl (by omega) (by omega) (by omega),List.countP_cons_of_neg hb]
   ·obtain rfl:i=M.length:=by omega
    rw [x82_l1,ifge h,List.drop_length];rfl
theorem x82_eq {ps:List (Int×Int)} {M:List Int} {one:Int} {b:Bool} (hr:∀ x∈M,0≤x∧x<(ps.length:Int)) (ho:0≤one∧one<(ps.length:Int)) (hl:M.length≤1000):x82 ps M one b=some ((M.countP (asB ps one b):Nat):Int):=by
 have:=x82_l1_eq (b:=b) (k:=fun z=>some z) hr ho hl FU 0 0 0 rfl (Nat.zero_le _) (FU_lt (by omega)) (Nat.le_refl _)
 rw [List.drop_zero,Nat.zero_add] at this
 exact this
theorem x83_l1_eq {ps:List (Int×Int)} (hl:ps.length≤1000) {k:List Int→Option (List Int)}:∀ (m i:Nat) (z:Int),z=i→i≤ps.length→ps.length-i<m→x83_l1 ps k m ((List.range i).map fun (i:Nat)=>(i:Int)) z=k ((List.range ps.length).map fun (i:Nat)=>(i:Int))
 | 0,i,_,_,_,h=>absurd h (by omega)
 | m+1,i,_,rfl,hi,hm=>by
   rw [x83_l1]
   by_cases h:i<ps.length
   ·have ih:=x83_l1_eq hl (k:=k) m (i+1) _ rfl (by omega) (by omega)
    rw [List.range_succ,List.map_append] at ih
    rw [iflt h,gd_pos (by rw [List.length_map,List.length_range];omega),w_succ i (by omega)]
    exact ih
   ·obtain rfl:i=ps.length:=by omega
    rw [ifge h]
theorem x83_eq {ps:List (Int×Int)} (hl:ps.length≤1000):x83 ps=some ((List.range ps.length).map fun (i:Nat)=>(i:Int)) :=
 x83_l1_eq hl FU 0 0 rfl (Nat.zero_le _) (FU_lt (by omega))
theorem as_all (ps:List (Int×Int)) (one:Int):((List.range ps.length).map fun (i:Nat)=>(i:Int)).countP (asB ps one false)=cP ps (ix ps one).1 (ix ps one).2:=by
 rw [cP_ix]
 exact List.countP_congr fun x _=>by simp [asB]
def markBad (n:Nat) (ps:List (Int×Int)) (M:List Int) (m:Int):Bool:=decide (cP ps (ix ps m).1 (ix ps m).2≤M.countP (asB ps m true)*n)
def hoursM (ps:List (Int×Int)) (l:List Int):Int:=(l.map fun x=>(ix ps x).2).sum
theorem x39_l1_eq {ps:List (Int×Int)} (hp:PsOk ps) {M wl:List Int} (hr:∀ x∈M,0≤x∧x<(ps.length:Int)) (hl:M.length≤1000) (hw:wl.length≤10) {k:Int→Option (Int×Int)}:∀ (m i:Nat) (z s:Int),z=i→i≤M.length→M.length-i<m→0≤s∧s≤24*i→x39_l1 ps M wl k m s z=if (M.drop i).any (markBad wl.length ps M)=true then some (0,14) else k (s+hoursM ps (M.drop i))
 | 0,i,_,_,_,_,h,_=>absurd h (by omega)
 | m+1,i,_,s,rfl,hi,hm,hs=>by
   have hpl:=hp.len
   rw [x39_l1]
   by_cases h:i<M.length
   ·have h1:=hr _ (List.getElem_mem h)
    have hu:∀ x∈(List.range ps.length).map (fun (i:Nat)=>(i:Int)),0≤x∧x<(ps.length:Int):=fun x hx=>by
     obtain ⟨j,hj,rfl⟩:=List.mem_map.1 hx
     have:j<ps.length:=by simpa using hj
     omega
    have hc:M.countP (asB ps M[i] true)≤M.length:=List.countP_le_length
    have hm1:M.countP (asB ps M[i] true)*wl.length≤1000*10:=Nat.mul_le_mul (by omega) hw
    have hh:=hp.hour _ (ixps_mem h1)
    rw [iflt h,gdi h,ix_nat h,x82_eq hr h1 hl,Option.bind_some,x83_eq (by omega),Option.bind_some,gdi h,x82_eq hu h1 (by simp;omega),Option.bind_some,as_all,←Int.natCast_mul,w_id (n:=((M.countP (asB ps M[i] true)*wl.length:Nat):Int)) (by omega),w_id (n:=((M.countP (asB ps M[i] true)*wl.length:Nat):Int)+1) (by omega),List.drop_eq_getElem_cons h,List.any_cons]
    by_cases hb:cP ps (ix ps M[i]).1 (ix ps M[i]).2≤M.countP (asB ps M[i] true)*wl.length
    ·rw [if_pos (decide_eq_true (by omega)),show markBad wl.length ps M M[i]=true from decide_eq_true hb,Bool.true_or,if_pos rfl]
    ·rw [if_neg (by rw [decide_eq_true_eq];omega),gdi h,gd_pos h1,w_succ i (by omega),w_id (n:=s+_) (by omega),x39_l1_eq hp hr hl hw m (i+1) _ _ rfl (by omega) (by omega) (by omega),show markBad wl.length ps M M[i]=false from decide_eq_false hb,Bool.false_or]
     unfold hoursM
     rw [List.map_cons,List.sum_cons,Int.add_assoc]
   ·obtain rfl:i=M.length:=by omega
    rw [ifge h,List.drop_length]
    show k s=k (s+0)
    rw [Int.add_zero]
theorem countP_le_one {p q:Int→Bool} {x0:Int}:∀ (M:List Int),M.Nodup→(∀ x∈M,q x=true→p x=true∨x=x0)→M.countP q≤M.countP p+1
 | [],_,_=>by simp
 | a::M,hn,h=>by
   obtain ⟨h1,h2⟩:=List.pairwise_cons.1 hn
   by_cases ha:a=x0
   ·have h3:M.countP q≤M.countP p:=List.countP_mono_left fun x hx hq=>by
     rcases h x (by simp [hx]) hq with h4 | h4
     ·exact h4
     ·exact absurd (ha.trans h4.symm) (h1 x hx)
    have h4:(a::M).countP q≤M.countP q+1:=by rw [List.countP_cons];split <;> omega
    have h5:M.countP p≤(a::M).countP p:=by rw [List.countP_cons];omega
    omega
   ·have ih:=countP_le_one M h2 fun x hx=>h x (by simp [hx])
    by_cases hq:q a=true
    ·have hp:p a=true:=by
      rcases h a (by simp) hq with h4 | h4
      ·exact h4
      ·exact absurd h4 ha
     rw [List.countP_cons_of_pos hq,List.countP_cons_of_pos hp];omega
    ·rw [List.countP_cons_of_neg hq]
     have h5:M.countP p≤(a::M).countP p:=by rw [List.countP_cons];omega
     omega
theorem countP_less {p q:Int→Bool} {x0:Int}:∀ (M:List Int),(∀ x∈M,p x=true→q x=true)→x0∈M→q x0=true→¬ p x0=true→M.countP p+1≤M.countP q
 | [],_,hm,_,_=>absurd hm (by simp)
 | a::M,h,hm,hq,hp=>by
   have hmono:M.countP p≤M.countP q:=List.countP_mono_left fun x hx=>h x (by simp [hx])
   rcases List.mem_cons.1 hm with e | hm
   ·subst e
    rw [List.countP_cons_of_pos hq,List.countP_cons_of_neg hp];omega
   ·have ih:=countP_less M (fun x hx=>h x (by simp [hx])) hm hq hp
    by_cases hpa:p a=true
    ·rw [List.countP_cons_of_pos hpa,List.countP_cons_of_pos (h a (by simp) hpa)];omega
    ·rw [List.countP_cons_of_neg hpa]
     have h5:M.countP q≤(a::M).countP q:=by rw [List.countP_cons];omega
     omega
theorem markBad_iff {n:Nat} {ps:List (Int×Int)} {M:List Int} (hn:M.Nodup):M.any (markBad n ps M)=true↔¬ Good n ps (ofM ps M):=by
 constructor
 ·intro h hg
  obtain ⟨m,hm,hb⟩:=List.any_eq_true.1 h
  have hb:=of_decide_eq_true hb
  have h1:=hg (ix ps m) (List.mem_map.2 ⟨m,hm,rfl⟩)
  rw [ofM_cnt] at h1
  have h2:=countP_less (p:=asB ps m true) (q:=fun x=>decide ((ix ps x).1=(ix ps m).1) && decide ((ix ps m).2≤(ix ps x).2)) (x0:=m) M (fun x _ hx=>by
   unfold asB at hx
   exact (Bool.and_eq_true _ _ ▸ hx).1) hm (by simp) (by simp [asB])
  have h3:M.countP (asB ps m true)*n≤(M.countP (fun x=>decide ((ix ps x).1=(ix ps m).1) && decide ((ix ps m).2≤(ix ps x).2))-1)*n:=Nat.mul_le_mul_right n (by omega)
  omega
 ·intro h
  rcases Classical.em (M.any (markBad n ps M)=true) with h0 | h0
  ·exact h0
  ·refine absurd (fun q hq=>?_) h
   obtain ⟨m,hm,rfl⟩:=List.mem_map.1 hq
   obtain ⟨he,hhe⟩:∃ he,he=(ix ps m).1:=⟨_,rfl⟩
   obtain ⟨t,ht⟩:∃ t,t=(ix ps m).2:=⟨_,rfl⟩
   show (cP (ofM ps M) (ix ps m).1 (ix ps m).2-1)*n<cP ps (ix ps m).1 (ix ps m).2
   rw [←hhe,←ht]
   obtain ⟨F,hF⟩:∃ F,F=M.filter (fun x=>decide ((ix ps x).1=he) && decide (t≤(ix ps x).2)):=⟨_,rfl⟩
   have hmF:m∈F:=by rw [hF];exact List.mem_filter.2 ⟨hm,by simp [hhe,ht]⟩
   have hFm:∀ x∈F,x∈M∧(ix ps x).1=he∧t≤(ix ps x).2:=fun x hx=>by
    rw [hF] at hx
    obtain ⟨a,b⟩:=List.mem_filter.1 hx
    simpa [a] using b
   obtain ⟨x1,hx1,hmin⟩:∃ x1∈F,∀ x∈F,(ix ps x1).2≤(ix ps x).2:=by
    have sp:=minL_spec (F.map fun x=>(ix ps x).2) (ix ps m).2
    rcases sp.2.2 with e | e
    ·exact ⟨m,hmF,fun x hx=>by rw [←e];exact sp.2.1 _ (List.mem_map.2 ⟨x,hx,rfl⟩)⟩
    ·obtain ⟨x1,h1,e⟩:=List.mem_map.1 e
     exact ⟨x1,h1,fun x hx=>by rw [e];exact sp.2.1 _ (List.mem_map.2 ⟨x,hx,rfl⟩)⟩
   obtain ⟨x0,hx0,hmin0,hmax⟩:∃ x0∈F,(ix ps x0).2=(ix ps x1).2∧∀ x∈F,(ix ps x).2=(ix ps x1).2→x≤x0:=by
    have sp:=maxL_spec (F.filter fun x=>decide ((ix ps x).2=(ix ps x1).2)) x1
    have hx:maxL x1 (F.filter fun x=>decide ((ix ps x).2=(ix ps x1).2))∈F∧(ix ps (maxL x1 (F.filter fun x=>decide ((ix ps x).2=(ix ps x1).2)))).2=(ix ps x1).2:=by
     rcases sp.2.2 with e | e
     ·rw [e];exact ⟨hx1,rfl⟩
     ·obtain ⟨a,b⟩:=List.mem_filter.1 e
      exact ⟨a,of_decide_eq_true b⟩
    exact ⟨_,hx.1,hx.2,fun x h1 h2=>sp.2.1 _ (List.mem_filter.2 ⟨h1,decide_eq_true h2⟩)⟩
   obtain ⟨hM0,hhe0,hte0⟩:=hFm x0 hx0
   have hb:¬ markBad n ps M x0=true:=fun hb=>h0 (List.any_eq_true.2 ⟨x0,hM0,hb⟩)
   have hb:¬ (cP ps (ix ps x0).1 (ix ps x0).2≤M.countP (asB ps x0 true)*n):=fun x=>hb (decide_eq_true x)
   have h2:=countP_le_one (p:=asB ps x0 true) (q:=fun x=>decide ((ix ps x).1=he) && decide (t≤(ix ps x).2)) (x0:=x0) M hn fun x hx hq=>by
    have hxF:x∈F:=by rw [hF];exact List.mem_filter.2 ⟨hx,hq⟩
    have q1:=(hFm x hxF).2
    have q2:=hmin x hxF
    rw [←hmin0] at q2
    by_cases e:x=x0
    ·exact .inr e
    ·refine .inl ?_
     unfold asB
     rw [decide_eq_true (show (ix ps x).1=(ix ps x0).1 by omega),decide_eq_true q2]
     by_cases e2:(ix ps x0).2<(ix ps x).2
     ·rw [decide_eq_true e2];rfl
     ·have:=hmax x hxF (by omega)
      rw [decide_eq_true (show x<x0 by omega)];simp
   have h3:cP ps (ix ps x0).1 (ix ps x0).2≤cP ps he t:=by rw [hhe0];exact cP_anti ps he hte0
   rw [ofM_cnt]
   have h4:(M.countP (fun x=>decide ((ix ps x).1=he) && decide (t≤(ix ps x).2))-1)*n≤M.countP (asB ps x0 true)*n:=Nat.mul_le_mul_right n (by omega)
   omega
theorem hoursM_tot (ps:List (Int×Int)) (M:List Int):hoursM ps M=tot (ofM ps M):=by
 unfold hoursM tot ofM;rw [List.map_map];rfl
open Classical in
noncomputable def mAns (n:Nat) (ps:List (Int×Int)) (M:List Int):Int×Int:=if riseGo (ps.length:Int) 0 M=true then (if Good n ps (ofM ps M) then (tot (ofM ps M),0) else (0,14)) else (0,2)
theorem rise_nodup {b:Int} {l:List Int} (h:riseGo b 0 l=true):l.Nodup:=((rise_iff _ _).1 h).2.imp fun h=>by omega
theorem x39_eq {b:Bed} (hb:bErr b=0) (hl:b.2.1.length≤20) {ps:List (Int×Int)} (hp:PsOk ps) {M:List Int} (hM:M.length≤9223372036854775807):x39 b ps M=some (mAns (wn b) ps M):=by
 have hB:=bedOk hb
 have h1:=hB.o1;have h10:=hB.o10
 have hw:=wn_pos hB
 have hpl:=hp.len
 rw [x39,x66_eB hl,Option.bind_some,eB_of hb hp,if_neg (by decide),x62_eq hM ⟨by omega,by omega⟩,Option.bind_some]
 unfold mAns
 by_cases hr:riseGo (ps.length:Int) 0 M=true
 ·have hlen:=rise_len hr (by omega)
  rw [if_pos hr,if_pos hr,x51_eq b (by omega) (by omega),Option.bind_some]
  refine (x39_l1_eq hp ((rise_iff _ _).1 hr).1 (by omega) (by unfold wn at hw;omega) FU 0 0 0 rfl (Nat.zero_le _) (FU_lt (by omega)) (by omega)).trans ?_
  rw [List.drop_zero,Int.zero_add,hoursM_tot]
  have e:=markBad_iff (n:=wn b) (ps:=ps) (rise_nodup hr)
  show (if M.any (markBad (wn b) ps M)=true then some (0,14) else some (tot (ofM ps M),0))=_
  by_cases hg:Good (wn b) ps (ofM ps M)
  ·rw [if_pos hg,if_neg (fun x=>e.1 x hg)]
  ·rw [if_neg hg,if_pos (e.2 hg)]
 ·rw [if_neg hr,if_neg hr]
theorem idxOf_mono {f:Int→Int} {T:Int}:∀ (l:List Int) (j:Nat),l.Pairwise (fun a b=>f b≤f a)→idxOf (fun y=>decide (f y<T)) l j=if (l.any fun y=>decide (f y<T))=true then (j:Int)+(l.countP fun y=>decide (T≤f y):Nat) else -1
 | [],_,_=>rfl
 | x::l,j,h=>by
   obtain ⟨h1,h2⟩:=List.pairwise_cons.1 h
   rw [idxOf]
   by_cases hx:f x<T
   ·have:(x::l).countP (fun y=>decide (T≤f y))=0:=List.countP_eq_zero.2 fun y hy=>by
     rcases List.mem_cons.1 hy with rfl | hy
     ·simpa using hx
     ·have:=h1 y hy;simp;omega
    rw [if_pos (decide_eq_true hx),this,if_pos (by simp [hx])];simp
   ·rw [if_neg (by simpa using hx),idxOf_mono l (j+1) h2,List.countP_cons_of_pos (by simp;omega),List.any_cons,decide_eq_false hx,Bool.false_or]
    split <;> simp;omega
theorem ofL_down {ps:List (Int×Int)} (hp:hrsOk ps) (h:Int):(ofL ps h).Pairwise (fun a b=>(ix ps b).2≤(ix ps a).2):=by
 have e:=down_sorted (l:=hrs ps h) fun x hx=>(hrs_in hp h x hx).1
 rw [←ofL_hrs,List.pairwise_map] at e
 exact e
theorem ofL_cnt {ps:List (Int×Int)} (h t:Int):(ofL ps h).countP (fun y=>decide (t≤(ix ps y).2))=cP ps h t:=by
 have e:(ofL ps h).countP (fun y=>decide (t≤(ix ps y).2))=((ofL ps h).map fun i=>(ix ps i).2).countP (fun x=>decide (t≤x)):=by rw [List.countP_map];rfl
 rw [e,ofL_hrs,(down_perm _).countP_eq,hrs_cnt]
def gB (n:Nat) (ps:List (Int×Int)):Nat→List Int→Bool
 | _,[]=>false
 | c,i::r=>decide (cP ps (ix ps i).1 (ix ps i).2≤c*n) || gB n ps (c+1) r
def inM (M:List Int) (l:List Int):List Int:=l.filter fun x=>decide (x∈M)
theorem x79_l1_eq {s:List Int} {v:Int} (hs:s.length≤140737488355328) {k:Unit→Option Int}:∀ (m i:Nat) (z:Int),z=i→i≤s.length→s.length-i<m→x104_l1 s v k m z=if v∈s.drop i then some (idxOf (fun y=>decide (v=y)) (s.drop i) i) else k ()
 | 0,i,_,_,_,h=>absurd h (by omega)
 | m+1,i,_,rfl,hi,hm=>by
   rw [x104_l1]
   by_cases h:i<s.length
   ·rw [iflt h,gdi h,ix_nat h,List.drop_eq_getElem_cons h,idxOf]
    by_cases hv:v=s[i]
    ·rw [if_pos (decide_eq_true hv),if_pos (List.mem_cons.2 (.inl hv)),if_pos (decide_eq_true hv)]
    ·rw [if_neg (by simpa using hv),w_succ i (by omega),x79_l1_eq hs m (i+1) _ rfl (by omega) (by omega),if_neg (c:=decide (v=s[i])=true) (by simpa using hv)]
     by_cases h2:v∈s.drop (i+1)
     ·rw [if_pos h2,if_pos (List.mem_cons.2 (.inr h2))]
     ·rw [if_neg h2,if_neg fun x=>(List.mem_cons.1 x).elim hv h2]
   ·obtain rfl:i=s.length:=by omega
    rw [ifge h,List.drop_length,if_neg (by simp)]
theorem x79_eq {s:List Int} {v:Int} (hs:s.length≤1000):x79 s v=some (decide (v∈s)):=by
 have e:=x79_l1_eq (v:=v) (s:=s) (by omega) (k:=fun _=>some (-1:Int)) FU 0 0 rfl (Nat.zero_le _) (FU_lt (by omega))
 rw [List.drop_zero] at e
 rw [x79,x104]
 by_cases h:v∈s
 ·rw [if_pos h] at e
  rw [show x104_l1 s v (fun _=>some (-1:Int)) FU 0=_ from e,Option.bind_some]
  have:=(idxOf_nonneg (fun y=>decide (v=y)) s 0).2 (List.any_eq_true.2 ⟨v,h,decide_eq_true rfl⟩)
  rw [decide_eq_true this,decide_eq_true h]
 ·rw [if_neg h] at e
  rw [show x104_l1 s v (fun _=>some (-1:Int)) FU 0=_ from e,Option.bind_some,decide_eq_false h];rfl
theorem x38_l3_eq {ps:List (Int×Int)} (hp:PsOk ps) {M:List Int} (hM:M.length≤1000) {p1:Bench} {n:Nat} (hn:p1.2.2.1.length=n) (hn10:n≤10) {h:Int} {k:Int→Option (Int×Int)}:∀ (m i:Nat) (z s:Int) (c:Nat),z=i→i≤(ofL ps h).length→(ofL ps h).length-i<m→0≤s∧s≤1000000+24*i→c≤i→x38_l3 ps M p1 (ofL ps h) k m s (c:Int) z=if gB n ps c (inM M ((ofL ps h).drop i))=true then some (0,14) else k (s+hoursM ps (inM M ((ofL ps h).drop i)))
 | 0,i,_,_,_,_,_,h,_,_=>absurd h (by omega)
 | m+1,i,_,s,c,rfl,hi,hm,hs,hc=>by
   have hpl:=hp.len
   have hol:(ofL ps h).length≤ps.length:=by rw [ofL_len];exact idxs_len ps _
   have hmem:∀ x∈ofL ps h,(0≤x∧x<(ps.length:Int))∧(ix ps x).1=h:=fun x hx=>ofL_mem.1 hx
   have hdn:=ofL_down hp.hrs h
   have hcnt:=fun t=>ofL_cnt (ps:=ps) h t
   obtain ⟨l,hl⟩:∃ l,ofL ps h=l:=⟨_,rfl⟩
   rw [hl] at hol hmem hdn hcnt hi hm
   rw [hl,x38_l3]
   by_cases hlt:i<l.length
   ·have h1:=hmem _ (List.getElem_mem hlt)
    have hh:=hp.hour _ (ixps_mem h1.1)
    have hcn:c*n≤12*10:=Nat.mul_le_mul (by omega) hn10
    have ec:w ((c:Int)*(p1.2.2.1.length:Int))=((c*n:Nat):Int):=by rw [hn,←Int.natCast_mul,w_id (by omega)]
    rw [iflt hlt,gdi hlt,ix_nat hlt,x79_eq hM,Option.bind_some,List.drop_eq_getElem_cons hlt,w_succ i (by omega)]
    have eF:inM M (l[i]::l.drop (i+1))=if l[i]∈M then l[i]::inM M (l.drop (i+1)) else inM M (l.drop (i+1)):=by
     unfold inM;rw [List.filter_cons];simp only [decide_eq_true_eq]
    rw [eF]
    by_cases hin:l[i]∈M
    ·rw [if_pos (decide_eq_true hin),if_pos hin]
     have e80:x80 l (fun y0=>x81 y0 ps l[i])=some (idxOf (fun y=>decide ((ix ps y).2<(ix ps l[i]).2)) l 0):=x80_eq (fun x hx=>by
      rw [x81,gd_pos (hmem x hx).1,gd_pos h1.1]) (by omega)
     rw [e80,Option.bind_some,idxOf_mono (f:=fun y=>(ix ps y).2) l 0 hdn,hcnt]
     have ej:∀ j1:Int,j1=(cP ps h (ix ps l[i]).2:Nat)→∀ K:Unit→Option (Int×Int),x38_j4 ps p1 l (c:Int) (i:Int) K j1=if cP ps h (ix ps l[i]).2≤c*n then some (0,14) else K ():=fun j1 hj K=>by
      rw [x38_j4,ec,hj,ix_nat hlt,gd_pos h1.1]
      by_cases hb:cP ps h (ix ps l[i]).2≤c*n
      ·rw [if_pos hb,if_pos (decide_eq_true (by omega))]
      ·rw [if_neg hb,if_neg (by rw [decide_eq_true_eq];omega)]
     have ih:=x38_l3_eq hp hM hn hn10 (h:=h) (k:=k) m (i+1) _ (s+(ix ps l[i]).2) (c+1) rfl (by rw [hl];omega) (by rw [hl];omega) (by omega) (by omega)
     rw [hl] at ih
     have fin:(if cP ps h (ix ps l[i]).2≤c*n then some (0,14) else x38_l3 ps M p1 l k m (w (s+(ix ps l[i]).2)) (w ((c:Int)+1)) ((i+1:Nat):Int))=if gB n ps c (l[i]::inM M (l.drop (i+1)))=true then some (0,14) else k (s+hoursM ps (l[i]::inM M (l.drop (i+1)))):=by
      rw [w_id (n:=s+_) (by omega),w_succ c (by omega),ih,gB,h1.2]
      by_cases hb:cP ps h (ix ps l[i]).2≤c*n
      ·rw [if_pos hb,decide_eq_true hb,Bool.true_or,if_pos rfl]
      ·rw [if_neg hb,decide_eq_false hb,Bool.false_or]
       unfold hoursM
       rw [List.map_cons,List.sum_cons,Int.add_assoc]
     by_cases ha:(l.any fun y=>decide ((ix ps y).2<(ix ps l[i]).2))=true
     ·rw [if_pos ha,if_neg (by rw [decide_eq_true_eq];omega),ej _ (by simp)]
      exact fin
     ·have eall:l.countP (fun y=>decide ((ix ps l[i]).2≤(ix ps y).2))=l.length:=List.countP_eq_length.2 fun y hy=>by
       rcases Classical.em ((ix ps y).2<(ix ps l[i]).2) with hx | hx
       ·exact absurd (List.any_eq_true.2 ⟨y,hy,decide_eq_true hx⟩) ha
       ·simp;omega
      rw [hcnt] at eall
      rw [if_neg ha,if_pos (by decide),ej _ (by omega)]
      exact fin
    ·rw [if_neg (by simpa using hin),if_neg hin]
     have ih:=x38_l3_eq hp hM hn hn10 (h:=h) (k:=k) m (i+1) _ s c rfl (by rw [hl];omega) (by rw [hl];omega) (by omega) (by omega)
     rw [hl] at ih
     exact ih
   ·obtain rfl:i=l.length:=by omega
    rw [ifge hlt,List.drop_length]
    show k s=if false=true then _ else k (s+0)
    rw [Int.add_zero];rfl
theorem x38_l2_eq {ps:List (Int×Int)} (hp:PsOk ps) {M:List Int} (hM:M.length≤1000) {p1:Bench} (hp1:p1.2.1=ps) {n:Nat} (hn:p1.2.2.1.length=n) (hn10:n≤10) {k:Int→Option (Int×Int)}:∀ (m i:Nat) (z:Int),z=i→i≤21→21-i<m →
  (x38_l2 ps M p1 k m (sumR i fun h=>hoursM ps (inM M (ofL ps (h:Int)))) z=k (sumR 21 fun h=>hoursM ps (inM M (ofL ps (h:Int))))∧∀ h:Nat,i≤h→h<21→gB n ps 0 (inM M (ofL ps (h:Int)))=false) ∨
  (x38_l2 ps M p1 k m (sumR i fun h=>hoursM ps (inM M (ofL ps (h:Int)))) z=some (0,14)∧∃ h:Nat,h<21∧gB n ps 0 (inM M (ofL ps (h:Int)))=true)
 | 0,i,_,_,_,h=>absurd h (by omega)
 | m+1,i,_,rfl,hi,hm=>by
   have hpl:=hp.len
   have hb:∀ h:Nat,0≤hoursM ps (inM M (ofL ps (h:Int)))∧hoursM ps (inM M (ofL ps (h:Int)))≤1000:=fun h=>by
    have h1:(inM M (ofL ps (h:Int))).length≤(ofL ps (h:Int)).length:=List.length_filter_le _ _
    have h2:(ofL ps (h:Int)).length≤ps.length:=by rw [ofL_len];exact idxs_len ps _
    have:=sum_le (f:=fun x=>(ix ps x).2) (M:=24) (inM M (ofL ps (h:Int))) fun x hx=>by
     have h3:=(ofL_mem.1 (List.mem_filter.1 hx).1).1
     have:=hp.hour _ (ixps_mem h3)
     exact ⟨by omega,this.2⟩
    unfold hoursM
    omega
   rw [x38_l2]
   by_cases h:i<21
   ·have hs:=sumR_bd (f:=fun h=>hoursM ps (inM M (ofL ps (h:Int)))) (M:=1000) i fun h _=>hb h
    have hbi:=hb i
    have e76:x76 p1 (i:Int)=some (ofL ps (i:Int)):=by rw [x76,hp1,if_pos (by omega)]
    have hol:(ofL ps (i:Int)).length≤ps.length:=by rw [ofL_len];exact idxs_len ps _
    have e3:=x38_l3_eq hp hM hn hn10 (h:=(i:Int)) (k:=fun z1=>x38_l2 ps M p1 k m z1 (w ((i:Int)+1))) FU 0 0 (sumR i fun h=>hoursM ps (inM M (ofL ps (h:Int)))) 0 rfl (Nat.zero_le _) (FU_lt (by omega)) (by omega) (Nat.le_refl _)
    rw [List.drop_zero,w_succ i (by omega),←sumR_succ] at e3
    rw [if_pos (decide_eq_true (by omega)),e76,Option.bind_some,w_succ i (by omega)]
    show (x38_l3 ps M p1 (ofL ps (i:Int)) _ FU _ ((0:Nat):Int) 0=_∧_)∨(x38_l3 ps M p1 (ofL ps (i:Int)) _ FU _ ((0:Nat):Int) 0=_∧_)
    rw [e3]
    by_cases hg:gB n ps 0 (inM M (ofL ps (i:Int)))=true
    ·rw [if_pos hg]
     exact .inr ⟨rfl,i,h,hg⟩
    ·rw [if_neg hg]
     rcases x38_l2_eq hp hM hp1 hn hn10 (k:=k) m (i+1) _ rfl (by omega) (by omega) with ⟨e,g⟩ | ⟨e,g⟩
     ·refine .inl ⟨e,fun h' h1 h2=>?_⟩
      by_cases e:h'=i
      ·rw [e];simpa using hg
      ·exact g h' (by omega) h2
     ·exact .inr ⟨e,g⟩
   ·obtain rfl:i=21:=by omega
    rw [if_neg (by decide)]
    exact .inl ⟨rfl,fun h' h1 h2=>by omega⟩
theorem gB_iff {n:Nat} {ps:List (Int×Int)}:∀ (f:List Int) (c:Nat),gB n ps c f=true↔∃ (p:Nat) (hp:p<f.length),cP ps (ix ps f[p]).1 (ix ps f[p]).2≤(c+p)*n
 | [],c=>⟨fun h=>(by cases h),fun ⟨p,hp,_⟩=>absurd hp (by simp)⟩
 | i::r,c=>by
   rw [gB,Bool.or_eq_true,decide_eq_true_eq,gB_iff r (c+1)]
   constructor
   ·rintro (h | ⟨p,hp,h⟩)
    ·exact ⟨0,by simp,by simpa using h⟩
    ·exact ⟨p+1,by simpa using hp,by rw [List.getElem_cons_succ,show c+(p+1)=c+1+p by omega];exact h⟩
   ·rintro ⟨p,hp,h⟩
    cases p with
    | zero=>exact .inl (by simpa using h)
    | succ p=>exact .inr ⟨p,by simpa using hp,by rw [List.getElem_cons_succ,show c+(p+1)=c+1+p by omega] at h;exact h⟩
theorem inM_perm {ps:List (Int×Int)} {M:List Int} (hn:M.Nodup) (hr:∀ x∈M,0≤x∧x<(ps.length:Int)) (h:Int):(inM M (ofL ps h)).Perm (M.filter fun x=>decide ((ix ps x).1=h)):=by
 refine (List.perm_ext_iff_of_nodup ((ofL_nodup ps h).filter _) (hn.filter _)).2 fun x=>?_
 rw [List.mem_filter,List.mem_filter,ofL_mem,decide_eq_true_eq,decide_eq_true_eq]
 exact ⟨fun ⟨⟨_,a⟩,b⟩=>⟨b,a⟩,fun ⟨a,b⟩=>⟨⟨hr x a,b⟩,a⟩⟩
theorem inM_cnt {ps:List (Int×Int)} {M:List Int} (hn:M.Nodup) (hr:∀ x∈M,0≤x∧x<(ps.length:Int)) (h t:Int):((inM M (ofL ps h)).map fun x=>(ix ps x).2).countP (fun x=>decide (t≤x))=cP (ofM ps M) h t:=by
 rw [List.countP_map,(inM_perm hn hr h).countP_eq,List.countP_filter,ofM_cnt]
 exact List.countP_congr fun x _=>by simp [and_comm]
theorem gB_good {n:Nat} {ps:List (Int×Int)} (hp:PsOk ps) {M:List Int} (hn:M.Nodup) (hr:∀ x∈M,0≤x∧x<(ps.length:Int)):(∃ h:Nat,h<21∧gB n ps 0 (inM M (ofL ps (h:Int)))=true)↔¬ Good n ps (ofM ps M):=by
 have hs:∀ h:Int,((inM M (ofL ps h)).map fun x=>(ix ps x).2).Pairwise (fun a b=>b≤a):=fun h=>by
  rw [List.pairwise_map];exact (ofL_down hp.hrs h).filter _
 have hx:∀ h:Int,∀ x∈inM M (ofL ps h),x∈M∧(ix ps x).1=h:=fun h x hx=>by
  obtain ⟨a,b⟩:=List.mem_filter.1 hx
  exact ⟨of_decide_eq_true b,(ofL_mem.1 a).2⟩
 constructor
 ·rintro ⟨h,_,hg⟩ hG
  obtain ⟨p,hp',hb⟩:=(gB_iff _ 0).1 hg
  have hm:=hx _ _ (List.getElem_mem hp')
  obtain ⟨x,hxe⟩:∃ x,(inM M (ofL ps (h:Int)))[p]=x:=⟨_,rfl⟩
  rw [hxe] at hb hm
  have h1:=hG (ix ps x) (List.mem_map.2 ⟨x,hm.1,rfl⟩)
  have h2:=(sorted_ge (ix ps x).2 _ (hs (h:Int)) p (by rw [List.length_map];exact hp')).1 (by rw [List.getElem_map,hxe];exact Int.le_refl _)
  rw [inM_cnt hn hr,←hm.2] at h2
  rw [Nat.zero_add] at hb
  have h3:p*n≤(cP (ofM ps M) (ix ps x).1 (ix ps x).2-1)*n:=Nat.mul_le_mul_right n (by omega)
  omega
 ·intro hG
  rcases Classical.em (∃ h:Nat,h<21∧gB n ps 0 (inM M (ofL ps (h:Int)))=true) with h0 | h0
  ·exact h0
  ·refine absurd (fun q hq=>?_) hG
   obtain ⟨m,hm,rfl⟩:=List.mem_map.1 hq
   have hh:=hp.heat _ (ixps_mem (hr m hm))
   obtain ⟨h,hhe⟩:∃ h:Nat,(ix ps m).1=(h:Int):=⟨(ix ps m).1.toNat,by omega⟩
   have hpos:=cP_pos (qs:=ofM ps M) (List.mem_map.2 ⟨m,hm,rfl⟩)
   show (cP (ofM ps M) (ix ps m).1 (ix ps m).2-1)*n<cP ps (ix ps m).1 (ix ps m).2
   have hpos:0<cP (ofM ps M) (ix ps m).1 (ix ps m).2:=hpos
   rw [hhe] at hpos ⊢
   obtain ⟨C,hC⟩:∃ C,C=cP (ofM ps M) (h:Int) (ix ps m).2:=⟨_,rfl⟩
   rw [←hC] at hpos ⊢
   have hcl:C≤(inM M (ofL ps (h:Int))).length:=by
    rw [hC,←inM_cnt hn hr]
    have:=List.countP_le_length (l:=(inM M (ofL ps (h:Int))).map fun x=>(ix ps x).2) (p:=fun x=>decide ((ix ps m).2≤x))
    rwa [List.length_map] at this
   have hlt:C-1<(inM M (ofL ps (h:Int))).length:=by omega
   have h2:=(sorted_ge (ix ps m).2 _ (hs (h:Int)) (C-1) (by rw [List.length_map];exact hlt)).2 (by rw [inM_cnt hn hr];omega)
   rw [List.getElem_map] at h2
   have hy:=hx _ _ (List.getElem_mem hlt)
   rcases Nat.lt_or_ge ((C-1)*n) (cP ps (h:Int) (ix ps m).2) with h3 | h3
   ·exact h3
   ·refine absurd ⟨h,by omega,(gB_iff _ 0).2 ⟨C-1,hlt,?_⟩⟩ h0
    rw [hy.2,Nat.zero_add]
    have:=cP_anti ps (h:Int) h2
    omega
theorem inM_tot {ps:List (Int×Int)} (hp:PsOk ps) {M:List Int} (hn:M.Nodup) (hr:∀ x∈M,0≤x∧x<(ps.length:Int)):sumR 21 (fun h=>hoursM ps (inM M (ofL ps (h:Int))))=tot (ofM ps M):=by
 have hq:∀ q∈ofM ps M,0≤q.1∧q.1≤20:=fun q hq=>by
  obtain ⟨m,hm,rfl⟩:=List.mem_map.1 hq
  exact hp.heat _ (ixps_mem (hr m hm))
 have e:=sum_hrs (ofM ps M) (fun q h=>(hq q h).1) 21
 rw [List.filter_eq_self.2 fun q h=>by have:=hq q h;simp;omega] at e
 rw [←e]
 refine sumR_congr fun h _=>?_
 have e1:hrs (ofM ps M) (h:Int)=(M.filter fun x=>decide ((ix ps x).1=(h:Int))).map fun x=>(ix ps x).2:=by
  unfold hrs ofM
  rw [List.filter_map,List.map_map];rfl
 rw [e1]
 unfold hoursM
 exact perm_sum ((inM_perm hn hr (h:Int)).map _)
theorem x38_eq {b:Bed} (hb:bErr b=0) (hl:b.2.1.length≤20) {ps:List (Int×Int)} (hp:PsOk ps) {M:List Int} (hM:M.length≤9223372036854775807):x38 b ps M=some (mAns (wn b) ps M):=by
 have hB:=bedOk hb
 have hw:=wn_pos hB
 have hpl:=hp.len
 rw [x38,x69_eq hb hl hp,Option.bind_some]
 show (if (decide ((0:Int)≠(0:Int)))=true then _ else _)=_
 rw [if_neg (by decide),x61_eq hM ⟨by omega,by omega⟩,Option.bind_some]
 unfold mAns
 by_cases hr:riseGo (ps.length:Int) 0 M=true
 ·have hlen:=rise_len hr (by omega)
  have hrn:=((rise_iff _ _).1 hr).1
  have hnd:=rise_nodup hr
  rw [if_pos hr,if_pos hr]
  have e:=gB_good (n:=wn b) hp hnd hrn
  rcases x38_l2_eq hp (M:=M) (by omega) (p1:=(b,ps,wholeL b.1.toNat b.2.1,wantL ps)) rfl (n:=wn b) rfl hw.2 (k:=fun z2=>some (z2,(0:Int))) FU 0 0 rfl (Nat.zero_le _) (FU_lt (by omega)) with ⟨e1,g⟩ | ⟨e1,g⟩
  ·refine e1.trans ?_
   rw [inM_tot hp hnd hrn]
   by_cases hg:Good (wn b) ps (ofM ps M)
   ·rw [if_pos hg]
   ·obtain ⟨h,h1,h2⟩:=e.2 hg
    rw [g h (Nat.zero_le _) h1] at h2;cases h2
  ·refine e1.trans ?_
   rw [if_neg (e.1 g)]
 ·rw [if_neg hr,if_neg hr]

noncomputable def rm44_R:RC :=
 .rng (.sl 36) [37] (rngA Tryz.prog 44 0) (rngB Tryz.prog 44 0)
noncomputable def rm44_1:RC :=
 .seq (.reg true [I_ 28 [.sl 6] .mv,I_ 29 [.tk 10] .mv,I_ 30 [.cv (.func 76 [] []),.sl 28,.sl 29] (.call 3),I_ 31 [.sl 6] .mv,I_ 32 [.tv 31] .nilc,I_ 33 [.tv 32] (.fa 5),I_ 34 [.tv 33] (.ld .one),I_ 35 [.tk 34] .lenS,I_
 36 [.cv (.func 75 [] []),.sl 30,.sl 35] (.call 3)]) (.block 2 rm44_R)
noncomputable def rm44_2:RC :=
 .block 1 (.seq (.reg false [I_ 26 [.sl 22,.sl 24] (.ia 1),I_ 27 [.tv 26] (.ld .one),I_ 10 [.tk 27] .mv]) rm44_1)
noncomputable def rm44_3:RC :=
 .seq (.reg false [I_ 45 [.sl 8] .takeT,I_ 46 [.cv (.func 84 [] []),.tk 45] (.call 1)]) (.seq (.reg false [I_ 47 [.tv 8] (.ld .one),I_ 4 [.tk 47] .mv,I_ 5 [.cv (.int .i64 0)] .mv]) .ret)
noncomputable def rm44_L:RC :=
 .loop (some [false,false,false,false,false,false,true,false,true,
 false,false,false,false,false,false,false,false,false,false,false,false,false,true,true,true,false,false,false,false,false,false,false,false,false,false,false,false,false,false,false,false,false,
 false,false,false,false,false,false]) (.seq (.reg false [I_ 25 [.sl 24,.sl 23] (.bin .lss)]) (.seq (.cond (.sl 25) .skip (.exit 0)) (.seq rm44_2 (.reg false [I_ 44 [.tv 24,.cv (.int .i64 1)] (.bin .add),I_ 24 [.tk 44]
 .mv]))))
noncomputable def rm44_4:RC :=
 .seq (.seq (.reg false [I_ 21 [.sl 6] .mv,I_ 22 [.cv (.func 74 [] []),.sl 21] (.call 3),I_ 23 [.sl 22] .lenS,I_ 24 [.cv (.int .i64 0)] .mv]) (.block 0 rm44_L)) rm44_3
noncomputable def rm44_5:RC :=
 .seq (.seq (.reg false [I_ 18 [.sl 7] .mv,I_ 19 [.tv 18,.cv (.int .i64 0)] (.bin .neq)]) (.cond (.sl 19) (.seq (.reg false [I_ 20 [.tk 7] .mv,I_ 4 [.cv (.lst [] 0 .full)] (.nil 1),I_ 5 [.tk 20] .mv]) .ret) .skip)) (.seq (.reg
 false [I_ 8 [] (.alloc [.lst [] 0 .full])]) rm44_4)
noncomputable def rm44_6:RC :=
 .seq (.reg false [I_ 13 [.tv 2] (.ld (.str 4)),I_ 14 [.tk 1] .mv,I_ 15 [.cv (.func 69 [] []),.sl 13,.sl 14] (.call 3),I_ 12 [.tk 15] .mv,I_ 16 [.sl 12] (.ext 0),I_ 17 [.tv 12] (.ext 1),I_ 6 [.tk 16] .mv,I_ 7 [.tk 17]
 .mv]) rm44_5
noncomputable def rm44:RC :=
 .seq (.reg false [I_ 2 [.tk 0] .box,I_ 4 [.cv (.lst [] 0 .full)] (.nil 1),I_ 5 [.cv (.int .i64 0)] .mv]) rm44_6
theorem lm44:linkF Tryz.prog ann44 44=some (rm44,48,[.tmp 4,.tmp 5]):=by kernel_rfl
noncomputable def rmA44:RC :=
 .reg false [I_ 11 [.tk 37] .mv]
theorem lmA44:linkC Tryz.prog ann44 (rngA Tryz.prog 44 0) 0=some rmA44:=by kernel_rfl
noncomputable def rmB44:RC :=
 .block 3 (.reg true [I_ 38 [.sl 8] .take,I_ 39 [.tk 11] .mv,I_ 40 [.tv 39,.cv (.int .i64 0)] (.ia 1),I_ 41 [.tv 40] (.ld .one),I_ 42 [.tv 41] (.buildS 1 1 [.int .i64 0] [0]),I_ 43 [.tk 38,.tk 42] (.app 1 8),⟨none,[.sl 8,.tk 43],none,none,.stR⟩])
theorem lmB44:linkC Tryz.prog ann44 (rngB Tryz.prog 44 0) 0=some rmB44:=by kernel_rfl
theorem m44_r {o1:AObj} {Yr:List AObj} {l e:List Int} {u0:AV} {u1:AV} {u2:AV} {u3:AV} {u4:AV} {u5:AV} {u6:AV} {u7:AV} {u9:AV} {u10:AV} {u11:AV} {u12:AV} {u13:AV} {u14:AV} {u15:AV} {u16:AV} {u17:AV} {u18:AV} {u19:AV} {u20:AV} {u21:AV} {u22:AV} {u23:AV} {u24:AV} {u25:AV} {u26:AV} {u27:AV} {u28:AV} {u29:AV} {u30:AV} {u31:AV} {u32:AV} {u33:AV} {u34:AV} {u35:AV} {u36:AV} {u37:AV} {u38:AV} {u39:AV} {u40:AV} {u41:AV} {u42:AV} {u43:AV} {u44:AV} {u45:AV} {u46:AV} {u47:AV} (hl:l.length≤1000) (he:0<e.length) (Y:List AObj) :
  ∃ Y',Sem Tryz.prog (.yield (o1::AObj.cells [rawL l]::Yr).length) [(.lst (e.map I) e.length .full)] (((o1::AObj.cells [rawL l]::Yr)++[AObj.loop .ready none 44 [u0,u1,u2,u3,u4,u5,u6,u7,(.ptr 1 0),u9,u10,u11,u12,u13,u14,u15,u16,u17,u18,u19,u20,u21,u22,u23,u24,u25,u26,u27,u28,u29,u30,u31,u32,u33,u34,u35,u36,u37,u38,u39,u40,u41,u42,u43,u44,u45,u46,u47] [37] (rngA Tryz.prog 44 0) (rngB Tryz.prog 44 0) ann44])++Y) 0 (.bool true) (((o1::AObj.cells [rawL (l++[ix e 0])]::Yr)++[AObj.loop .ready none 44 [u0,u1,u2,u3,u4,u5,u6,u7,(.ptr 1 0),u9,u10,u11,u12,u13,u14,u15,u16,u17,u18,u19,u20,u21,u22,u23,u24,u25,u26,u27,u28,u29,u30,u31,u32,u33,u34,u35,u36,u37,u38,u39,u40,u41,u42,u43,u44,u45,u46,u47] [37] (rngA Tryz.prog 44 0) (rngB Tryz.prog 44 0) ann44])++Y'):=by
 have he':0≤(0:Int)∧(0:Int)<(e.length:Int):=by omega
 refine ⟨Y,sem_round hmix lmA44 lmB44 (get_mid _ _ _) rfl (low0 (by simp)) ?_⟩
 unfold rmA44
 conv=>whnf
 refine ⟨rfl,get_mid _ _ _,?_⟩
 rw [set_mid]
 unfold rmB44
 cases l with
 | nil =>
   conv=>whnf
   refine ⟨he',?_⟩
   rw [drop1 I e 0 he']
   conv=>whnf
   refine ⟨rfl,by omega,?_⟩
   conv=>whnf
   refine ⟨by decide,by decide,rfl,?_⟩
   conv=>whnf
   refine ⟨rfl,by decide,updK_of (by decide) ?_⟩
   conv=>whnf
   show _∧((((o1::AObj.cells [rawL ([]++[ix e 0])]::Yr))++[AObj.loop .busy none 44 [u0,u1,u2,u3,u4,u5,u6,u7,(.ptr 1 0),u9,u10,u11,u12,u13,u14,u15,u16,u17,u18,u19,u20,u21,u22,u23,u24,u25,u26,u27,u28,u29,u30,u31,u32,u33,u34,u35,u36,u37,u38,u39,u40,u41,u42,u43,u44,u45,u46,u47] [37] (rngA Tryz.prog 44 0) (rngB Tryz.prog 44 0) ann44])++Y)[((o1::AObj.cells [rawL ([]++[ix e 0])]::Yr)).length]?=_∧Fgt (((((o1::AObj.cells [rawL ([]++[ix e 0])]::Yr))++[AObj.loop .busy none 44 [u0,u1,u2,u3,u4,u5,u6,u7,(.ptr 1 0),u9,u10,u11,u12,u13,u14,u15,u16,u17,u18,u19,u20,u21,u22,u23,u24,u25,u26,u27,u28,u29,u30,u31,u32,u33,u34,u35,u36,u37,u38,u39,u40,u41,u42,u43,u44,u45,u46,u47] [37] (rngA Tryz.prog 44 0) (rngB Tryz.prog 44 0) ann44])++Y).set ((o1::AObj.cells [rawL ([]++[ix e 0])]::Yr)).length _) _
   exact ⟨rfl,get_mid _ _ _,by rw [set_mid];exact Fgt.refl _⟩
 | cons a l =>
   conv=>whnf
   refine ⟨he',?_⟩
   rw [drop1 I e 0 he']
   conv=>whnf
   refine ⟨rfl,by omega,?_⟩
   conv=>whnf
   refine ⟨rfl,by simp only [List.length_cons] at hl ⊢;omega,?_⟩
   conv=>whnf
   refine ⟨?_,Nat.succ_ne_zero _,updK_of (by simp) ?_⟩
   ·show ((a::l).map I++[I (ix e 0)]).all scal0=true
    rw [←List.map_singleton (f:=I),←List.map_append];exact List.all_eq_true.2 fun x hx=>by obtain ⟨y,_,rfl⟩:=List.mem_map.1 hx;rfl
   conv=>whnf
   have e1:AV.raw ((a::l).map I++[I (ix e 0)]) ((a::l).length+1) 1=rawL ((a::l)++[ix e 0]):=by
    show _=AV.raw (((a::l)++[ix e 0]).map I) ((a::l)++[ix e 0]).length 1
    rw [List.map_append,List.length_append];rfl
   show _∧((((o1::AObj.cells [AV.raw ((a::l).map I++[I (ix e 0)]) ((a::l).length+1) 1]::Yr))++[AObj.loop .busy none 44 [u0,u1,u2,u3,u4,u5,u6,u7,(.ptr 1 0),u9,u10,u11,u12,u13,u14,u15,u16,u17,u18,u19,u20,u21,u22,u23,u24,u25,u26,u27,u28,u29,u30,u31,u32,u33,u34,u35,u36,u37,u38,u39,u40,u41,u42,u43,u44,u45,u46,u47] [37] (rngA Tryz.prog 44 0) (rngB Tryz.prog 44 0) ann44])++Y)[((o1::AObj.cells [AV.raw ((a::l).map I++[I (ix e 0)]) ((a::l).length+1) 1]::Yr)).length]?=_∧Fgt (((((o1::AObj.cells [AV.raw ((a::l).map I++[I (ix e 0)]) ((a::l).length+1) 1]::Yr))++[AObj.loop .busy none 44 [u0,u1,u2,u3,u4,u5,u6,u7,(.ptr 1 0),u9,u10,u11,u12,u13,u14,u15,u16,u17,u18,u19,u20,u21,u22,u23,u24,u25,u26,u27,u28,u29,u30,u31,u32,u33,u34,u35,u36,u37,u38,u39,u40,u41,u42,u43,u44,u45,u46,u47] [37] (rngA Tryz.prog 44 0) (rngB Tryz.prog 44 0) ann44])++Y).set ((o1::AObj.cells [AV.raw ((a::l).map I++[I (ix e 0)]) ((a::l).length+1) 1]::Yr)).length _) _
   rw [e1]
   exact ⟨rfl,get_mid _ _ _,by rw [set_mid];exact Fgt.refl _⟩
def x44_r (t:List Int) (e:List Int):Option (List Int):=if 0<e.length∧t.length≤1000 then some (t++[ix e 0]) else none
def x44_h (p1:Bench) (t:List Int) (heat:Int):Option (List Int) :=
 (x76 p1 heat).bind fun r3=>(x75 r3 (p1.2.2.1.length:Int)).bind fun _=>(s98 r3 (p1.2.2.1.length:Int)).bind fun l1=>foldO x44_r l1 t
theorem m44_l {p1:Bench} {r2 tf:List Int} {o1:AObj} {Q:Ex→List AV→List AObj→Prop} (hr2:r2.length≤1000) (hf:foldO (x44_h p1) r2 []=some tf)
  (hk:∀ (u0 u1 u2 u3 u4 u5 u6 u7 u10 u11 u12 u13 u14 u15 u16 u17 u18 u19 u20 u21 u22 u23 u24 u25 u26 u27 u28 u29 u30 u31 u32 u33 u34 u35 u36 u37 u38 u39 u40 u41 u42 u43 u44 u45 u46 u47:AV) (Y:List AObj),Q (.exit 0) [u0,u1,u2,u3,u4,u5,u6,u7,(.ptr 1 0),J,u10,u11,u12,u13,u14,u15,u16,u17,u18,u19,u20,u21,u22,u23,u24,u25,u26,u27,u28,u29,u30,u31,u32,u33,u34,u35,u36,u37,u38,u39,u40,u41,u42,u43,u44,u45,u46,u47] (o1::AObj.cells [rawL tf]::Y))
  {T:List AV} (hT:zipKeep [false,false,false,false,false,false,true,false,true,  false,false,false,false,false,false,false,false,false,false,false,false,false,true,true,true,false,false,false,false,false,false,false,false,false,false,false,false,false,false,false,false,false,  false,false,false,false,false,false] T=slots 48 [(6,(.lptr ((I p1.1.1)::(.lst (p1.1.2.1.map I) p1.1.2.1.length .shared)::(I p1.1.2.2.1)::(I p1.1.2.2.2)::(.lst (p1.2.1.flatMap pr) p1.2.1.length .shared)::(.lst (p1.2.2.1.map I) p1.2.2.1.length .shared)::(p1.2.2.2.map I)))),(8,(.ptr 1 0)),(22,(.lst (r2.map I) r2.length .shared)),(23,(I (r2.length:Int))),(24,(I 0))]) :
  wpR Tryz.prog ann44 44 0 none rm44_L T [o1,AObj.cells [rawL []]] Q:=by
 unfold rm44_L
 refine wp_loop hT ?_
 refine .intro (fun m T H=>∃ (j:Nat) (t:List Int) (Y:List AObj),j≤r2.length∧m=r2.length-j∧T=slots 48 [(6,(.lptr ((I p1.1.1)::(.lst (p1.1.2.1.map I) p1.1.2.1.length .shared)::(I p1.1.2.2.1)::(I p1.1.2.2.2)::(.lst (p1.2.1.flatMap pr) p1.2.1.length .shared)::(.lst (p1.2.2.1.map I) p1.2.2.1.length .shared)::(p1.2.2.2.map I)))),(8,(.ptr 1 0)),(22,(.lst (r2.map I) r2.length .shared)),(23,(I (r2.length:Int))),(24,(I (j:Int)))]∧H=(o1::AObj.cells [rawL t]::Y)∧foldO (x44_h p1) (r2.drop j) t=some tf) r2.length ⟨0,[],[],Nat.zero_le _,rfl,rfl,rfl,hf⟩ ?_
 clear hT
 rintro m T H ⟨j,t,Y,hj,rfl,rfl,rfl,h⟩
 conv=>whnf
 refine dcase (fun hc=>?_) (fun hc=>?_)
 ·have hlt:j<r2.length:=by omega
  have hb:0≤(j:Int)∧(j:Int)<(r2.length:Int):=by omega
  rw [List.drop_eq_getElem_cons hlt] at h
  obtain ⟨t',h1,h⟩:=bd_some h
  rw [←ix_nat hlt] at h1
  obtain ⟨c_R,g_R⟩:∃ c,rm44_R=c:=⟨_,rfl⟩
  unfold rm44_2
  conv=>whnf
  refine ⟨hb,?_⟩
  rw [drop1 I r2 (j:Int) hb]
  unfold rm44_1
  rw [g_R]
  conv=>whnf
  obtain ⟨r3,hb7,h1⟩:=bd_some h1
  refine ⟨(allc (pu_lptr (allc rfl (allc (pu_map (fun _=>rfl) _ _ _) (allc rfl (allc rfl (allc (pu_flat (fun _=>(allc rfl (allc rfl rfl))) _ _ _) (allc (pu_map (fun _=>rfl) _ _ _) (pu_run (fun _=>rfl) _)))))))) (allc rfl rfl)),_,x76_ok hb7,acc0,?_⟩
  conv=>whnf
  obtain ⟨r4,hb8,h1⟩:=bd_some h1
  refine ⟨(allc (pu_map (fun _=>rfl) _ _ _) (allc rfl rfl)),_,x75_ok hb8,accN rfl,?_⟩
  conv=>whnf
  obtain ⟨l1,hb13,h1⟩:=bd_some h1
  obtain ⟨F_,hF0,hFn,hF⟩:=foldO_states h1
  subst g_R
  unfold rm44_R
  refine rng_wp (f:=fun (e1:(List Int))=>(.lst (e1.map I) e1.length .full)) (s98_ok hb13) (fun i=>(o1::AObj.cells [rawL (F_ i)]::Y)) (by exact rfl) (by show (o1::AObj.cells [rawL (F_ 0)]::Y)=_;first | (rw [hF0];done) | (rw [hF0];rfl)) (fun _=>rfl) ?_ (rl:=none) (by exact rfl) (Hn:=(o1::AObj.cells [rawL t']::Y)) (by show (o1::AObj.cells [rawL (F_ l1.length)]::Y)=_;first | (rw [hFn];done) | (rw [hFn];rfl)) (fun Yr4=>?_)
  ·intro i hi Y
   have hq:=hF i hi
   unfold x44_r at hq
   split at hq
   ·rename_i hc
    rw [←Option.some.inj hq]
    exact m44_r hc.2 hc.1 Y
   ·cases hq
  conv=>whnf
  refine ⟨r2.length-(j+1),by omega,j+1,t',_,by omega,rfl,?_,rfl,h⟩
  rw [show IntKind.i64.wrap ((j:Int)+1)=((j+1:Nat):Int) by rw [wrapI _ (by omega) (by omega)];omega];rfl
 ·obtain rfl:j=r2.length:=by omega
  rw [List.drop_length] at h
  obtain rfl:=Option.some.inj h
  conv=>whnf
  exact hk _ _ _ _ _ _ _ _ _ _ _ _ _ _ _ _ _ _ _ _ _ _ _ _ _ _ _ _ _ _ _ _ _ _ _ _ _ _ _ _ _ _ _ _ _ _ _
theorem ins0_sem {H:List AObj} {lo:Nat}:Sem Tryz.prog (.fn 110) [.lst [] 0 .full,I 0,I 0] H lo (.tuple []) H:=by
 refine fn_semQ hmix lk110 rfl (Low.refl _ _) fun Q hQ=>?_
 unfold rc110
 conv=>whnf
 refine .intro (fun m T H'=>T=slots 49 [(0,.lst [] 0 .full),(1,I 0),(2,I 0),(6,I (IntKind.i64.wrap (0+1)))]∧H'=H) 0 ⟨rfl,rfl⟩ ?_
 rintro m T H' ⟨rfl,rfl⟩
 conv=>whnf
 exact hQ _ _ _ ⟨.inl rfl,Fgt.refl _,rfl⟩
theorem pdq0_sem {H:List AObj} {lo:Nat} (limit:Int):Sem Tryz.prog (.fn 105) [.lst [] 0 .full,I 0,I 0,I limit] H lo (.tuple []) H:=by
 refine fn_semQ hmix lk105 rfl (Low.refl _ _) fun Q hQ=>?_
 unfold rc105
 obtain ⟨c19,g19⟩:∃ c,rc105_19=c:=⟨_,rfl⟩
 rw [g19]
 conv=>whnf
 refine .intro (fun m T H'=>T=slots 134 [(0,.lst [] 0 .full),(1,I 0),(2,I 0),(3,I limit),(8,B true),(9,B true)]∧H'=H) 0 ⟨rfl,rfl⟩ ?_
 rintro m T H' ⟨rfl,rfl⟩
 subst g19
 unfold rc105_19
 obtain ⟨c1,g1⟩:∃ c,rc105_1=c:=⟨_,rfl⟩
 obtain ⟨c18,g18⟩:∃ c,rc105_18=c:=⟨_,rfl⟩
 rw [g1,g18]
 conv=>whnf
 subst g1
 unfold rc105_1
 conv=>whnf
 refine ⟨_,_,call1 ins0_sem,?_⟩
 conv=>whnf
 exact hQ _ _ _ ⟨.inr rfl,Fgt.refl _,rfl⟩
theorem sort0_sem {H:List AObj} {lo:Nat}:Sem Tryz.prog (.fn 84) [.lst [] 0 .full] H lo (.tuple []) H:=by
 refine fn_semQ hmix lk84 rfl (Low.refl _ _) fun Q hQ=>?_
 unfold rc84
 conv=>whnf
 refine ⟨by first | rfl | simp only [List.all_cons,List.all_nil,pu0,pub,pu1,pu2,pu1',pu2',pun,puf,puP,puP',puQ,puQ',Bool.and_true,Bool.and_self],_,bitsLen_ok 0 (by omega),?_⟩
 conv=>whnf
 refine ⟨_,_,call1 (pdq0_sem (Sort.bitsLen 0)),?_⟩
 conv=>whnf
 exact hQ _ _ _ ⟨.inl rfl,Fgt.refl _,rfl⟩
theorem sortU_nil:sortU []=[]:=congrArg Array.toList (ins_same Sort.ltInt #[] 0)
def x44 (b:Bed) (panels:List (Int×Int)):Option (List Int×Int) :=
 (x69 b panels).bind fun r1 =>
 match r1 with
 | (none,q1)=>if (decide (q1≠(0:Int)))=true then some ([],q1) else none
 | (some p1,q1) =>
   if (decide (q1≠(0:Int)))=true then some ([],q1)
   else (x74 p1).bind fun r2=>gd (r2.length≤1000) <| (foldO (x44_h p1) r2 []).bind fun t=>gd (t.length≤12) <| some (sortU t,0)
theorem x44_ok {b:Bed} {panels:List (Int×Int)} {v:List Int×Int} (h:x44 b panels=some v):PO 44 [(.agg [(I b.1),(.lst (b.2.1.map I) b.2.1.length .shared),(I b.2.2.1),(I b.2.2.2)]),(.lst (panels.flatMap pr) panels.length .shared)] (.tuple [(.lst (v.1.map I) v.1.length .shared),(I v.2)]):=by
 refine fn_pureW hmix lm44 rfl (pu_tup (allc (pu_map (fun _=>rfl) _ _ _) (allc rfl rfl))) fun Q hQ=>?_
 have hR:∀ T H,RetW [.tmp 4,.tmp 5] (.tuple [(.lst (v.1.map I) v.1.length .shared),(I v.2)]) .ret T H→Q .ret T H:=fun T H hh=>hQ _ T H hh
 unfold x44 at h
 unfold rm44
 obtain ⟨c_L,g_L⟩:∃ c,rm44_L=c:=⟨_,rfl⟩
 obtain ⟨c_3,g_3⟩:∃ c,rm44_3=c:=⟨_,rfl⟩
 unfold rm44_6 rm44_5 rm44_4
 rw [g_L,g_3]
 conv=>whnf
 obtain ⟨r1,hb1,h⟩:=bd_some h
 rcases r1 with ⟨_ | p1,q1⟩
 ·refine ⟨(allc (pu_agg (allc rfl (allc (pu_map (fun _=>rfl) _ _ _) (allc rfl (allc rfl rfl))))) (allc (pu_flat (fun _=>(allc rfl (allc rfl rfl))) _ _ _) rfl)),_,x69_ok hb1,?_⟩
  conv=>whnf
  rcases bt (decide (q1≠(0:Int))) with hb2 | hb2
  ·rw [hb2]
   conv=>whnf
   replace h:=it_t hb2 h
   obtain rfl:=Option.some.inj h
   exact hR _ _ ⟨.inr rfl,_,rfl,_,frz_pure (pu_tup (allc rfl (allc rfl rfl))),rfl⟩
  ·exact none_ne (it_f hb2 h)
 ·refine ⟨(allc (pu_agg (allc rfl (allc (pu_map (fun _=>rfl) _ _ _) (allc rfl (allc rfl rfl))))) (allc (pu_flat (fun _=>(allc rfl (allc rfl rfl))) _ _ _) rfl)),_,x69_ok hb1,?_⟩
  conv=>whnf
  rcases bt (decide (q1≠(0:Int))) with hb2 | hb2
  ·rw [hb2]
   conv=>whnf
   replace h:=it_t hb2 h
   obtain rfl:=Option.some.inj h
   exact hR _ _ ⟨.inr rfl,_,rfl,_,frz_pure (pu_tup (allc rfl (allc rfl rfl))),rfl⟩
  ·rw [hb2]
   conv=>whnf
   replace h:=it_f hb2 h
   obtain ⟨r2,hb3,h⟩:=bd_some h
   obtain ⟨hl,h⟩:=gd_some h
   obtain ⟨t,hb4,h⟩:=bd_some h
   obtain ⟨hl2,h⟩:=gd_some h
   refine ⟨(allc (pu_lptr (allc rfl (allc (pu_map (fun _=>rfl) _ _ _) (allc rfl (allc rfl (allc (pu_flat (fun _=>(allc rfl (allc rfl rfl))) _ _ _) (allc (pu_map (fun _=>rfl) _ _ _) (pu_run (fun _=>rfl) _)))))))) rfl),_,x74_ok hb3,?_⟩
   conv=>whnf
   subst g_L
   refine m44_l hl hb4 ?_ (by exact rfl)
   intro u0 u1 u2 u3 u4 u5 u6 u7 u10 u11 u12 u13 u14 u15 u16 u17 u18 u19 u20 u21 u22 u23 u24 u25 u26 u27 u28 u29 u30 u31 u32 u33 u34 u35 u36 u37 u38 u39 u40 u41 u42 u43 u44 u45 u46 u47 Y
   subst g_3
   cases t with
   | nil =>
     conv=>whnf
     refine ⟨_,_,call1 sort0_sem,?_⟩
     conv=>whnf
     rw [sortU_nil] at h
     obtain rfl:=Option.some.inj h
     exact hR _ _ ⟨.inr rfl,_,rfl,_,frz_pure (pu_tup (allc rfl (allc rfl rfl))),rfl⟩
   | cons a t =>
     conv=>whnf
     refine ⟨Nat.succ_ne_zero _,?_⟩
     conv=>whnf
     obtain ⟨d,hd⟩:∃ d:Array Int,d=(a::t).toArray:=⟨_,rfl⟩
     obtain ⟨S,hSd⟩:∃ S,S=Sort.insertionSort Sort.ltInt d 0 d.size:=⟨_,rfl⟩
     have hds:d.size=(a::t).length:=by rw [hd];rfl
     have hss:S.size=(a::t).length:=by rw [hSd,insS_len,hds]
     have e1:AObj.cells (List.map I (a::t))=Cd d:=by rw [hd];rfl
     have hsu:sortU (a::t)=S.toList:=by rw [hSd,hds,hd];rfl
     obtain ⟨o1,ho1⟩:∃ o1,AObj.cells (List.map AV.settle [I b.1,AV.lst (List.map I b.2.1) b.2.1.length .shared,I b.2.2.1,I b.2.2.2])=o1:=⟨_,rfl⟩
     rw [ho1,e1]
     have hS:=sort12_sem (lo:=0) (id:=(o1::AObj.cells [rawL (a::t)]::Y).length) (Nat.zero_le _) d (by rw [hds];exact hl2) (H:=(o1::AObj.cells [AV.ref (o1::AObj.cells [rawL (a::t)]::Y).length 0 (a::t).length none 1]::Y)++[Cd d]) (get_concat (o1::AObj.cells [AV.ref (o1::AObj.cells [rawL (a::t)]::Y).length 0 (a::t).length none 1]::Y) _)
     rw [←hSd,hds] at hS
     have hS2:Sem Tryz.prog (.fn 84) [AV.ref (o1::AObj.cells [rawL (a::t)]::Y).length 0 (a::t).length none 1] ((o1::AObj.cells [AV.ref (o1::AObj.cells [rawL (a::t)]::Y).length 0 (a::t).length none 1]::Y)++[Cd d]) 0 (.tuple []) ((o1::AObj.cells [AV.ref (o1::AObj.cells [rawL (a::t)]::Y).length 0 (a::t).length none 1]::Y)++[Cd S]):=by
      have e2:=set_concat (o1::AObj.cells [AV.ref (o1::AObj.cells [rawL (a::t)]::Y).length 0 (a::t).length none 1]::Y) (Cd d) (Cd S)
      rw [←e2]
      exact hS
     refine ⟨_,_,call1 hS2,?_⟩
     conv=>whnf
     rw [hsu] at h
     obtain rfl:=Option.some.inj h
     exact hR _ _ ⟨.inr rfl,_,rfl,_,(frz_tup (mapO_cons' (frz_row (f:=I) (l:=S.toList) (by exact get_concat (o1::AObj.cells [AV.ref (o1::AObj.cells [rawL (a::t)]::Y).length 0 (a::t).length none 1]::Y) (Cd S)) (hss.symm.trans Array.length_toList.symm) (fun _=>rfl) (fun _=>rfl)) (mapO_cons' (frz_pure rfl) mapO_nil'))),by rw [hss.symm];rfl⟩

end Go.Proofs.YtbnbjjgagikobaaGreat.Ab


namespace Go.Proofs.YtbnbjjgagikobaaGreat.Ab
open Go
set_option maxRecDepth 20000
set_option maxHeartbeats 4000000

noncomputable def xrc7_2:RC :=
 .cond (.sl 32) (.seq (.reg false [I_ 33 [.cv (.func 17 [] [])] (.call 3),I_ 8 [.tk 33] .mv]) .ret) .skip
noncomputable def xrc7_6:RC :=
 .cond (.sl 80) (.seq (.reg false [I_ 8 [.cv (.bool false)] .mv]) .ret) .skip
noncomputable def xrc7_14:RC :=
 .cond (.sl 105) (.reg false [I_ 106 [.tk 20] .mv,I_ 107 [.sl 21] .mv,I_ 108 [.tv 107] (.buildS 1 1 [.int .i64 0] [0]),I_ 109 [.tk 106,.tk 108] (.app 1 8),I_ 20 [.tk 109] .mv]) .skip
noncomputable def xrc7_13:RC :=
 .reg false [I_ 99 [.tk 21] .mv,I_ 100 [.tv 99,.cv (.int .i64 1)] (.bin .add),I_ 21 [.tk 100] .mv]
noncomputable def xrc7_12:RC :=
 .seq (.block 1 (.seq (.reg false [I_ 101 [.sl 3] .mv,I_ 102 [.sl 21] .mv,I_ 103 [.tv 101,.tv 102] (.bin .shr),I_ 104 [.tv 103,.cv (.int .u16 1)] (.bin .and),I_ 105 [.tv 104,.cv (.int .u16 1)] (.bin .eql)]) xrc7_14)) xrc7_13
noncomputable def xrc7_15:RC :=
 .loop (some [o_,i_,o_,i_,i_,o_,o_,o_,o_,i_,o_,o_,o_,i_,o_,i_,o_,i_,i_,i_,i_,i_,o_,o_,o_,o_,o_,o_,o_,o_,o_,o_,o_,o_,o_,o_,o_,o_,o_,o_,o_,o_,o_,o_,o_,o_,o_,o_,o_,o_,o_,o_,o_,o_,o_,o_,o_,o_,o_,o_,o_,o_,o_,o_,o_,o_,o_,o_,o_,o_,o_,o_,o_,o_,o_,o_,o_,o_,o_,o_,o_,o_,o_,o_,o_,o_,o_,o_,o_,o_,o_,o_,o_,o_,o_,o_,o_,o_,o_,o_,o_,o_,o_,o_,o_,o_,o_,o_,o_,o_,o_,o_,o_,o_,o_,o_,o_,o_,o_,o_,o_,o_,o_,o_,o_,o_,o_,o_,o_,o_,o_,o_,o_,o_,o_,o_,o_,o_,o_,o_,o_,o_,o_,o_,o_,o_,o_,o_,o_,o_,o_,o_,o_,o_,o_,o_]) (.seq (.seq (.reg false [I_ 95
 [.sl 21] .mv,I_ 96 [.sl 1] .mv,I_ 97 [.tk 96] .lenS,I_ 98 [.tv 95,.tv 97] (.bin .lss)]) (.cond (.sl 98) .skip (.exit 0))) xrc7_12)
noncomputable def xrc7_11:RC :=
 .block 0 xrc7_15
noncomputable def xrc7_17:RC :=
 .cond (.sl 140) (.seq (.reg false [I_ 8 [.cv (.bool false)] .mv]) .ret) .skip
noncomputable def xrc7_18:RC :=
 .seq (.reg false [I_ 141 [.tk 23] .mv,I_ 142 [.tv 141,.cv (.int .i64 0)] (.bin .neq),I_ 143 [.tk 142] .mv,⟨some 144,[.sl 22],some (143,false),none,.mv⟩,⟨some 145,[.tk 9],some (143,false),none,.mv⟩,⟨some 146,[.tv
 144,.tv 145],some (143,false),none,.bin .leq⟩,⟨some 147,[.tk 146],some (143,false),none,.mv⟩,⟨some 148,[.tk 22],some (147,true),none,.mv⟩,⟨some 149,[.tk 13],some (147,true),none,.mv⟩,⟨some 150,[.tv 148,
 .tv 149],some (147,true),none,.bin .leq⟩,⟨some 151,[.tv 147,.tv 150,.cv (.bool false)],some (143,false),none,.pick⟩,I_ 152 [.tv 143,.cv (.bool true),.tv 151] .pick,I_ 153 [.tk 152] .mv,⟨some 154,[.cv (.func 17
 [] [])],some (153,true),none,.call 3⟩,I_ 155 [.tv 153,.tv 154,.cv (.bool false)] .pick,I_ 8 [.tk 155] .mv]) .ret
noncomputable def xrc7_16:RC :=
 .seq (.seq (.reg false [I_ 117 [.tk 15] .mv,I_ 118 [.tv 117,.cv (.int .i64 0)] (.bin .neq),I_ 119 [.tk 118] .mv,⟨some 120,[.tk 17],some (119,false),none,.mv⟩,⟨some 121,[.tv 120,.cv (.int .i64 0)],some (119,false),
 none,.bin .neq⟩,I_ 122 [.tv 119,.cv (.bool true),.tv 121] .pick,I_ 123 [.tk 122] .mv,⟨some 124,[.tk 18],some (123,false),none,.mv⟩,⟨some 125,[.sl 9],some (123,false),none,.mv⟩,⟨some 126,[.tv 124,.tv 125],
 some (123,false),none,.bin .neq⟩,I_ 127 [.tv 123,.cv (.bool true),.tv 126] .pick,I_ 128 [.tk 127] .mv,⟨some 129,[.tk 19],some (128,false),none,.mv⟩,⟨some 130,[.sl 9],some (128,false),none,.mv⟩,⟨some 131,
 [.tv 129,.tv 130],some (128,false),none,.bin .neq⟩,I_ 132 [.tv 128,.cv (.bool true),.tv 131] .pick,I_ 133 [.tk 132] .mv,⟨some 134,[.sl 23],some (133,false),none,.mv⟩,⟨some 135,[.tv 134,.cv (.int .i64 0)],some
 (133,false),none,.bin .neq⟩,⟨some 136,[.tk 135],some (133,false),none,.mv⟩,⟨some 137,[.sl 23],some (136,true),none,.mv⟩,⟨some 138,[.tv 137,.cv (.int .i64 14)],some (136,true),none,.bin .neq⟩,⟨some 139,
 [.tv 136,.tv 138,.cv (.bool false)],some (133,false),none,.pick⟩,I_ 140 [.tv 133,.cv (.bool true),.tv 139] .pick]) xrc7_17) xrc7_18
noncomputable def xrc7_10:RC :=
 .seq (.reg false [I_ 111 [.tv 4] (.ld (.str 4)),I_ 112 [.tk 1] .mv,I_ 113 [.tk 20] .mv,I_ 114 [.cv (.func 38 [] []),.sl 111,.sl 112,.sl 113] (.call 3),I_ 110 [.tk 114] .mv,I_ 115 [.sl 110] (.ext 0),I_ 116 [.tv 110] (.ext
 1),I_ 22 [.tk 115] .mv,I_ 23 [.tk 116] .mv]) xrc7_16
noncomputable def xrc7_9:RC :=
 .seq (.seq (.reg false [I_ 21 [.cv (.int .i64 0)] .mv]) xrc7_11) xrc7_10
noncomputable def xrc7_8:RC :=
 .seq (.reg false [I_ 20 [.cv (.lst [] 0 .full)] (.nil 1)]) xrc7_9
noncomputable def xrc7_7:RC :=
 .seq (.reg false [I_ 89 [.sl 4] (.ld (.str 4)),I_ 90 [.sl 1] .mv,I_ 91 [.tk 16] .mv,I_ 92 [.cv (.func 39 [] []),.sl 89,.sl 90,.sl 91] (.call 3),I_ 88 [.tk 92] .mv,I_ 93 [.sl 88] (.ext 0),I_ 94 [.tv 88] (.ext 1),I_ 19
 [.tk 93] .mv,I_ 17 [.tk 94] .mv]) xrc7_8
noncomputable def xrc7_5:RC :=
 .seq (.seq (.reg false [I_ 59 [.tk 12] .mv,I_ 60 [.tv 59] (.un .not),I_ 61 [.tk 60] .mv,⟨some 62,[.tk 15],some (61,false),none,.mv⟩,⟨some 63,[.tv 62,.cv (.int .i64 0)],some (61,false),none,.bin .neq⟩,I_ 64 [.tv
 61,.cv (.bool true),.tv 63] .pick,I_ 65 [.tk 64] .mv,⟨some 66,[.sl 13],some (65,false),none,.mv⟩,⟨some 67,[.sl 9],some (65,false),none,.mv⟩,⟨some 68,[.tv 66,.tv 67],some (65,false),none,.bin .lss⟩,I_ 69
 [.tv 65,.cv (.bool true),.tv 68] .pick,I_ 70 [.tk 69] .mv,⟨some 71,[.tk 17],some (70,false),none,.mv⟩,⟨some 72,[.tv 71,.cv (.int .i64 0)],some (70,false),none,.bin .neq⟩,I_ 73 [.tv 70,.cv (.bool true),.tv 72]
 .pick,I_ 74 [.tk 73] .mv,⟨some 75,[.sl 16],some (74,false),none,.mv⟩,⟨some 76,[.tk 75],some (74,false),none,.lenS⟩,⟨some 77,[.sl 1],some (74,false),none,.mv⟩,⟨some 78,[.tk 77],some (74,false),none,
 .lenS⟩,⟨some 79,[.tv 76,.tv 78],some (74,false),none,.bin .gtr⟩,I_ 80 [.tv 74,.cv (.bool true),.tv 79] .pick]) xrc7_6) (.seq (.reg false [I_ 82 [.sl 4] (.ld (.str 4)),I_ 83 [.sl 1] .mv,I_ 84 [.sl 16] .mv,I_ 85 [.cv
 (.func 38 [] []),.sl 82,.sl 83,.sl 84] (.call 3),I_ 81 [.tk 85] .mv,I_ 86 [.sl 81] (.ext 0),I_ 87 [.tv 81] (.ext 1),I_ 18 [.tk 86] .mv,I_ 15 [.tk 87] .mv]) xrc7_7)
noncomputable def xrc7_4:RC :=
 .seq (.reg false [I_ 54 [.sl 4] (.ld (.str 4)),I_ 55 [.sl 1] .mv,I_ 56 [.cv (.func 44 [] []),.sl 54,.sl 55] (.call 3),I_ 53 [.tk 56] .mv,I_ 57 [.sl 53] (.ext 0),I_ 58 [.tv 53] (.ext 1),I_ 16 [.tk 57] .mv,I_ 17 [.tk 58]
 .mv]) xrc7_5
noncomputable def xrc7_3:RC :=
 .seq (.reg true [I_ 43 [.sl 4] (.ld (.str 4)),I_ 44 [.sl 1] .mv,I_ 45 [.sl 4] (.ld (.str 4)),I_ 46 [.sl 1] .mv,I_ 47 [.tk 2] .mv,I_ 48 [.cv (.func 47 [] []),.sl 45,.sl 46,.sl 47] (.call 3),I_ 49 [.cv (.func 26 [] []),
 .sl 43,.sl 44,.sl 48] (.call 3),I_ 42 [.tk 49] .mv,I_ 50 [.sl 42] (.ext 0),I_ 51 [.sl 42] (.ext 1),I_ 52 [.sl 42] (.ext 2),I_ 13 [.tk 50] .mv,I_ 14 [.tk 51] .mv,I_ 15 [.tk 52] .mv]) xrc7_4
noncomputable def xrc7_1:RC :=
 .seq (.seq (.reg false [I_ 24 [.sl 4] (.ld (.str 4)),I_ 25 [.sl 1] .mv,I_ 26 [.cv (.func 45 [] []),.sl 24,.sl 25] (.call 3),I_ 27 [.tv 26] (.un .not),I_ 28 [.tk 27] .mv,⟨some 29,[.sl 2],some (28,false),none,.mv⟩,
 ⟨some 30,[.tk 29],some (28,false),none,.lenS⟩,⟨some 31,[.tv 30,.cv (.int .i64 20)],some (28,false),none,.bin .gtr⟩,I_ 32 [.tv 28,.cv (.bool true),.tv 31] .pick]) xrc7_2) (.seq (.reg false [I_ 35 [.sl 4] (.ld
 (.str 4)),I_ 36 [.sl 1] .mv,I_ 37 [.cv (.func 46 [] []),.sl 35,.sl 36] (.call 3),I_ 34 [.tk 37] .mv,I_ 38 [.sl 34] (.ext 0),I_ 39 [.sl 34] (.ext 1),I_ 40 [.sl 34] (.ext 2),I_ 41 [.tv 34] (.ext 3),I_ 9 [.tk 38] .mv,I_
 10 [.tk 39] .mv,I_ 11 [.tk 40] .mv,I_ 12 [.tk 41] .mv]) xrc7_3)
noncomputable def xrc7:RC :=
 .seq (.reg false [I_ 4 [.tk 0] .box,I_ 8 [.cv (.bool false)] .mv]) xrc7_1
theorem lxx7:linkF Tryz.prog ann7 7=some (xrc7,156,[.tmp 8]):=by kernel_rfl
def x7_l1 (panels:(List (Int×Int))) (bits:Int) (kl1_0:(List Int)→Option Bool):Nat→(List Int)→Int→Option Bool
 | 0,_,_=>none
 | m+1,s1,s2 =>
   if (decide (s2<(panels.length:Int)))=true then
    gd (0≤s2) <|
    if (decide ((IntKind.wrap .u16 ((BitVec.ofInt IntKind.u16.bits (bits.fdiv (2 ^ (Nat.min s2.toNat IntKind.u16.bits))) &&& BitVec.ofInt IntKind.u16.bits (1:Int)).toNat:Int))=(1:Int)))=true then
     gd ((s1.length+1)*8≤140737488355328) <|
     x7_l1 panels bits kl1_0 m (s1++[s2]) (w (s2+(1:Int)))
    else
     x7_l1 panels bits kl1_0 m s1 (w (s2+(1:Int)))
   else
    kl1_0 s1
def x7_j2 (r3:(Int×Int×(List (List Int))×Bool)) (r5:(Int×Int×Int)) (r9:(Int×Int))  : Option Bool :=
 if (decide (r9.2≠(0:Int)))=true then
  (x17).bind fun r10 =>
  some r10
 else
  if (decide (r9.1≤r3.1))=true then
   if (decide (r9.1≤r5.1))=true then
    (x17).bind fun r11 =>
    some r11
   else
    some false
  else
   some false
def x7 (b:(Int×(List Int)×Int×Int)) (panels:(List (Int×Int))) (byq:(List Int)) (bits:Int):Option Bool :=
 (x45 b panels).bind fun r1 =>
 if r1=true then
  if (decide ((20:Int)<(byq.length:Int)))=true then
   (x17).bind fun r2 =>
   some r2
  else
   (x46 b panels).bind fun r3 =>
   (x47 b panels byq).bind fun r4 =>
   (x26 b panels r4).bind fun r5 =>
   (x44 b panels).bind fun r6 =>
   if r3.2.2.2=true then
    if (decide (r5.2.2≠(0:Int)))=true then
     some false
    else
     if (decide (r5.1<r3.1))=true then
      some false
     else
      if (decide (r6.2≠(0:Int)))=true then
       some false
      else
       if (decide ((panels.length:Int)<(r6.1.length:Int)))=true then
        some false
       else
        (x38 b panels r6.1).bind fun r7 =>
        (x39 b panels r6.1).bind fun r8 =>
        x7_l1 panels bits (fun z1 =>
          (x38 b panels z1).bind fun r9 =>
          if (decide (r7.2≠(0:Int)))=true then
           some false
          else
           if (decide (r8.2≠(0:Int)))=true then
            some false
           else
            if (decide (r7.1≠r3.1))=true then
             some false
            else
             if (decide (r8.1≠r3.1))=true then
              some false
             else
              if (decide (r9.2≠(0:Int)))=true then
               if (decide (r9.2≠(14:Int)))=true then
                some false
               else
                x7_j2 r3 r5 r9
              else
               x7_j2 r3 r5 r9) FU ([]:List Int) (0:Int)
   else
    some false
 else
  (x17).bind fun r12 =>
  some r12
theorem x7_l1_ok {panels:(List (Int×Int))} {bits:Int} {kl1_0:(List Int)→Option Bool} {s1:(List Int)} {s2:Int} {b:(Int×(List Int)×Int×Int)} {r3:(Int×Int×(List (List Int))×Bool)} {r5:(Int×Int×Int)} {r7:(Int×Int)} {r8:(Int×Int)} {v:Bool} {Q:Ex→List AV→List AObj→Prop}   (hkl1_0:∀ (z1:(List Int)) (u0:AV) (u2:AV) (u3:AV) (u7:AV) (u8:AV) (u10:AV) (u11:AV) (u12:AV) (u14:AV) (u16:AV) (u21:AV) (u22:AV) (u23:AV) (u24:AV) (u25:AV) (u26:AV) (u27:AV) (u28:AV) (u29:AV) (u30:AV) (u31:AV) (u32:AV) (u33:AV) (u34:AV) (u35:AV) (u36:AV) (u37:AV) (u38:AV) (u39:AV) (u40:AV) (u41:AV) (u42:AV) (u43:AV) (u44:AV) (u45:AV) (u46:AV) (u47:AV) (u48:AV) (u49:AV) (u50:AV) (u51:AV) (u52:AV) (u53:AV) (u54:AV) (u55:AV) (u56:AV) (u57:AV) (u58:AV) (u59:AV) (u60:AV) (u61:AV) (u62:AV) (u63:AV) (u64:AV) (u65:AV) (u66:AV) (u67:AV) (u68:AV) (u69:AV) (u70:AV) (u71:AV) (u72:AV) (u73:AV) (u74:AV) (u75:AV) (u76:AV) (u77:AV) (u78:AV) (u79:AV) (u80:AV) (u81:AV) (u82:AV) (u83:AV) (u84:AV) (u85:AV) (u86:AV) (u87:AV) (u88:AV) (u89:AV) (u90:AV) (u91:AV) (u92:AV) (u93:AV) (u94:AV) (u95:AV) (u96:AV) (u97:AV) (u98:AV) (u99:AV) (u100:AV) (u101:AV) (u102:AV) (u103:AV) (u104:AV) (u105:AV) (u106:AV) (u107:AV) (u108:AV) (u109:AV) (u110:AV) (u111:AV) (u112:AV) (u113:AV) (u114:AV) (u115:AV) (u116:AV) (u117:AV) (u118:AV) (u119:AV) (u120:AV) (u121:AV) (u122:AV) (u123:AV) (u124:AV) (u125:AV) (u126:AV) (u127:AV) (u128:AV) (u129:AV) (u130:AV) (u131:AV) (u132:AV) (u133:AV) (u134:AV) (u135:AV) (u136:AV) (u137:AV) (u138:AV) (u139:AV) (u140:AV) (u141:AV) (u142:AV) (u143:AV) (u144:AV) (u145:AV) (u146:AV) (u147:AV) (u148:AV) (u149:AV) (u150:AV) (u151:AV) (u152:AV) (u153:AV) (u154:AV) (u155:AV),kl1_0 z1=some v→Q (.exit 0) [u0,(.lst (panels.flatMap pr) panels.length .shared),u2,u3,(.ptr 0 0),J,J,u7,u8,(I r3.1),u10,u11,u12,(I r5.1),u14,(I r7.2),u16,(I r8.2),(I r7.1),(I r8.1),(.lst (z1.map I) z1.length (.uniq 1)),u21,u22,u23,u24,u25,u26,u27,u28,u29,u30,u31,u32,u33,u34,u35,u36,u37,u38,u39,u40,u41,u42,u43,u44,u45,u46,u47,u48,u49,u50,u51,u52,u53,u54,u55,u56,u57,u58,u59,u60,u61,u62,u63,u64,u65,u66,u67,u68,u69,u70,u71,u72,u73,u74,u75,u76,u77,u78,u79,u80,u81,u82,u83,u84,u85,u86,u87,u88,u89,u90,u91,u92,u93,u94,u95,u96,u97,u98,u99,u100,u101,u102,u103,u104,u105,u106,u107,u108,u109,u110,u111,u112,u113,u114,u115,u116,u117,u118,u119,u120,u121,u122,u123,u124,u125,u126,u127,u128,u129,u130,u131,u132,u133,u134,u135,u136,u137,u138,u139,u140,u141,u142,u143,u144,u145,u146,u147,u148,u149,u150,u151,u152,u153,u154,u155] [AObj.cells [(I b.1),(.lst (b.2.1.map I) b.2.1.length .shared),(I b.2.2.1),(I b.2.2.2)]]) {T:List AV} (hT:zipKeep [o_,i_,o_,i_,i_,o_,o_,o_,o_,i_,o_,o_,o_,i_,o_,i_,o_,i_,i_,i_,i_,i_,o_,o_,o_,o_,o_,o_,o_,o_,o_,o_,o_,o_,o_,o_,o_,o_,o_,o_,o_,o_,o_,o_,o_,o_,o_,o_,o_,o_,o_,o_,o_,o_,o_,o_,o_,o_,o_,o_,o_,o_,o_,o_,o_,o_,o_,o_,o_,o_,o_,o_,o_,o_,o_,o_,o_,o_,o_,o_,o_,o_,o_,o_,o_,o_,o_,o_,o_,o_,o_,o_,o_,o_,o_,o_,o_,o_,o_,o_,o_,o_,o_,o_,o_,o_,o_,o_,o_,o_,o_,o_,o_,o_,o_,o_,o_,o_,o_,o_,o_,o_,o_,o_,o_,o_,o_,o_,o_,o_,o_,o_,o_,o_,o_,o_,o_,o_,o_,o_,o_,o_,o_,o_,o_,o_,o_,o_,o_,o_,o_,o_,o_,o_,o_,o_] T=slots 156 [(1,(.lst (panels.flatMap pr) panels.length .shared)),(3,(U16 bits)),(4,(.ptr 0 0)),(9,(I r3.1)),(13,(I r5.1)),(15,(I r7.2)),(17,(I r8.2)),(18,(I r7.1)),(19,(I r8.1)),(20,(.lst (s1.map I) s1.length (.uniq 1))),(21,(I s2))]) (h:x7_l1 panels bits kl1_0 FU s1 s2=some v) :
  wpR Tryz.prog ann7 7 0 none xrc7_15 T [AObj.cells [(I b.1),(.lst (b.2.1.map I) b.2.1.length .shared),(I b.2.2.1),(I b.2.2.2)]] Q:=by
 unfold xrc7_15
 obtain ⟨c_12,g_12⟩:∃ c,xrc7_12=c:=⟨_,rfl⟩
 rw [g_12]
 refine wp_loop hT ?_
 refine .intro (fun m T H=>∃ (s1:(List Int)) (s2:Int),T=slots 156 [(1,(.lst (panels.flatMap pr) panels.length .shared)),(3,(U16 bits)),(4,(.ptr 0 0)),(9,(I r3.1)),(13,(I r5.1)),(15,(I r7.2)),(17,(I r8.2)),(18,(I r7.1)),(19,(I r8.1)),(20,(.lst (s1.map I) s1.length (.uniq 1))),(21,(I s2))]∧H=[AObj.cells [(I b.1),(.lst (b.2.1.map I) b.2.1.length .shared),(I b.2.2.1),(I b.2.2.2)]]∧x7_l1 panels bits kl1_0 m s1 s2=some v) FU ⟨s1,s2,rfl,rfl,h⟩ ?_
 clear h hT
 rintro m T H ⟨s1,s2,rfl,rfl,h⟩
 cases m
 ·exact none_ne h
 rename_i m
 rw [x7_l1.eq_2] at h
 conv=>whnf
 rcases bt (decide (s2<(panels.length:Int))) with hb15 | hb15
 ·rw [hb15]
  conv=>whnf
  replace h:=it_t hb15 h
  subst g_12
  unfold xrc7_12
  obtain ⟨c_13,g_13⟩:∃ c,xrc7_13=c:=⟨_,rfl⟩
  rw [g_13]
  obtain ⟨c_14,g_14⟩:∃ c,xrc7_14=c:=⟨_,rfl⟩
  rw [g_14]
  conv=>whnf
  obtain ⟨hb16,h⟩:=gd_some h
  refine ⟨hb16,?_⟩
  conv=>whnf
  subst g_14
  unfold xrc7_14
  skip
  conv=>whnf
  rcases bt (decide ((IntKind.wrap .u16 ((BitVec.ofInt IntKind.u16.bits (bits.fdiv (2 ^ (Nat.min s2.toNat IntKind.u16.bits))) &&& BitVec.ofInt IntKind.u16.bits (1:Int)).toNat:Int))=(1:Int))) with hb17 | hb17
  ·rw [hb17]
   conv=>whnf
   replace h:=it_t hb17 h
   obtain ⟨hb18,h⟩:=gd_some h
   refine ⟨by first | rfl | simp,by have:=hb18;omega,rfl,hb18,?_⟩
   erw [apnd1 I s1 s2]
   conv=>whnf
   subst g_13
   unfold xrc7_13
   skip
   conv=>whnf
   exact ⟨m,Nat.lt_succ_self m,(s1++[s2]),(w (s2+(1:Int))),rfl,rfl,h⟩
  ·rw [hb17]
   conv=>whnf
   replace h:=it_f hb17 h
   subst g_13
   unfold xrc7_13
   skip
   conv=>whnf
   exact ⟨m,Nat.lt_succ_self m,s1,(w (s2+(1:Int))),rfl,rfl,h⟩
 ·rw [hb15]
  conv=>whnf
  replace h:=it_f hb15 h
  exact hkl1_0 _ _ _ _ _ _ _ _ _ _ _ _ _ _ _ _ _ _ _ _ _ _ _ _ _ _ _ _ _ _ _ _ _ _ _ _ _ _ _ _ _ _ _ _ _ _ _ _ _ _ _ _ _ _ _ _ _ _ _ _ _ _ _ _ _ _ _ _ _ _ _ _ _ _ _ _ _ _ _ _ _ _ _ _ _ _ _ _ _ _ _ _ _ _ _ _ _ _ _ _ _ _ _ _ _ _ _ _ _ _ _ _ _ _ _ _ _ _ _ _ _ _ _ _ _ _ _ _ _ _ _ _ _ _ _ _ _ _ _ _ _ _ _ _ _ _ h
theorem x7_j2_ok {r3:(Int×Int×(List (List Int))×Bool)} {r5:(Int×Int×Int)} {r9:(Int×Int)} {v:Bool} {Q:Ex→List AV→List AObj→Prop} {u0:AV} {u1:AV} {u2:AV} {u3:AV} {u4:AV} {u7:AV} {u8:AV} {u10:AV} {u11:AV} {u12:AV} {u14:AV} {u15:AV} {u16:AV} {u17:AV} {u18:AV} {u19:AV} {u20:AV} {u21:AV} {u24:AV} {u25:AV} {u26:AV} {u27:AV} {u28:AV} {u29:AV} {u30:AV} {u31:AV} {u32:AV} {u33:AV} {u34:AV} {u35:AV} {u36:AV} {u37:AV} {u38:AV} {u39:AV} {u40:AV} {u41:AV} {u42:AV} {u43:AV} {u44:AV} {u45:AV} {u46:AV} {u47:AV} {u48:AV} {u49:AV} {u50:AV} {u51:AV} {u52:AV} {u53:AV} {u54:AV} {u55:AV} {u56:AV} {u57:AV} {u58:AV} {u59:AV} {u60:AV} {u61:AV} {u62:AV} {u63:AV} {u64:AV} {u65:AV} {u66:AV} {u67:AV} {u68:AV} {u69:AV} {u70:AV} {u71:AV} {u72:AV} {u73:AV} {u74:AV} {u75:AV} {u76:AV} {u77:AV} {u78:AV} {u79:AV} {u80:AV} {u81:AV} {u82:AV} {u83:AV} {u84:AV} {u85:AV} {u86:AV} {u87:AV} {u88:AV} {u89:AV} {u90:AV} {u91:AV} {u92:AV} {u93:AV} {u94:AV} {u95:AV} {u96:AV} {u97:AV} {u98:AV} {u99:AV} {u100:AV} {u101:AV} {u102:AV} {u103:AV} {u104:AV} {u105:AV} {u106:AV} {u107:AV} {u108:AV} {u109:AV} {u110:AV} {u111:AV} {u112:AV} {u113:AV} {u114:AV} {u115:AV} {u116:AV} {u117:AV} {u118:AV} {u119:AV} {u120:AV} {u121:AV} {u122:AV} {u123:AV} {u124:AV} {u125:AV} {u126:AV} {u127:AV} {u128:AV} {u129:AV} {u130:AV} {u131:AV} {u132:AV} {u133:AV} {u134:AV} {u135:AV} {u136:AV} {u137:AV} {u138:AV} {u139:AV} {u140:AV} {u141:AV} {u142:AV} {u143:AV} {u144:AV} {u145:AV} {u146:AV} {u147:AV} {u148:AV} {u149:AV} {u150:AV} {u151:AV} {u152:AV} {u153:AV} {u154:AV} {u155:AV} {o1:AObj}  (hR:∀ T H,RetW [.tmp 8] (B v) .ret T H→Q .ret T H) (h:x7_j2 r3 r5 r9  = some v) :
  wpR Tryz.prog ann7 7 0 none xrc7_18 [u0,u1,u2,u3,u4,J,J,u7,u8,(I r3.1),u10,u11,u12,(I r5.1),u14,u15,u16,u17,u18,u19,u20,u21,(I r9.1),(I r9.2),u24,u25,u26,u27,u28,u29,u30,u31,u32,u33,u34,u35,u36,u37,u38,u39,u40,u41,u42,u43,u44,u45,u46,u47,u48,u49,u50,u51,u52,u53,u54,u55,u56,u57,u58,u59,u60,u61,u62,u63,u64,u65,u66,u67,u68,u69,u70,u71,u72,u73,u74,u75,u76,u77,u78,u79,u80,u81,u82,u83,u84,u85,u86,u87,u88,u89,u90,u91,u92,u93,u94,u95,u96,u97,u98,u99,u100,u101,u102,u103,u104,u105,u106,u107,u108,u109,u110,u111,u112,u113,u114,u115,u116,u117,u118,u119,u120,u121,u122,u123,u124,u125,u126,u127,u128,u129,u130,u131,u132,u133,u134,u135,u136,u137,u138,u139,u140,u141,u142,u143,u144,u145,u146,u147,u148,u149,u150,u151,u152,u153,u154,u155] [o1] Q:=by
 unfold x7_j2 at h
 unfold xrc7_18
 skip
 conv=>whnf
 rcases bt (decide (r9.2≠(0:Int))) with hb26 | hb26
 ·rw [hb26]
  conv=>whnf
  replace h:=it_t hb26 h
  obtain ⟨r10,hb27,h⟩:=bd_some h
  refine ⟨rfl,_,x17_ok hb27,?_⟩
  conv=>whnf
  obtain rfl:=Option.some.inj h
  exact hR _ _ ⟨.inr rfl,_,rfl,_,frz_pure rfl,rfl⟩
 ·rw [hb26]
  conv=>whnf
  replace h:=it_f hb26 h
  rcases bt (decide (r9.1≤r3.1)) with hb28 | hb28
  ·rw [hb28]
   conv=>whnf
   replace h:=it_t hb28 h
   rcases bt (decide (r9.1≤r5.1)) with hb29 | hb29
   ·rw [hb29]
    conv=>whnf
    replace h:=it_t hb29 h
    obtain ⟨r11,hb30,h⟩:=bd_some h
    refine ⟨rfl,_,x17_ok hb30,?_⟩
    conv=>whnf
    obtain rfl:=Option.some.inj h
    exact hR _ _ ⟨.inr rfl,_,rfl,_,frz_pure rfl,rfl⟩
   ·rw [hb29]
    conv=>whnf
    replace h:=it_f hb29 h
    obtain rfl:=Option.some.inj h
    exact hR _ _ ⟨.inr rfl,_,rfl,_,frz_pure rfl,rfl⟩
  ·rw [hb28]
   conv=>whnf
   replace h:=it_f hb28 h
   obtain rfl:=Option.some.inj h
   exact hR _ _ ⟨.inr rfl,_,rfl,_,frz_pure rfl,rfl⟩
theorem x7_ok {b:(Int×(List Int)×Int×Int)} {panels:(List (Int×Int))} {byq:(List Int)} {bits:Int} {v:Bool} (h:x7 b panels byq bits=some v):PO 7 [(.agg [(I b.1),(.lst (b.2.1.map I) b.2.1.length .shared),(I b.2.2.1),(I b.2.2.2)]),(.lst (panels.flatMap pr) panels.length .shared),(.lst (byq.map U8) byq.length .shared),(U16 bits)] (B v):=by
 refine fn_pureW hmix lxx7 rfl rfl fun Q hQ=>?_
 have hR:∀ T H,RetW [.tmp 8] (B v) .ret T H→Q .ret T H:=fun T H hh=>hQ _ T H hh
 unfold x7 at h
 unfold xrc7
 obtain ⟨c_1,g_1⟩:∃ c,xrc7_1=c:=⟨_,rfl⟩
 rw [g_1]
 conv=>whnf
 subst g_1
 unfold xrc7_1
 obtain ⟨c_2,g_2⟩:∃ c,xrc7_2=c:=⟨_,rfl⟩
 rw [g_2]
 obtain ⟨c_3,g_3⟩:∃ c,xrc7_3=c:=⟨_,rfl⟩
 rw [g_3]
 conv=>whnf
 obtain ⟨r1,hb1,h⟩:=bd_some h
 refine ⟨(allc (pu_agg (allc rfl (allc (pu_map (fun _=>rfl) _ _ _) (allc rfl (allc rfl rfl))))) (allc (pu_flat (fun _=>(allc rfl (allc rfl rfl))) _ _ _) rfl)),_,x45_ok hb1,?_⟩
 conv=>whnf
 cases r1
 ·conv=>whnf
  replace h:=it_f rfl h
  subst g_2
  unfold xrc7_2
  skip
  conv=>whnf
  obtain ⟨r12,hb31,h⟩:=bd_some h
  refine ⟨rfl,_,x17_ok hb31,?_⟩
  conv=>whnf
  obtain rfl:=Option.some.inj h
  exact hR _ _ ⟨.inr rfl,_,rfl,_,frz_pure rfl,rfl⟩
 ·conv=>whnf
  replace h:=it_t rfl h
  subst g_2
  unfold xrc7_2
  skip
  conv=>whnf
  rcases bt (decide ((20:Int)<(byq.length:Int))) with hb2 | hb2
  ·rw [hb2]
   conv=>whnf
   replace h:=it_t hb2 h
   obtain ⟨r2,hb3,h⟩:=bd_some h
   refine ⟨rfl,_,x17_ok hb3,?_⟩
   conv=>whnf
   obtain rfl:=Option.some.inj h
   exact hR _ _ ⟨.inr rfl,_,rfl,_,frz_pure rfl,rfl⟩
  ·rw [hb2]
   conv=>whnf
   replace h:=it_f hb2 h
   obtain ⟨r3,hb4,h⟩:=bd_some h
   refine ⟨(allc (pu_agg (allc rfl (allc (pu_map (fun _=>rfl) _ _ _) (allc rfl (allc rfl rfl))))) (allc (pu_flat (fun _=>(allc rfl (allc rfl rfl))) _ _ _) rfl)),_,x46_ok hb4,?_⟩
   conv=>whnf
   subst g_3
   unfold xrc7_3
   obtain ⟨c_4,g_4⟩:∃ c,xrc7_4=c:=⟨_,rfl⟩
   rw [g_4]
   conv=>whnf
   obtain ⟨r4,hb5,h⟩:=bd_some h
   refine ⟨(allc (pu_agg (allc rfl (allc (pu_map (fun _=>rfl) _ _ _) (allc rfl (allc rfl rfl))))) (allc (pu_flat (fun _=>(allc rfl (allc rfl rfl))) _ _ _) (allc (pu_map (fun _=>rfl) _ _ _) rfl))),_,x47_ok hb5,acc0,?_⟩
   conv=>whnf
   obtain ⟨r5,hb6,h⟩:=bd_some h
   refine ⟨(allc (pu_agg (allc rfl (allc (pu_map (fun _=>rfl) _ _ _) (allc rfl (allc rfl rfl))))) (allc (pu_flat (fun _=>(allc rfl (allc rfl rfl))) _ _ _) (allc (pu_map (fun _=>(pu_map (fun _=>rfl) _ _ _)) _ _ _) rfl))),_,x26_ok hb6,accN rfl,?_⟩
   conv=>whnf
   subst g_4
   unfold xrc7_4
   obtain ⟨c_5,g_5⟩:∃ c,xrc7_5=c:=⟨_,rfl⟩
   rw [g_5]
   conv=>whnf
   obtain ⟨r6,hb7,h⟩:=bd_some h
   refine ⟨(allc (pu_agg (allc rfl (allc (pu_map (fun _=>rfl) _ _ _) (allc rfl (allc rfl rfl))))) (allc (pu_flat (fun _=>(allc rfl (allc rfl rfl))) _ _ _) rfl)),_,x44_ok hb7,?_⟩
   conv=>whnf
   subst g_5
   unfold xrc7_5
   obtain ⟨c_6,g_6⟩:∃ c,xrc7_6=c:=⟨_,rfl⟩
   rw [g_6]
   obtain ⟨c_7,g_7⟩:∃ c,xrc7_7=c:=⟨_,rfl⟩
   rw [g_7]
   conv=>whnf
   rcases bt r3.2.2.2 with hb8 | hb8
   ·rw [hb8]
    conv=>whnf
    replace h:=it_t hb8 h
    rcases bt (decide (r5.2.2≠(0:Int))) with hb9 | hb9
    ·rw [hb9]
     conv=>whnf
     replace h:=it_t hb9 h
     subst g_6
     unfold xrc7_6
     skip
     conv=>whnf
     obtain rfl:=Option.some.inj h
     exact hR _ _ ⟨.inr rfl,_,rfl,_,frz_pure rfl,rfl⟩
    ·rw [hb9]
     conv=>whnf
     replace h:=it_f hb9 h
     rcases bt (decide (r5.1<r3.1)) with hb10 | hb10
     ·rw [hb10]
      conv=>whnf
      replace h:=it_t hb10 h
      subst g_6
      unfold xrc7_6
      skip
      conv=>whnf
      obtain rfl:=Option.some.inj h
      exact hR _ _ ⟨.inr rfl,_,rfl,_,frz_pure rfl,rfl⟩
     ·rw [hb10]
      conv=>whnf
      replace h:=it_f hb10 h
      rcases bt (decide (r6.2≠(0:Int))) with hb11 | hb11
      ·rw [hb11]
       conv=>whnf
       replace h:=it_t hb11 h
       subst g_6
       unfold xrc7_6
       skip
       conv=>whnf
       obtain rfl:=Option.some.inj h
       exact hR _ _ ⟨.inr rfl,_,rfl,_,frz_pure rfl,rfl⟩
      ·rw [hb11]
       conv=>whnf
       replace h:=it_f hb11 h
       subst g_6
       unfold xrc7_6
       skip
       conv=>whnf
       rcases bt (decide ((panels.length:Int)<(r6.1.length:Int))) with hb12 | hb12
       ·rw [hb12]
        conv=>whnf
        replace h:=it_t hb12 h
        obtain rfl:=Option.some.inj h
        exact hR _ _ ⟨.inr rfl,_,rfl,_,frz_pure rfl,rfl⟩
       ·rw [hb12]
        conv=>whnf
        replace h:=it_f hb12 h
        obtain ⟨r7,hb13,h⟩:=bd_some h
        refine ⟨(allc (pu_agg (allc rfl (allc (pu_map (fun _=>rfl) _ _ _) (allc rfl (allc rfl rfl))))) (allc (pu_flat (fun _=>(allc rfl (allc rfl rfl))) _ _ _) (allc (pu_map (fun _=>rfl) _ _ _) rfl))),_,x38_ok hb13,?_⟩
        conv=>whnf
        subst g_7
        unfold xrc7_7
        obtain ⟨c_8,g_8⟩:∃ c,xrc7_8=c:=⟨_,rfl⟩
        rw [g_8]
        conv=>whnf
        obtain ⟨r8,hb14,h⟩:=bd_some h
        refine ⟨(allc (pu_agg (allc rfl (allc (pu_map (fun _=>rfl) _ _ _) (allc rfl (allc rfl rfl))))) (allc (pu_flat (fun _=>(allc rfl (allc rfl rfl))) _ _ _) (allc (pu_map (fun _=>rfl) _ _ _) rfl))),_,x39_ok hb14,?_⟩
        conv=>whnf
        subst g_8
        unfold xrc7_8
        obtain ⟨c_9,g_9⟩:∃ c,xrc7_9=c:=⟨_,rfl⟩
        rw [g_9]
        conv=>whnf
        subst g_9
        unfold xrc7_9
        obtain ⟨c_10,g_10⟩:∃ c,xrc7_10=c:=⟨_,rfl⟩
        rw [g_10]
        obtain ⟨c_11,g_11⟩:∃ c,xrc7_11=c:=⟨_,rfl⟩
        rw [g_11]
        conv=>whnf
        subst g_11
        unfold xrc7_11
        obtain ⟨c_15,g_15⟩:∃ c,xrc7_15=c:=⟨_,rfl⟩
        rw [g_15]
        conv=>whnf
        subst g_15
        refine x7_l1_ok ?_ (by exact rfl) h
        intro z1 u0 u2 u3 u7 u8 u10 u11 u12 u14 u16 u21 u22 u23 u24 u25 u26 u27 u28 u29 u30 u31 u32 u33 u34 u35 u36 u37 u38 u39 u40 u41 u42 u43 u44 u45 u46 u47 u48 u49 u50 u51 u52 u53 u54 u55 u56 u57 u58 u59 u60 u61 u62 u63 u64 u65 u66 u67 u68 u69 u70 u71 u72 u73 u74 u75 u76 u77 u78 u79 u80 u81 u82 u83 u84 u85 u86 u87 u88 u89 u90 u91 u92 u93 u94 u95 u96 u97 u98 u99 u100 u101 u102 u103 u104 u105 u106 u107 u108 u109 u110 u111 u112 u113 u114 u115 u116 u117 u118 u119 u120 u121 u122 u123 u124 u125 u126 u127 u128 u129 u130 u131 u132 u133 u134 u135 u136 u137 u138 u139 u140 u141 u142 u143 u144 u145 u146 u147 u148 u149 u150 u151 u152 u153 u154 u155 h
        conv=>whnf
        subst g_10
        unfold xrc7_10
        obtain ⟨c_16,g_16⟩:∃ c,xrc7_16=c:=⟨_,rfl⟩
        rw [g_16]
        conv=>whnf
        obtain ⟨r9,hb19,h⟩:=bd_some h
        refine ⟨(allc (pu_agg (allc rfl (allc (pu_map (fun _=>rfl) _ _ _) (allc rfl (allc rfl rfl))))) (allc (pu_flat (fun _=>(allc rfl (allc rfl rfl))) _ _ _) (allc (pu_map (fun _=>rfl) _ _ _) rfl))),_,x38_ok hb19,?_⟩
        conv=>whnf
        subst g_16
        unfold xrc7_16
        obtain ⟨c_17,g_17⟩:∃ c,xrc7_17=c:=⟨_,rfl⟩
        rw [g_17]
        obtain ⟨c_18,g_18⟩:∃ c,xrc7_18=c:=⟨_,rfl⟩
        rw [g_18]
        conv=>whnf
        rcases bt (decide (r7.2≠(0:Int))) with hb20 | hb20
        ·rw [hb20]
         conv=>whnf
         replace h:=it_t hb20 h
         subst g_17
         unfold xrc7_17
         skip
         conv=>whnf
         obtain rfl:=Option.some.inj h
         exact hR _ _ ⟨.inr rfl,_,rfl,_,frz_pure rfl,rfl⟩
        ·rw [hb20]
         conv=>whnf
         replace h:=it_f hb20 h
         rcases bt (decide (r8.2≠(0:Int))) with hb21 | hb21
         ·rw [hb21]
          conv=>whnf
          replace h:=it_t hb21 h
          subst g_17
          unfold xrc7_17
          skip
          conv=>whnf
          obtain rfl:=Option.some.inj h
          exact hR _ _ ⟨.inr rfl,_,rfl,_,frz_pure rfl,rfl⟩
         ·rw [hb21]
          conv=>whnf
          replace h:=it_f hb21 h
          rcases bt (decide (r7.1≠r3.1)) with hb22 | hb22
          ·rw [hb22]
           conv=>whnf
           replace h:=it_t hb22 h
           subst g_17
           unfold xrc7_17
           skip
           conv=>whnf
           obtain rfl:=Option.some.inj h
           exact hR _ _ ⟨.inr rfl,_,rfl,_,frz_pure rfl,rfl⟩
          ·rw [hb22]
           conv=>whnf
           replace h:=it_f hb22 h
           rcases bt (decide (r8.1≠r3.1)) with hb23 | hb23
           ·rw [hb23]
            conv=>whnf
            replace h:=it_t hb23 h
            subst g_17
            unfold xrc7_17
            skip
            conv=>whnf
            obtain rfl:=Option.some.inj h
            exact hR _ _ ⟨.inr rfl,_,rfl,_,frz_pure rfl,rfl⟩
           ·rw [hb23]
            conv=>whnf
            replace h:=it_f hb23 h
            rcases bt (decide (r9.2≠(0:Int))) with hb24 | hb24
            ·rw [hb24]
             conv=>whnf
             replace h:=it_t hb24 h
             subst g_17
             unfold xrc7_17
             skip
             conv=>whnf
             rcases bt (decide (r9.2≠(14:Int))) with hb25 | hb25
             ·rw [hb25]
              conv=>whnf
              replace h:=it_t hb25 h
              obtain rfl:=Option.some.inj h
              exact hR _ _ ⟨.inr rfl,_,rfl,_,frz_pure rfl,rfl⟩
             ·rw [hb25]
              conv=>whnf
              replace h:=it_f hb25 h
              subst g_18
              refine x7_j2_ok ?_ h
              exact fun T H hh=>hR T H hh
            ·rw [hb24]
             conv=>whnf
             replace h:=it_f hb24 h
             subst g_17
             unfold xrc7_17
             skip
             conv=>whnf
             subst g_18
             refine x7_j2_ok ?_ h
             exact fun T H hh=>hR T H hh
   ·rw [hb8]
    conv=>whnf
    replace h:=it_f hb8 h
    subst g_6
    unfold xrc7_6
    skip
    conv=>whnf
    obtain rfl:=Option.some.inj h
    exact hR _ _ ⟨.inr rfl,_,rfl,_,frz_pure rfl,rfl⟩

theorem fold44r:∀ (L:List (List Int)) (t:List Int),(∀ e∈L,0<e.length)→t.length+L.length≤1000→foldO x44_r L t=some (t++L.map (·.headD 0))
 | [],t,_,_=>by simp [foldO]
 | e::L,t,h,hl=>by
   have h1:=h e (by simp)
   rw [List.length_cons] at hl
   have e0:ix e 0=e.headD 0:=by
    cases e with
    | nil=>simp at h1
    | cons a r=>rfl
   have e1:x44_r t e=some (t++[e.headD 0]):=by rw [x44_r,if_pos ⟨h1,by omega⟩,e0]
   rw [foldO,e1,Option.bind_some,fold44r L _ (fun e he=>h e (by simp [he])) (by rw [List.length_append];simp;omega),List.append_assoc];rfl
theorem fold44 {p1:Bench} {ps:List (Int×Int)} (hp1:p1.2.1=ps) (hp:ps.length≤12) {n:Nat} (hn:p1.2.2.1.length=n) (hn1:1≤n∧n≤10):∀ (r t:List Int),t.length+12*r.length≤900→foldO (x44_h p1) r t=some (t++marksL n ps r)
 | [],t,_=>by simp [foldO,marksL]
 | h::r,t,hl=>by
   rw [List.length_cons] at hl
   have hol:(ofL ps h).length≤ps.length:=by rw [ofL_len];exact idxs_len ps _
   have hcl:(chunks n (ofL ps h)).length≤ps.length:=Nat.le_trans (chunks_cnt (by omega) _) hol
   have e1:x76 p1 h=some (ofL ps h):=by rw [x76,hp1,if_pos (by omega)]
   have e2:x75 (ofL ps h) (n:Int)=some ():=if_neg (by rw [decide_eq_true_eq];omega)
   have e3:s98 (ofL ps h) (n:Int)=some (chunks n (ofL ps h)):=by
    unfold s98;rw [if_pos ⟨by omega,by omega,by omega⟩,Int.toNat_natCast]
   have e4:=fold44r (chunks n (ofL ps h)) t (fun e he=>List.length_pos_iff.2 (chunk_ne (by omega) he)) (by omega)
   have e5:x44_h p1 t h=some (t++heads n (ofL ps h)):=by
    rw [x44_h,e1,Option.bind_some,hn,e2,Option.bind_some,e3,Option.bind_some,e4];rfl
   have hh:(heads n (ofL ps h)).length≤12:=by unfold heads;rw [List.length_map];omega
   rw [foldO,e5,Option.bind_some,fold44 hp1 hp hn hn1 r _ (by rw [List.length_append];omega),List.append_assoc];rfl
theorem x44_eq {b:Bed} (hb:bErr b=0) (hl:b.2.1.length≤20) {ps:List (Int×Int)} (hp:PsOk ps):x44 b ps=some (bestM b ps,0):=by
 have hB:=bedOk hb
 have hw:=wn_pos hB
 have hpl:=hp.len
 have hol:=ordP_len b.2.2.1 ps
 have hml:=marks_len hB ps
 have e:foldO (x44_h (b,ps,wholeL b.1.toNat b.2.1,wantL ps)) (ordP b.2.2.1 ps) []=some ([]++marksL (wn b) ps (ordP b.2.2.1 ps)):=fold44 rfl hpl (n:=wn b) rfl hw (ordP b.2.2.1 ps) [] (by simp;omega)
 rw [List.nil_append] at e
 rw [x44,x69_eq hb hl hp,Option.bind_some]
 show (if (decide ((0:Int)≠(0:Int)))=true then _ else _)=_
 rw [if_neg (by decide),x74_eq hp.heat,Option.bind_some,gd_pos (by omega),e,Option.bind_some,gd_pos (by omega)];rfl
theorem mAns_best {b:Bed} (hB:BedOk b) {ps:List (Int×Int)} (hp:PsOk ps):mAns (wn b) ps (bestM b ps)=(hSum (wn b) ps 21,0):=by
 unfold mAns
 rw [if_pos (bestM_rise hB ps),if_pos (bestM_good hB hp),bestM_tot hB hp]
theorem bestM_len {b:Bed} (hB:BedOk b) (ps:List (Int×Int)):(bestM b ps).length≤ps.length:=by
 unfold bestM;rw [sortU_len];exact marks_len hB ps
def ownP (bits:Int) (i:Nat):Bool:=decide ((IntKind.wrap .u16 ((BitVec.ofInt IntKind.u16.bits (bits.fdiv (2 ^ (Nat.min (i:Int).toNat IntKind.u16.bits))) &&& BitVec.ofInt IntKind.u16.bits (1:Int)).toNat:Int))=(1:Int))
def ownL (bits:Int) (n:Nat):List Int:=((List.range n).filter (ownP bits)).map fun (i:Nat)=>(i:Int)
theorem ownL_succ (bits:Int) (n:Nat):ownL bits (n+1)=ownL bits n++if ownP bits n=true then [(n:Int)] else []:=by
 unfold ownL
 rw [List.range_succ,List.filter_append,List.map_append]
 by_cases h:ownP bits n=true
 ·rw [if_pos h,List.filter_cons_of_pos h];rfl
 ·rw [if_neg h,List.filter_cons_of_neg h];rfl
theorem ownL_len (bits:Int) (n:Nat):(ownL bits n).length≤n:=by
 unfold ownL
 rw [List.length_map]
 have:=List.length_filter_le (ownP bits) (List.range n)
 simpa using this
theorem ownL_rise (bits:Int) (n:Nat):riseGo (n:Int) 0 (ownL bits n)=true:=by
 refine (rise_iff _ _).2 ⟨fun x hx=>?_,?_⟩
 ·obtain ⟨i,hi,rfl⟩:=List.mem_map.1 hx
  have:i<n:=by simpa using (List.mem_filter.1 hi).1
  omega
 ·unfold ownL
  rw [List.pairwise_map]
  exact (List.pairwise_lt_range.filter _).imp fun h=>by omega
theorem x7_l1_eq {ps:List (Int×Int)} (hl:ps.length≤1000) {bits:Int} {k:List Int→Option Bool}:∀ (m i:Nat) (z:Int),z=i→i≤ps.length→ps.length-i<m→x7_l1 ps bits k m (ownL bits i) z=k (ownL bits ps.length)
 | 0,i,_,_,_,h=>absurd h (by omega)
 | m+1,i,_,rfl,hi,hm=>by
   rw [x7_l1]
   by_cases h:i<ps.length
   ·have hb:=ownL_len bits i
    have ih:=x7_l1_eq hl (bits:=bits) (k:=k) m (i+1) _ rfl (by omega) (by omega)
    rw [ownL_succ] at ih
    rw [iflt h,gd_pos (by omega),w_succ i (by omega)]
    by_cases hp:ownP bits i=true
    ·rw [if_pos hp] at ih
     rw [gd_pos (by omega)]
     exact (if_pos hp).trans ih
    ·rw [if_neg hp,List.append_nil] at ih
     exact (if_neg hp).trans ih
   ·obtain rfl:i=ps.length:=by omega
    rw [ifge h]
theorem x7_eq (b:Bed) (ps:List (Int×Int)) {nb:List Int} (h255:∀ x∈nb,0≤x∧x≤255) (bits:Int):x7 b ps nb bits=some true:=by
 rw [x7]
 obtain ⟨r,hr,hf⟩:=x45_eq b ps
 rw [hr,Option.bind_some]
 cases r with
 | false=>rw [if_neg (by decide)];rfl
 | true =>
   have hF:=hf rfl
   obtain ⟨hl,hb,hp⟩:=hf rfl
   have hB:=bedOk hb
   have hw:=wn_pos hB
   have hpl:=hp.len
   rw [if_pos rfl]
   by_cases h20:20<nb.length
   ·rw [if_pos (decide_eq_true (by omega))];rfl
   have hO:=givT_ok hb ps nb
   have hh:=hO.hours (by omega) hp
   have hbl:=bestM_len hB ps
   have ho:=ownL_len bits ps.length
   have e46:x46 b ps=some (hSum (wn b) ps 21,wayM b.2.2.1 (hts ps),bestT b ps,true):=x46_eq hF
   rw [if_neg (by rw [decide_eq_true_eq];omega),e46,Option.bind_some,x47_eq hb hl hpl (by omega) h255,Option.bind_some,x26_given hb hl hp,Option.bind_some,x44_eq hb hl hp,Option.bind_some,if_pos rfl]
   dsimp only
   rw [if_neg (by simp),if_neg (by rw [decide_eq_true_eq];omega),if_neg (by simp),if_neg (by rw [decide_eq_true_eq];omega),x38_eq hb hl hp (by omega),Option.bind_some,x39_eq hb hl hp (by omega),Option.bind_some,mAns_best hB hp]
   refine (x7_l1_eq (by omega) FU 0 0 rfl (Nat.zero_le _) (FU_lt (by omega))).trans ?_
   rw [x38_eq hb hl hp (by omega),Option.bind_some]
   dsimp only
   rw [if_neg (by simp),if_neg (by simp),if_neg (by simp),if_neg (by simp)]
   have hrise:=ownL_rise bits ps.length
   unfold mAns
   rw [if_pos hrise]
   by_cases hg:Good (wn b) ps (ofM ps (ownL bits ps.length))
   ·have ht:=good_hours (by omega) hp (ofM_ok hp hrise) hg
    rw [if_pos hg,if_neg (by simp),x7_j2]
    dsimp only
    rw [if_neg (by simp),if_pos (decide_eq_true ht),if_pos (decide_eq_true (by omega))];rfl
   ·rw [if_neg hg,if_pos (by simp),if_neg (by simp),x7_j2]
    dsimp only
    rw [if_pos (by simp)];rfl
theorem pressProved_ok (b:Bed) (ps:List (Int×Int)) (nb:List Int) (bits:Int) {P1 P2 P3:Prop} (_:P1) (_:P2) (h:Fy nb) (_:P3) :
  PO 7 [.agg [I b.1,L1 b.2.1,I b.2.2.1,I b.2.2.2],PL ps,Y1 nb,.int .u16 bits] (B true):=x7_ok (x7_eq b ps h.2 bits)
end Go.Proofs.YtbnbjjgagikobaaGreat.Ab
