
import Derived.Test.YtbnbjjgagikobaaGreatJf6
import Derived.Test.YtbnbjjgagikobaaGreatJf4
import Derived.Test.YtbnbjjgagikobaaGreatJf5
import Derived.KernelRfl
set_option linter.unusedSimpArgs false
set_option linter.unusedVariables false
set_option linter.unusedSectionVars false

namespace Go.Proofs.YtbnbjjgagikobaaGreat.Ab
open Go
set_option maxRecDepth 20000
set_option maxHeartbeats 4000000
def zeros (n:Nat):List Int:=List.replicate n 0

end Go.Proofs.YtbnbjjgagikobaaGreat.Ab


namespace Go.Proofs.YtbnbjjgagikobaaGreat.Ab
open Go
set_option maxRecDepth 20000
set_option maxHeartbeats 4000000

end Go.Proofs.YtbnbjjgagikobaaGreat.Ab


namespace Go.Proofs.YtbnbjjgagikobaaGreat.Ab
open Go
set_option maxRecDepth 20000
set_option maxHeartbeats 4000000

theorem ceil_one (c:Nat):ceil 1 c=c:=by unfold ceil;rw [Nat.add_sub_cancel,Nat.div_one]
theorem lt_ceil {n c k:Nat} (hn:0<n):k<ceil n c↔k*n<c:=chunks_lt hn
theorem cP_anti (ps:List (Int×Int)) (h:Int) {t t':Int} (ht:t≤t'):cP ps h t'≤cP ps h t:=by
 unfold cP
 refine List.countP_mono_left fun p _ hp=>?_
 simp only [Bool.and_eq_true,decide_eq_true_eq] at hp ⊢
 exact ⟨hp.1,by omega⟩
def Good (n:Nat) (ps qs:List (Int×Int)):Prop:=∀ q∈qs,(cP qs q.1 q.2-1)*n<cP ps q.1 q.2
theorem cP_pos {qs:List (Int×Int)} {q:Int×Int} (hq:q∈qs):0<cP qs q.1 q.2:=by
 unfold cP
 exact List.countP_pos_iff.2 ⟨q,hq,by simp⟩
theorem good_of {n:Nat} (hn:0<n) {ps qs:List (Int×Int)} (hq:∀ q∈qs,1≤q.2) (h:∀ h t:Int,1≤t→cP qs h t≤ceil n (cP ps h t)):Good n ps qs:=fun q hm=>by
 have h1:=cP_pos hm
 have h2:=h q.1 q.2 (hq q hm)
 exact (lt_ceil hn).1 (by omega)
theorem tot_cnt {qs:List (Int×Int)} (hq:PsOk qs):tot qs=sumR 21 (fun h=>sumR 24 fun t=>(cP qs h ((t:Int)+1):Int)):=by
 rw [←hSum_single hq,hSum_cnt (by omega) hq.hrs]
 exact sumR_congr fun h _=>sumR_congr fun t _=>by rw [ceil_one]
def rowsT (ps:List (Int×Int)) (ts:List (List Int)):List (Int×Int):=ts.map fun t=>(heatT ps t,hourT ps t)
theorem rowsT_tot (ps:List (Int×Int)) (ts:List (List Int)):tot (rowsT ps ts)=tHours ps ts:=by
 unfold tot rowsT tHours;rw [List.map_map];rfl
theorem rowsT_ok {n:Nat} {ps:List (Int×Int)} (hp:PsOk ps) {ts:List (List Int)} (h:TOk n ps [] ts):PsOk (rowsT ps ts):=by
 refine ⟨?_,?_,?_⟩
 ·have:=h.cnt;have:=hp.len;unfold rowsT;rw [List.length_map];omega
 ·intro p hm
  obtain ⟨t,ht,rfl⟩:=List.mem_map.1 hm
  exact heatT_in hp (h.ne t ht) (h.rng t ht)
 ·intro p hm
  obtain ⟨t,ht,rfl⟩:=List.mem_map.1 hm
  have h1:=hourT_in hp.hrs (h.rng t ht)
  refine ⟨?_,h1.2⟩
  have h2:=hp.hour _ (ixps_mem (h.rng t ht _ (ix0_mem (h.ne t ht))))
  have h3:=(maxL_spec (t.map fun x=>(ix ps x).2) 0).2.1 _ (List.mem_map.2 ⟨_,ix0_mem (h.ne t ht),rfl⟩)
  show 1≤maxL 0 (t.map fun x=>(ix ps x).2)
  omega
theorem countP_cover {n:Nat} (p:Int→Bool) (q:List Int→Bool):∀ (ts:List (List Int)),(∀ t∈ts,t.length≤n)→(∀ t∈ts,∀ x∈t,p x=true→q t=true)→ts.flatten.countP p≤ts.countP q*n
 | [],_,_=>by simp
 | t::ts,h1,h2=>by
   have ih:=countP_cover p q ts (fun t ht=>h1 t (by simp [ht])) (fun t ht=>h2 t (by simp [ht]))
   have hl:t.countP p≤t.length:=List.countP_le_length
   have ht:=h1 t (by simp)
   rw [List.flatten_cons,List.countP_append]
   by_cases hq:q t=true
   ·rw [List.countP_cons_of_pos hq,Nat.add_mul];omega
   ·rw [List.countP_cons_of_neg hq]
    have:t.countP p=0:=List.countP_eq_zero.2 fun x hx hp=>hq (h2 t (by simp) x hx hp)
    omega
theorem cP_ix (ps:List (Int×Int)) (h t:Int):cP ps h t=((List.range ps.length).map fun (i:Nat)=>(i:Int)).countP (fun x=>decide ((ix ps x).1=h) && decide (t≤(ix ps x).2)):=by
 have e:=range_get ps
 have e2:cP ps h t=((List.range ps.length).map fun (i:Nat)=>ix ps (i:Int)).countP (fun p=>decide (p.1=h) && decide (t≤p.2)):=by rw [e];rfl
 rw [e2,List.countP_map,List.countP_map];rfl
theorem TOk.perm {n:Nat} {ps:List (Int×Int)} {ts:List (List Int)} (h:TOk n ps [] ts):ts.flatten.Perm ((List.range ps.length).map fun (i:Nat)=>(i:Int)):=by
 have nd:=h.nd
 rw [List.nil_append] at nd
 refine (List.perm_ext_iff_of_nodup nd (nodup_cast _)).2 fun x=>?_
 constructor
 ·intro hx
  obtain ⟨t,ht,hxt⟩:=List.mem_flatten.1 hx
  have:=h.rng t ht x hxt
  exact List.mem_map.2 ⟨x.toNat,by simp;omega,by omega⟩
 ·intro hx
  obtain ⟨i,hi,rfl⟩:=List.mem_map.1 hx
  have hi:i<ps.length:=by simpa using hi
  obtain ⟨t,ht,hxt⟩:=h.cover (x:=(i:Int)) ⟨by omega,by omega⟩
  exact List.mem_flatten.2 ⟨t,ht,hxt⟩
theorem rowsT_cP {n:Nat} {ps:List (Int×Int)} {ts:List (List Int)} (h:TOk n ps [] ts) (he t:Int):cP ps he t≤cP (rowsT ps ts) he t*n:=by
 rw [cP_ix,←h.perm.countP_eq]
 have e:cP (rowsT ps ts) he t=ts.countP (fun u=>decide (heatT ps u=he) && decide (t≤hourT ps u)):=by
  unfold cP rowsT;rw [List.countP_map];rfl
 rw [e]
 refine countP_cover _ _ ts h.len fun u hu x hx hp=>?_
 simp only [Bool.and_eq_true,decide_eq_true_eq] at hp ⊢
 have h1:=h.heat u hu x hx
 have h3:=(maxL_spec (u.map fun x=>(ix ps x).2) 0).2.1 _ (List.mem_map.2 ⟨_,hx,rfl⟩)
 refine ⟨by omega,?_⟩
 show t≤maxL 0 (u.map fun x=>(ix ps x).2)
 omega
theorem ceil_le_of {n c k:Nat} (hn:0<n) (h:c≤k*n):ceil n c≤k:=by
 rcases Nat.lt_or_ge k (ceil n c) with h1 | h1
 ·have:=(lt_ceil hn).1 h1;omega
 ·exact h1
theorem TOk.hours {n:Nat} (hn:0<n) {ps:List (Int×Int)} (hp:PsOk ps) {ts:List (List Int)} (h:TOk n ps [] ts):hSum n ps 21≤tHours ps ts:=by
 rw [←rowsT_tot,tot_cnt (rowsT_ok hp h),hSum_cnt hn hp.hrs]
 exact sumR_le fun he _=>sumR_le fun t _=>Int.ofNat_le.2 (ceil_le_of hn (rowsT_cP h _ _))
def marksL (n:Nat) (ps:List (Int×Int)) (l:List Int):List Int:=(l.map fun h=>heads n (ofL ps h)).flatten
theorem countP_lt:∀ (N c:Nat),c≤N→(List.range N).countP (fun j=>decide (j<c))=c
 | 0,c,h=>by obtain rfl:c=0:=by omega
             rfl
 | N+1,c,h=>by
   rw [List.range_succ,List.countP_append]
   by_cases hc:c=N+1
   ·subst hc
    have:(List.range N).countP (fun j=>decide (j<N+1))=(List.range N).countP (fun j=>decide (j<N)):=List.countP_congr fun j hj=>by
     have:j<N:=by simpa using hj
     simp only [decide_eq_true_eq];omega
    rw [this,countP_lt N N (Nat.le_refl _)];simp
   ·rw [countP_lt N c (by omega)];simp;omega
theorem heads_dn {n:Nat} (hn:0<n) (l:List Int):heads n (down l)=(List.range (ceil n l.length)).map fun j=>dn l (j*n):=by
 unfold heads chunks ceil
 rw [List.map_map,down_len]
 apply List.map_congr_left
 intro j _
 exact head_dn hn _ j
theorem heads_cnt {n:Nat} (hn:0<n) {l:List Int} (h0:∀ x∈l,0≤x) {t:Int} (ht:1≤t):(heads n (down l)).countP (fun x=>decide (t≤x))=ceil n (l.countP fun x=>decide (t≤x)):=by
 rw [heads_dn hn,List.countP_map]
 have e:(List.range (ceil n l.length)).countP ((fun x=>decide (t≤x)) ∘ fun j=>dn l (j*n))=(List.range (ceil n l.length)).countP (fun j=>decide (j<ceil n (l.countP fun x=>decide (t≤x)))):=List.countP_congr fun j _=>by
  simp only [Function.comp,decide_eq_true_eq]
  rw [dn_ge h0 ht,lt_ceil hn]
 rw [e]
 exact countP_lt _ _ (ceil_mono n List.countP_le_length)
theorem heads_map {n:Nat} (hn:0<n) (f:Int→Int) (l:List Int):(heads n l).map f=heads n (l.map f):=by
 unfold heads
 rw [chunks_map,List.map_map,List.map_map]
 apply List.map_congr_left
 intro e he
 have hne:=chunk_ne hn he
 cases e with
 | nil=>exact absurd rfl hne
 | cons a r=>rfl
theorem heads_mem {n:Nat} (hn:0<n) {l:List Int} {x:Int} (h:x∈heads n l):x∈l:=by
 obtain ⟨e,he,rfl⟩:=List.mem_map.1 h
 exact head_in (Pr:=fun x=>x∈l) hn (fun x hx=>hx) he
theorem heads_sub {n:Nat} (hn:0<n) (l:List Int):(heads n l).Nodup∨¬ l.Nodup:=by
 rcases Classical.em l.Nodup with h | h
 ·refine .inl ?_
  unfold heads
  rw [List.nodup_iff_pairwise_ne,List.pairwise_map,List.pairwise_iff_getElem]
  intro i j hi hj hij
  have hci:=chunk_ne hn (List.getElem_mem hi)
  have hcj:=chunk_ne hn (List.getElem_mem hj)
  rw [chunks_get] at hci hcj ⊢
  rw [chunks_get]
  rw [chunks_len] at hi hj
  have h1:=(chunks_lt hn).1 hi
  have h2:=(chunks_lt hn).1 hj
  rw [head_dn hn,head_dn hn]
  have g:∀ (k:Nat) (hk:k<l.length),l.getD k 0=l[k]:=fun k hk=>by rw [List.getD,List.getElem?_eq_getElem hk];rfl
  rw [g _ h1,g _ h2]
  intro e
  have hlt:i*n<j*n:=(Nat.mul_lt_mul_right hn).2 hij
  exact List.pairwise_iff_getElem.1 h _ _ h1 h2 hlt e
 ·exact .inr h
abbrev ofM (ps:List (Int×Int)) (M:List Int):List (Int×Int):=M.map (ix ps)
theorem ofM_cnt (ps:List (Int×Int)) (M:List Int) (h t:Int):cP (ofM ps M) h t=M.countP (fun x=>decide ((ix ps x).1=h) && decide (t≤(ix ps x).2)):=by
 unfold cP ofM;rw [List.countP_map];rfl
theorem heads_cP {n:Nat} (hn:0<n) {ps:List (Int×Int)} (hp:hrsOk ps) (a h:Int) {t:Int} (ht:1≤t):cP (ofM ps (heads n (ofL ps a))) h t=if a=h then ceil n (cP ps h t) else 0:=by
 rw [ofM_cnt]
 by_cases e:a=h
 ·subst e
  rw [if_pos rfl]
  have e1:(heads n (ofL ps a)).countP (fun x=>decide ((ix ps x).1=a) && decide (t≤(ix ps x).2))=((heads n (ofL ps a)).map fun i=>(ix ps i).2).countP (fun x=>decide (t≤x)):=by
   rw [List.countP_map]
   refine List.countP_congr fun x hx=>?_
   have:=(ofL_mem.1 (heads_mem hn hx)).2
   simp [this]
  rw [e1,heads_map hn,ofL_hrs,heads_cnt hn (fun x hx=>(hrs_in hp a x hx).1) ht,hrs_cnt]
 ·rw [if_neg e]
  refine List.countP_eq_zero.2 fun x hx=>?_
  have:=(ofL_mem.1 (heads_mem hn hx)).2
  simp [this,e]
theorem marksL_cP {n:Nat} (hn:0<n) {ps:List (Int×Int)} (hp:hrsOk ps) (h:Int) {t:Int} (ht:1≤t):∀ l:List Int,l.Nodup→cP (ofM ps (marksL n ps l)) h t=if h∈l then ceil n (cP ps h t) else 0
 | [],_=>rfl
 | a::l,hd=>by
   obtain ⟨h1,h2⟩:=List.pairwise_cons.1 hd
   have ih:=marksL_cP hn hp h ht l h2
   have e:ofM ps (marksL n ps (a::l))=ofM ps (heads n (ofL ps a))++ofM ps (marksL n ps l):=by unfold ofM marksL;rw [List.map_cons,List.flatten_cons,List.map_append]
   have e2:cP (ofM ps (marksL n ps (a::l))) h t=cP (ofM ps (heads n (ofL ps a))) h t+cP (ofM ps (marksL n ps l)) h t:=by rw [e];unfold cP;rw [List.countP_append]
   rw [e2,ih,heads_cP hn hp a h ht]
   by_cases e3:a=h
   ·subst e3
    have:a ∉ l:=fun hm=>h1 a hm rfl
    simp [this]
   ·have e4:¬ h=a:=fun x=>e3 x.symm
    simp [e3,e4]
theorem marksL_sum {n:Nat} (hn:0<n) {ps:List (Int×Int)} (hp:hrsOk ps):∀ l:List Int,tot (ofM ps (marksL n ps l))=(l.map fun h=>hH n (hrs ps h)).sum
 | []=>rfl
 | a::l=>by
   have e:ofM ps (marksL n ps (a::l))=ofM ps (heads n (ofL ps a))++ofM ps (marksL n ps l):=by unfold ofM marksL;rw [List.map_cons,List.flatten_cons,List.map_append]
   have e1:tot (ofM ps (heads n (ofL ps a)))=hH n (hrs ps a):=by
    unfold tot ofM hH
    rw [List.map_map,←ofL_hrs,←heads_map hn];rfl
   have e2:∀ x y:List (Int×Int),tot (x++y)=tot x+tot y:=fun x y=>by unfold tot;rw [List.map_append,List.sum_append]
   rw [e,e2,e1,marksL_sum hn hp l,List.map_cons,List.sum_cons]
theorem ordP_hours {n:Nat} (hn:0<n) {ps:List (Int×Int)} (hp:PsOk ps) (h:Int):((ordP h ps).map fun h=>hH n (hrs ps h)).sum=hSum n ps 21:=by
 rw [←turnsL_sum hn hp.hrs]
 exact turnsL_hours hn hp h
theorem marksL_mem {n:Nat} (hn:0<n) {ps:List (Int×Int)} {l:List Int} {x:Int} (h:x∈marksL n ps l):∃ a∈l,x∈ofL ps a:=by
 obtain ⟨L,hL,hx⟩:=List.mem_flatten.1 h
 obtain ⟨a,ha,rfl⟩:=List.mem_map.1 hL
 exact ⟨a,ha,heads_mem hn hx⟩
theorem marksL_nodup {n:Nat} (hn:0<n) (ps:List (Int×Int)):∀ l:List Int,l.Nodup→(marksL n ps l).Nodup
 | [],_=>List.Pairwise.nil
 | a::l,hd=>by
   obtain ⟨h1,h2⟩:=List.pairwise_cons.1 hd
   have e:marksL n ps (a::l)=heads n (ofL ps a)++marksL n ps l:=rfl
   rw [e]
   refine List.pairwise_append.2 ⟨?_,marksL_nodup hn ps l h2,fun x hx y hy e=>?_⟩
   ·rcases heads_sub hn (ofL ps a) with h | h
    ·exact h
    ·exact absurd (ofL_nodup ps a) h
   ·subst e
    obtain ⟨c,hc,hy⟩:=marksL_mem hn hy
    have e1:=(ofL_mem.1 (heads_mem hn hx)).2
    have e2:=(ofL_mem.1 hy).2
    exact h1 c hc (by omega)
def bestM (b:Bed) (ps:List (Int×Int)):List Int:=sortU (marksL (wn b) ps (ordP b.2.2.1 ps))
theorem cast_len {l:List Int} {N:Nat} (hn:l.Nodup) (h:∀ x∈l,0≤x∧x<(N:Int)):l.length≤N:=by
 have:=pig l ((List.range N).map fun (i:Nat)=>(i:Int)) hn fun x hx=>by
  have:=h x hx
  exact List.mem_map.2 ⟨x.toNat,by simp;omega,by omega⟩
 simpa using this
theorem marks_len {b:Bed} (hB:BedOk b) (ps:List (Int×Int)):(marksL (wn b) ps (ordP b.2.2.1 ps)).length≤ps.length:=by
 have hw:=wn_pos hB
 refine cast_len (marksL_nodup (by omega) ps _ (ordP_nodup _ _)) fun x hx=>?_
 obtain ⟨a,_,h⟩:=marksL_mem (by omega) hx
 exact (ofL_mem.1 h).1
theorem bestM_rise {b:Bed} (hB:BedOk b) (ps:List (Int×Int)):riseGo (ps.length:Int) 0 (bestM b ps)=true:=by
 have hw:=wn_pos hB
 refine (rise_iff _ _).2 ⟨fun x hx=>?_,sortU_up (marksL_nodup (by omega) ps _ (ordP_nodup _ _))⟩
 obtain ⟨a,_,h⟩:=marksL_mem (by omega) ((sortU_mem _ _).1 hx)
 exact (ofL_mem.1 h).1
theorem bestM_tot {b:Bed} (hB:BedOk b) {ps:List (Int×Int)} (hp:PsOk ps):tot (ofM ps (bestM b ps))=hSum (wn b) ps 21:=by
 have hw:=wn_pos hB
 have e:tot (ofM ps (bestM b ps))=tot (ofM ps (marksL (wn b) ps (ordP b.2.2.1 ps))):=by
  unfold tot ofM
  exact perm_sum (((sortU_perm _).map _).map _)
 rw [e,marksL_sum (by omega) hp.hrs,ordP_hours (by omega) hp]
theorem ofM_ok {ps:List (Int×Int)} (hp:PsOk ps) {M:List Int} (h:riseGo (ps.length:Int) 0 M=true):PsOk (ofM ps M):=by
 have h1:=(rise_iff _ _).1 h
 have h2:=rise_len h (by omega)
 have h3:=hp.len
 refine ⟨by rw [List.length_map];omega,?_,?_⟩
 ·intro p hm
  obtain ⟨x,hx,rfl⟩:=List.mem_map.1 hm
  exact hp.heat _ (ixps_mem (h1.1 x hx))
 ·intro p hm
  obtain ⟨x,hx,rfl⟩:=List.mem_map.1 hm
  exact hp.hour _ (ixps_mem (h1.1 x hx))
theorem bestM_good {b:Bed} (hB:BedOk b) {ps:List (Int×Int)} (hp:PsOk ps):Good (wn b) ps (ofM ps (bestM b ps)):=by
 have hw:=wn_pos hB
 refine good_of (by omega) (fun q hq=>((ofM_ok hp (bestM_rise hB ps)).hour q hq).1) fun h t ht=>?_
 have e:cP (ofM ps (bestM b ps)) h t=cP (ofM ps (marksL (wn b) ps (ordP b.2.2.1 ps))) h t:=by
  unfold cP ofM
  exact ((sortU_perm _).map _).countP_eq _
 rw [e,marksL_cP (by omega) hp.hrs h ht _ (ordP_nodup _ _)]
 split <;> omega

noncomputable def xrc104_1:RC :=
 .loop (some [i_,i_,o_,o_,o_,o_,o_,i_,i_,o_,o_,o_,o_,o_,o_,o_,o_,o_,o_]) (.seq (.reg false [I_ 9 [.sl 8,.sl 7] (.bin .lss)]) (.seq (.cond (.sl 9) .skip (.exit
 0)) (.seq (.block 1 (.seq (.reg false [I_ 10 [.sl 8] .mv,I_ 5 [.tk 10] .mv]) (.seq (.reg false [I_ 11 [.sl 1] .mv,I_ 12 [.sl 0] .mv,I_ 13 [.sl 5] .mv,I_ 14 [.tv 12,.tv 13] (.ia 1),I_ 15 [.tv 14] (.ld .one),I_ 16 [.tv 11,
 .tv 15] (.bin .eql)]) (.cond (.sl 16) (.seq (.reg false [I_ 17 [.tk 5] .mv,I_ 4 [.tk 17] .mv]) .ret) .skip)))) (.reg false [I_ 18 [.tv 8,.cv (.int .i64 1)] (.bin .add),I_ 8 [.tk 18] .mv]))))
noncomputable def xrc104:RC :=
 .seq (.reg false [I_ 4 [.cv (.int .i64 0)] .mv]) (.seq (.seq (.reg false [I_ 6 [.sl 0] .mv,I_ 7 [.tk 6] .lenS,I_ 8 [.cv (.int .i64 0)] .mv]) (.block 0 xrc104_1)) (.seq (.reg false [I_ 4 [.cv (.int .i64 (-1))] .mv]) .ret))
theorem lxx104:linkF Tryz.prog ann104 104=some (xrc104,19,[.tmp 4]):=by kernel_rfl
def x104_l1 (s:(List Int)) (vq:Int) (kl1_0:Unit→Option Int):Nat→Int→Option Int
 | 0,_=>none
 | m+1,s1 =>
   if (decide (s1<(s.length:Int)))=true then
    gd (0≤s1∧s1<(s.length:Int)) <|
    if (decide (vq=(ix s s1)))=true then
     some s1
    else
     x104_l1 s vq kl1_0 m (w (s1+(1:Int)))
   else
    kl1_0 ()
def x104 (s:(List Int)) (vq:Int):Option Int :=
 x104_l1 s vq (fun _ =>
   some (-1:Int)) FU (0:Int)
theorem x104_l1_ok {s:(List Int)} {vq:Int} {kl1_0:Unit→Option Int} {s1:Int} {v:Int} {Q:Ex→List AV→List AObj→Prop}   (hR:∀ T H,RetW [.tmp 4] (I v) .ret T H→Q .ret T H) (hkl1_0:∀ (u0:AV) (u1:AV) (u4:AV) (u5:AV) (u6:AV) (u7:AV) (u8:AV) (u9:AV) (u10:AV) (u11:AV) (u12:AV) (u13:AV) (u14:AV) (u15:AV) (u16:AV) (u17:AV) (u18:AV),kl1_0 ()=some v→Q (.exit 0) [u0,u1,J,J,u4,u5,u6,u7,u8,u9,u10,u11,u12,u13,u14,u15,u16,u17,u18] []) {T:List AV} (hT:zipKeep [i_,i_,o_,o_,o_,o_,o_,i_,i_,o_,o_,o_,o_,o_,o_,o_,o_,o_,o_] T=slots 19 [(0,(.lst (s.map I) s.length .shared)),(1,(I vq)),(7,(I (s.length:Int))),(8,(I s1))]) (h:x104_l1 s vq kl1_0 FU s1=some v) :
  wpR Tryz.prog ann104 104 0 none xrc104_1 T [] Q:=by
 unfold xrc104_1
 skip
 refine wp_loop hT ?_
 refine .intro (fun m T H=>∃ (s1:Int),T=slots 19 [(0,(.lst (s.map I) s.length .shared)),(1,(I vq)),(7,(I (s.length:Int))),(8,(I s1))]∧H=[]∧x104_l1 s vq kl1_0 m s1=some v) FU ⟨s1,rfl,rfl,h⟩ ?_
 clear h hT
 rintro m T H ⟨s1,rfl,rfl,h⟩
 cases m
 ·exact none_ne h
 rename_i m
 rw [x104_l1.eq_2] at h
 conv=>whnf
 rcases bt (decide (s1<(s.length:Int))) with hb1 | hb1
 ·rw [hb1]
  conv=>whnf
  replace h:=it_t hb1 h
  obtain ⟨hb2,h⟩:=gd_some h
  refine ⟨hb2,?_⟩
  rw [drop1 I s s1 hb2]
  conv=>whnf
  rcases bt (decide (vq=(ix s s1))) with hb3 | hb3
  ·rw [hb3]
   conv=>whnf
   replace h:=it_t hb3 h
   obtain rfl:=Option.some.inj h
   exact hR _ _ ⟨.inr rfl,_,rfl,_,frz_pure rfl,rfl⟩
  ·rw [hb3]
   conv=>whnf
   replace h:=it_f hb3 h
   exact ⟨m,Nat.lt_succ_self m,(w (s1+(1:Int))),rfl,rfl,h⟩
 ·rw [hb1]
  conv=>whnf
  replace h:=it_f hb1 h
  exact hkl1_0 _ _ _ _ _ _ _ _ _ _ _ _ _ _ _ _ _ h
theorem x104_ok {s:(List Int)} {vq:Int} {v:Int} (h:x104 s vq=some v):PO 104 [(.lst (s.map I) s.length .shared),(I vq)] (I v):=by
 refine fn_pureW hmix lxx104 rfl rfl fun Q hQ=>?_
 have hR:∀ T H,RetW [.tmp 4] (I v) .ret T H→Q .ret T H:=fun T H hh=>hQ _ T H hh
 unfold x104 at h
 unfold xrc104
 obtain ⟨c_1,g_1⟩:∃ c,xrc104_1=c:=⟨_,rfl⟩
 rw [g_1]
 conv=>whnf
 subst g_1
 refine x104_l1_ok ?_ ?_ (by exact rfl) h
 ·exact fun T H hh=>hR T H hh
 ·intro u0 u1 u4 u5 u6 u7 u8 u9 u10 u11 u12 u13 u14 u15 u16 u17 u18 h
  conv=>whnf
  obtain rfl:=Option.some.inj h
  exact hR _ _ ⟨.inr rfl,_,rfl,_,frz_pure rfl,rfl⟩

noncomputable def xrc79:RC :=
 .seq (.reg false [I_ 4 [.cv (.bool false)] .mv]) (.seq (.reg false [I_ 5 [.tk 0] .mv,I_ 6 [.tk 1] .mv,I_ 7 [.cv (.func 104 [] []),.sl 5,.sl 6] (.call 3),I_ 8 [.tv 7,.cv (.int .i64 0)] (.bin .geq),I_ 4 [.tk 8] .mv]) .ret)
theorem lxx79:linkF Tryz.prog ann79 79=some (xrc79,9,[.tmp 4]):=by kernel_rfl
def x79 (s:(List Int)) (vq:Int):Option Bool :=
 (x104 s vq).bind fun r1 =>
 some (decide ((0:Int)≤r1))
theorem x79_ok {s:(List Int)} {vq:Int} {v:Bool} (h:x79 s vq=some v):PO 79 [(.lst (s.map I) s.length .shared),(I vq)] (B v):=by
 refine fn_pureW hmix lxx79 rfl rfl fun Q hQ=>?_
 have hR:∀ T H,RetW [.tmp 4] (B v) .ret T H→Q .ret T H:=fun T H hh=>hQ _ T H hh
 unfold x79 at h
 unfold xrc79
 skip
 conv=>whnf
 obtain ⟨r1,hb1,h⟩:=bd_some h
 refine ⟨(allc (pu_map (fun _=>rfl) _ _ _) (allc rfl rfl)),_,x104_ok hb1,?_⟩
 conv=>whnf
 obtain rfl:=Option.some.inj h
 exact hR _ _ ⟨.inr rfl,_,rfl,_,frz_pure rfl,rfl⟩

noncomputable def xrc81:RC :=
 .seq (.reg false [I_ 4 [.cv (.bool false)] .mv]) (.seq (.reg true [I_ 5 [.sl 1] (.ld .one),I_ 6 [.tk 0] .mv,I_ 7 [.tv 5,.tv 6] (.ia 2),I_ 8 [.tv 7] (.fa 1),I_ 9 [.tv 8] (.ld .one),I_ 10 [.sl 1] (.ld .one),I_ 11 [.tv 2]
 (.ld .one),I_ 12 [.tv 10,.tv 11] (.ia 2),I_ 13 [.tv 12] (.fa 1),I_ 14 [.tv 13] (.ld .one),I_ 15 [.tv 9,.tv 14] (.bin .lss),I_ 4 [.tk 15] .mv]) .ret)
theorem lxx81:linkF Tryz.prog ann81 81=some (xrc81,16,[.tmp 4]):=by kernel_rfl
def x81 (j:Int) (c0:(List (Int×Int))) (c1:Int):Option Bool :=
 gd (0≤j∧j<(c0.length:Int)) <|
 gd (0≤c1∧c1<(c0.length:Int)) <|
 some (decide ((ix c0 j).2<(ix c0 c1).2))
theorem x81_ok {j:Int} {c0:(List (Int×Int))} {c1:Int} {v:Bool} (h:x81 j c0 c1=some v):PO 81 [(I j),(.lptr [(.lst (c0.flatMap pr) c0.length .shared)]),(.lptr [(I c1)])] (B v):=by
 refine fn_pureW hmix lxx81 rfl rfl fun Q hQ=>?_
 have hR:∀ T H,RetW [.tmp 4] (B v) .ret T H→Q .ret T H:=fun T H hh=>hQ _ T H hh
 unfold x81 at h
 unfold xrc81
 skip
 conv=>whnf
 obtain ⟨hb1,h⟩:=gd_some h
 refine ⟨hb1,?_⟩
 rw [dropS pr 2 pr_len c0 j hb1]
 conv=>whnf
 obtain ⟨hb2,h⟩:=gd_some h
 refine ⟨hb2,?_⟩
 rw [dropS pr 2 pr_len c0 c1 hb2]
 conv=>whnf
 obtain rfl:=Option.some.inj h
 exact hR _ _ ⟨.inr rfl,_,rfl,_,frz_pure rfl,rfl⟩

noncomputable def xrc38_2:RC :=
 .seq (.seq (.reg false [I_ 56 [.tk 16] .mv,I_ 57 [.sl 13] .mv,I_ 58 [.sl 8] .mv,I_ 59 [.tv 58] .nilc,I_ 60 [.tv 59] (.fa 5),I_ 61 [.tv 60] (.ld .one),I_ 62 [.tk 61] .lenS,I_ 63 [.tv 57,.tv 62] (.bin .mul),I_ 64 [.tv 56,
 .tv 63] (.bin .leq)]) (.cond (.sl 64) (.seq (.reg false [I_ 6 [.cv (.int .i64 0)] .mv,I_ 7 [.cv (.int .i64 14)] .mv]) .ret) .skip)) (.seq (.reg false [I_ 65 [.tk 10] .mv,I_ 66 [.sl 4] (.ld .one),I_ 67 [.tv 15] (.ld .one),I_
 68 [.tv 66,.tv 67] (.ia 2),I_ 69 [.tv 68] (.fa 1),I_ 70 [.tv 69] (.ld .one),I_ 71 [.tv 65,.tv 70] (.bin .add),I_ 10 [.tk 71] .mv]) (.reg false [I_ 72 [.tk 13] .mv,I_ 73 [.tv 72,.cv (.int .i64 1)] (.bin .add),I_ 13 [.tk
 73] .mv]))
noncomputable def xrc38_3:RC :=
 .loop (some [o_,o_,i_,o_,i_,o_,o_,o_,i_,o_,i_,o_,i_,i_,o_,o_,o_,o_,o_,o_,o_,o_,o_,o_,o_,o_,o_,o_,o_,o_,o_,o_,o_,i_,o_,o_,o_,o_,o_,i_,i_,i_,o_,o_,o_,o_,o_,o_,o_,o_,o_,o_,o_,o_,o_,o_,o_,o_,o_,o_,o_,o_,o_,o_,o_,o_,o_,o_,o_,o_,o_,o_,o_,o_,o_,o_,o_]) (.seq (.reg false [I_ 42 [.sl 41,.sl 40] (.bin .lss)]) (.seq (.cond (.sl 42) .skip (.exit 3)) (.seq (.block 4 (.seq (.reg false [I_ 43
 [.sl 39,.sl 41] (.ia 1),I_ 44 [.tv 43] (.ld .one),I_ 15 [] (.alloc [.int .i64 0]),⟨none,[.sl 15,.tk 44],none,none,.st 1⟩]) (.seq (.seq (.reg false [I_ 45 [.sl 2] .mv,I_ 46 [.sl 15] (.ld .one),I_ 47 [.cv (.func 79 []
 []),.sl 45,.sl 46] (.call 3),I_ 48 [.tv 47] (.un .not)]) (.cond (.sl 48) (.exit 4) .skip)) (.seq (.reg false [I_ 49 [.sl 12] .mv,I_ 50 [.sl 4,.sl 15] (.mkF 81 0 2),I_ 51 [.cv (.func 80 [] []),.sl 49,.sl 50] (.call 6),
 I_ 16 [.tk 51] .mv]) (.seq (.seq (.reg false [I_ 52 [.sl 16] .mv,I_ 53 [.tv 52,.cv (.int .i64 0)] (.bin .lss)]) (.cond (.sl 53) (.reg false [I_ 54 [.sl 12] .mv,I_ 55 [.tk 54] .lenS,I_ 16 [.tk 55] .mv]) .skip)) xrc38_2)))))
 (.reg false [I_ 74 [.tv 41,.cv (.int .i64 1)] (.bin .add),I_ 41 [.tk 74] .mv]))))
noncomputable def xrc38_1:RC :=
 .loop (some [o_,o_,i_,o_,i_,o_,o_,o_,i_,o_,i_,o_,o_,o_,o_,o_,o_,o_,o_,o_,o_,o_,o_,o_,o_,o_,o_,o_,o_,o_,o_,o_,o_,i_,o_,o_,o_,o_,o_,o_,o_,o_,o_,o_,o_,o_,o_,o_,o_,o_,o_,o_,o_,o_,o_,o_,o_,o_,o_,o_,o_,o_,o_,o_,o_,o_,o_,o_,o_,o_,o_,o_,o_,o_,o_,o_,o_]) (.seq (.reg false [I_ 34 [.sl 33,.cv (.int .i64 21)] (.bin .lss)]) (.seq (.cond (.sl 34) .skip (.exit 1)) (.seq (.block 2 (.seq
 (.reg false [I_ 35 [.sl 33] .mv,I_ 11 [.tk 35] .mv]) (.seq (.reg false [I_ 36 [.sl 8] .mv,I_ 37 [.tk 11] .mv,I_ 38 [.cv (.func 76 [] []),.sl 36,.sl 37] (.call 3),I_ 12 [.tk 38] .mv]) (.seq (.reg false [I_ 13 [.cv (.int
 .i64 0)] .mv]) (.seq (.reg false [I_ 39 [.sl 12] .mv,I_ 40 [.sl 39] .lenS,I_ 41 [.cv (.int .i64 0)] .mv]) (.block 3 xrc38_3)))))) (.reg false [I_ 75 [.tv 33,.cv (.int .i64 1)] (.bin .add),I_ 33 [.tk 75] .mv]))))
noncomputable def xrc38:RC :=
 .seq (.reg false [I_ 3 [.tk 0] .box,I_ 4 [.tk 1] .box,I_ 6 [.cv (.int .i64 0)] .mv,I_ 7 [.cv (.int .i64 0)] .mv]) (.seq (.reg false [I_ 18 [.tv 3] (.ld (.str 4)),I_ 19 [.sl 4] (.ld .one),I_ 20 [.cv (.func 69 [] []),.sl 18,
 .sl 19] (.call 3),I_ 17 [.tk 20] .mv,I_ 21 [.sl 17] (.ext 0),I_ 22 [.tv 17] (.ext 1),I_ 8 [.tk 21] .mv,I_ 9 [.tk 22] .mv]) (.seq (.block 0 (.seq (.reg false [I_ 24 [.sl 9] .mv,I_ 25 [.tv 24,.cv (.int .i64 0)] (.bin
 .neq),I_ 23 [.tk 25] .mv]) (.cond (.sl 23) (.seq (.reg false [I_ 26 [.tk 9] .mv,I_ 6 [.cv (.int .i64 0)] .mv,I_ 7 [.tk 26] .mv]) .ret) (.seq (.reg false [I_ 28 [.sl 2] .mv,I_ 29 [.sl 4] (.ld .one),I_ 30 [.tk 29] .lenS,I_
 31 [.cv (.func 61 [] []),.sl 28,.sl 30] (.call 3),I_ 32 [.tv 31] (.un .not),I_ 27 [.tk 32] .mv]) (.cond (.sl 27) (.seq (.reg false [I_ 6 [.cv (.int .i64 0)] .mv,I_ 7 [.cv (.int .i64 2)] .mv]) .ret) .skip))))) (.seq (.reg
 false [I_ 10 [.cv (.int .i64 0)] .mv]) (.seq (.seq (.reg false [I_ 33 [.cv (.int .i64 0)] .mv]) (.block 1 xrc38_1)) (.seq (.reg false [I_ 76 [.tk 10] .mv,I_ 6 [.tk 76] .mv,I_ 7 [.cv (.int .i64 0)] .mv]) .ret)))))
theorem lxx38:linkF Tryz.prog ann38 38=some (xrc38,77,[.tmp 6,.tmp 7]):=by kernel_rfl
def x38_l1  : Nat→Option (Int×Int)
 | 0=>none
 | m+1 =>
   none
def x38_j4 (panels:(List (Int×Int))) (p1:((Int×(List Int)×Int×Int)×(List (Int×Int))×(List Int)×(List Int))) (r4:(List Int)) (s4:Int) (s5:Int) (kj4_0:Unit→Option (Int×Int)) (j1:Int):Option (Int×Int) :=
 if (decide (j1≤(w (s4*(p1.2.2.1.length:Int)))))=true then
  some ((0:Int),(14:Int))
 else
  gd (0≤(ix r4 s5)∧(ix r4 s5)<(panels.length:Int)) <|
  kj4_0 ()
def x38_l3 (panels:(List (Int×Int))) (marks:(List Int)) (p1:((Int×(List Int)×Int×Int)×(List (Int×Int))×(List Int)×(List Int))) (r4:(List Int)) (kl3_0:Int→Option (Int×Int)):Nat→Int→Int→Int→Option (Int×Int)
 | 0,_,_,_=>none
 | m+1,s3,s4,s5 =>
   if (decide (s5<(r4.length:Int)))=true then
    gd (0≤s5∧s5<(r4.length:Int)) <|
    (x79 marks (ix r4 s5)).bind fun r5 =>
    if r5=true then
     (x80 r4 (fun y0=>x81 y0 panels (ix r4 s5))).bind fun r6 =>
     if (decide (r6<(0:Int)))=true then
      x38_j4 panels p1 r4 s4 s5 (fun _ =>
        x38_l3 panels marks p1 r4 kl3_0 m (w (s3+(ix panels (ix r4 s5)).2)) (w (s4+(1:Int))) (w (s5+(1:Int)))) (r4.length:Int)
     else
      x38_j4 panels p1 r4 s4 s5 (fun _ =>
        x38_l3 panels marks p1 r4 kl3_0 m (w (s3+(ix panels (ix r4 s5)).2)) (w (s4+(1:Int))) (w (s5+(1:Int)))) r6
    else
     x38_l3 panels marks p1 r4 kl3_0 m s3 s4 (w (s5+(1:Int)))
   else
    kl3_0 s3
def x38_l2 (panels:(List (Int×Int))) (marks:(List Int)) (p1:((Int×(List Int)×Int×Int)×(List (Int×Int))×(List Int)×(List Int))) (kl2_0:Int→Option (Int×Int)):Nat→Int→Int→Option (Int×Int)
 | 0,_,_=>none
 | m+1,s1,s2 =>
   if (decide (s2<(21:Int)))=true then
    (x76 p1 s2).bind fun r4 =>
    x38_l3 panels marks p1 r4 (fun z1 =>
      x38_l2 panels marks p1 kl2_0 m z1 (w (s2+(1:Int)))) FU s1 (0:Int) (0:Int)
   else
    kl2_0 s1
def x38 (b:(Int×(List Int)×Int×Int)) (panels:(List (Int×Int))) (marks:(List Int)):Option (Int×Int) :=
 (x69 b panels).bind fun r1 =>
 match r1 with
 | (none,q1) =>
   if (decide (q1≠(0:Int)))=true then
    some ((0:Int),q1)
   else
    (x61 marks (panels.length:Int)).bind fun r2 =>
    if r2=true then
     x38_l1 FU
    else
     some ((0:Int),(2:Int))
 | (some p1,q1) =>
   if (decide (q1≠(0:Int)))=true then
    some ((0:Int),q1)
   else
    (x61 marks (panels.length:Int)).bind fun r3 =>
    if r3=true then
     x38_l2 panels marks p1 (fun z2 =>
       some (z2,(0:Int))) FU (0:Int) (0:Int)
    else
     some ((0:Int),(2:Int))
theorem x38_l1_ok  {panels:(List (Int×Int))} {marks:(List Int)} {v:(Int×Int)} {Q:Ex→List AV→List AObj→Prop} {o1:AObj}   {T:List AV} (hT:zipKeep [o_,o_,i_,o_,i_,o_,o_,o_,i_,o_,i_,o_,o_,o_,o_,o_,o_,o_,o_,o_,o_,o_,o_,o_,o_,o_,o_,o_,o_,o_,o_,o_,o_,i_,o_,o_,o_,o_,o_,o_,o_,o_,o_,o_,o_,o_,o_,o_,o_,o_,o_,o_,o_,o_,o_,o_,o_,o_,o_,o_,o_,o_,o_,o_,o_,o_,o_,o_,o_,o_,o_,o_,o_,o_,o_,o_,o_] T=slots 77 [(2,(.lst (marks.map I) marks.length .shared)),(4,(.ptr 1 0)),(8,.nilp),(10,(I (0:Int))),(33,(I (0:Int)))]) (h:x38_l1  FU  = some v) :
  wpR Tryz.prog ann38 38 0 none xrc38_1 T [o1,AObj.cells [(.lst (panels.flatMap pr) panels.length .shared)]] Q:=by
 unfold xrc38_1
 obtain ⟨c_3,g_3⟩:∃ c,xrc38_3=c:=⟨_,rfl⟩
 rw [g_3]
 refine wp_loop hT ?_
 refine .intro (fun m T H=>T=slots 77 [(2,(.lst (marks.map I) marks.length .shared)),(4,(.ptr 1 0)),(8,.nilp),(10,(I (0:Int))),(33,(I (0:Int)))]∧H=[o1,AObj.cells [(.lst (panels.flatMap pr) panels.length .shared)]]∧x38_l1  m  = some v) FU ⟨rfl,rfl,h⟩ ?_
 clear h hT
 rintro m T H ⟨rfl,rfl,h⟩
 cases m
 ·exact none_ne h
 rename_i m
 rw [x38_l1.eq_2] at h
 conv=>whnf
 exact none_ne h
theorem x38_j4_ok {panels:(List (Int×Int))} {p1:((Int×(List Int)×Int×Int)×(List (Int×Int))×(List Int)×(List Int))} {r4:(List Int)} {s4:Int} {s5:Int} {kj4_0:Unit→Option (Int×Int)} {j1:Int} {marks:(List Int)} {s2:Int} {s3:Int} {v:(Int×Int)} {Q:Ex→List AV→List AObj→Prop} {u0:AV} {u1:AV} {u3:AV} {u6:AV} {u7:AV} {u9:AV} {u11:AV} {u17:AV} {u18:AV} {u19:AV} {u20:AV} {u21:AV} {u22:AV} {u23:AV} {u24:AV} {u25:AV} {u26:AV} {u27:AV} {u28:AV} {u29:AV} {u30:AV} {u31:AV} {u32:AV} {u34:AV} {u35:AV} {u36:AV} {u37:AV} {u38:AV} {u42:AV} {u43:AV} {u44:AV} {u45:AV} {u46:AV} {u47:AV} {u48:AV} {u49:AV} {u50:AV} {u51:AV} {u52:AV} {u53:AV} {u54:AV} {u55:AV} {u56:AV} {u57:AV} {u58:AV} {u59:AV} {u60:AV} {u61:AV} {u62:AV} {u63:AV} {u64:AV} {u65:AV} {u66:AV} {u67:AV} {u68:AV} {u69:AV} {u70:AV} {u71:AV} {u72:AV} {u73:AV} {u74:AV} {u75:AV} {u76:AV} {o1:AObj} {Y38_1:List AObj} (hR:∀ T H,RetW [.tmp 6,.tmp 7] (.tuple [(I v.1),(I v.2)]) .ret T H→Q .ret T H) (hkj4_0:∀ (u0:AV) (u1:AV) (u3:AV) (u6:AV) (u7:AV) (u9:AV) (u11:AV) (u15:AV) (u16:AV) (u17:AV) (u18:AV) (u19:AV) (u20:AV) (u21:AV) (u22:AV) (u23:AV) (u24:AV) (u25:AV) (u26:AV) (u27:AV) (u28:AV) (u29:AV) (u30:AV) (u31:AV) (u32:AV) (u34:AV) (u35:AV) (u36:AV) (u37:AV) (u38:AV) (u42:AV) (u43:AV) (u44:AV) (u45:AV) (u46:AV) (u47:AV) (u48:AV) (u49:AV) (u50:AV) (u51:AV) (u52:AV) (u53:AV) (u54:AV) (u55:AV) (u56:AV) (u57:AV) (u58:AV) (u59:AV) (u60:AV) (u61:AV) (u62:AV) (u63:AV) (u64:AV) (u65:AV) (u66:AV) (u67:AV) (u68:AV) (u69:AV) (u70:AV) (u71:AV) (u72:AV) (u73:AV) (u74:AV) (u75:AV) (u76:AV) (Yq:List AObj),kj4_0 ()=some v→Q .normal [u0,u1,(.lst (marks.map I) marks.length .shared),u3,(.ptr 1 0),J,u6,u7,(.lptr ((I p1.1.1)::(.lst (p1.1.2.1.map I) p1.1.2.1.length .shared)::(I p1.1.2.2.1)::(I p1.1.2.2.2)::(.lst (p1.2.1.flatMap pr) p1.2.1.length .shared)::(.lst (p1.2.2.1.map I) p1.2.2.1.length .shared)::(p1.2.2.2.map I))),u9,(I (w (s3+(ix panels (ix r4 s5)).2))),u11,(.lst (r4.map I) r4.length .shared),(I (w (s4+(1:Int)))),J,u15,u16,u17,u18,u19,u20,u21,u22,u23,u24,u25,u26,u27,u28,u29,u30,u31,u32,(I s2),u34,u35,u36,u37,u38,(.lst (r4.map I) r4.length .shared),(I (r4.length:Int)),(I s5),u42,u43,u44,u45,u46,u47,u48,u49,u50,u51,u52,u53,u54,u55,u56,u57,u58,u59,u60,u61,u62,u63,u64,u65,u66,u67,u68,u69,u70,u71,u72,u73,u74,u75,u76] (o1::AObj.cells [(.lst (panels.flatMap pr) panels.length .shared)]::Yq)) (h:x38_j4 panels p1 r4 s4 s5 kj4_0 j1=some v) :
  wpR Tryz.prog ann38 38 0 none xrc38_2 [u0,u1,(.lst (marks.map I) marks.length .shared),u3,(.ptr 1 0),J,u6,u7,(.lptr ((I p1.1.1)::(.lst (p1.1.2.1.map I) p1.1.2.1.length .shared)::(I p1.1.2.2.1)::(I p1.1.2.2.2)::(.lst (p1.2.1.flatMap pr) p1.2.1.length .shared)::(.lst (p1.2.2.1.map I) p1.2.2.1.length .shared)::(p1.2.2.2.map I))),u9,(I s3),u11,(.lst (r4.map I) r4.length .shared),(I s4),J,(.ptr (o1::AObj.cells [(.lst (panels.flatMap pr) panels.length .shared)]::Y38_1).length 0),(I j1),u17,u18,u19,u20,u21,u22,u23,u24,u25,u26,u27,u28,u29,u30,u31,u32,(I s2),u34,u35,u36,u37,u38,(.lst (r4.map I) r4.length .shared),(I (r4.length:Int)),(I s5),u42,u43,u44,u45,u46,u47,u48,u49,u50,u51,u52,u53,u54,u55,u56,u57,u58,u59,u60,u61,u62,u63,u64,u65,u66,u67,u68,u69,u70,u71,u72,u73,u74,u75,u76] ((o1::AObj.cells [(.lst (panels.flatMap pr) panels.length .shared)]::Y38_1)++[AObj.cells [(I (ix r4 s5))]]) Q:=by
 unfold x38_j4 at h
 unfold xrc38_2
 skip
 conv=>whnf
 rcases bt (decide (j1≤(w (s4*(p1.2.2.1.length:Int))))) with hb13 | hb13
 ·rw [hb13]
  conv=>whnf
  replace h:=it_t hb13 h
  obtain rfl:=Option.some.inj h
  exact hR _ _ ⟨.inr rfl,_,rfl,_,frz_pure (pu_tup (allc rfl (allc rfl rfl))),rfl⟩
 ·rw [hb13]
  conv=>whnf
  replace h:=it_f hb13 h
  refine nthK_of (x:=AObj.cells [(I (ix r4 s5))]) (by first | with_reducible exact get_concat _ _ | exact get_concat _ _ | exact ga (get_concat _ _) | rfl | (simp [List.getElem?_append,AV.settle];done)) ?_
  conv=>whnf
  obtain ⟨hb14,h⟩:=gd_some h
  refine ⟨hb14,?_⟩
  rw [dropS pr 2 pr_len panels (ix r4 s5) hb14]
  conv=>whnf
  exact hkj4_0 _ _ _ _ _ _ _ _ _ _ _ _ _ _ _ _ _ _ _ _ _ _ _ _ _ _ _ _ _ _ _ _ _ _ _ _ _ _ _ _ _ _ _ _ _ _ _ _ _ _ _ _ _ _ _ _ _ _ _ _ _ _ _ _ _ _ h
theorem x38_l3_ok {panels:(List (Int×Int))} {marks:(List Int)} {p1:((Int×(List Int)×Int×Int)×(List (Int×Int))×(List Int)×(List Int))} {r4:(List Int)} {kl3_0:Int→Option (Int×Int)} {s3:Int} {s4:Int} {s5:Int} {s2:Int} {v:(Int×Int)} {Q:Ex→List AV→List AObj→Prop} {o1:AObj} {Y38_2:List AObj} (hR:∀ T H,RetW [.tmp 6,.tmp 7] (.tuple [(I v.1),(I v.2)]) .ret T H→Q .ret T H) (hkl3_0:∀ (z1:Int) (u0:AV) (u1:AV) (u3:AV) (u6:AV) (u7:AV) (u9:AV) (u11:AV) (u12:AV) (u13:AV) (u15:AV) (u16:AV) (u17:AV) (u18:AV) (u19:AV) (u20:AV) (u21:AV) (u22:AV) (u23:AV) (u24:AV) (u25:AV) (u26:AV) (u27:AV) (u28:AV) (u29:AV) (u30:AV) (u31:AV) (u32:AV) (u34:AV) (u35:AV) (u36:AV) (u37:AV) (u38:AV) (u39:AV) (u40:AV) (u41:AV) (u42:AV) (u43:AV) (u44:AV) (u45:AV) (u46:AV) (u47:AV) (u48:AV) (u49:AV) (u50:AV) (u51:AV) (u52:AV) (u53:AV) (u54:AV) (u55:AV) (u56:AV) (u57:AV) (u58:AV) (u59:AV) (u60:AV) (u61:AV) (u62:AV) (u63:AV) (u64:AV) (u65:AV) (u66:AV) (u67:AV) (u68:AV) (u69:AV) (u70:AV) (u71:AV) (u72:AV) (u73:AV) (u74:AV) (u75:AV) (u76:AV) (Yq:List AObj),kl3_0 z1=some v→Q (.exit 3) [u0,u1,(.lst (marks.map I) marks.length .shared),u3,(.ptr 1 0),J,u6,u7,(.lptr ((I p1.1.1)::(.lst (p1.1.2.1.map I) p1.1.2.1.length .shared)::(I p1.1.2.2.1)::(I p1.1.2.2.2)::(.lst (p1.2.1.flatMap pr) p1.2.1.length .shared)::(.lst (p1.2.2.1.map I) p1.2.2.1.length .shared)::(p1.2.2.2.map I))),u9,(I z1),u11,u12,u13,J,u15,u16,u17,u18,u19,u20,u21,u22,u23,u24,u25,u26,u27,u28,u29,u30,u31,u32,(I s2),u34,u35,u36,u37,u38,u39,u40,u41,u42,u43,u44,u45,u46,u47,u48,u49,u50,u51,u52,u53,u54,u55,u56,u57,u58,u59,u60,u61,u62,u63,u64,u65,u66,u67,u68,u69,u70,u71,u72,u73,u74,u75,u76] (o1::AObj.cells [(.lst (panels.flatMap pr) panels.length .shared)]::Yq)) {T:List AV} (hT:zipKeep [o_,o_,i_,o_,i_,o_,o_,o_,i_,o_,i_,o_,i_,i_,o_,o_,o_,o_,o_,o_,o_,o_,o_,o_,o_,o_,o_,o_,o_,o_,o_,o_,o_,i_,o_,o_,o_,o_,o_,i_,i_,i_,o_,o_,o_,o_,o_,o_,o_,o_,o_,o_,o_,o_,o_,o_,o_,o_,o_,o_,o_,o_,o_,o_,o_,o_,o_,o_,o_,o_,o_,o_,o_,o_,o_,o_,o_] T=slots 77 [(2,(.lst (marks.map I) marks.length .shared)),(4,(.ptr 1 0)),(8,(.lptr ((I p1.1.1)::(.lst (p1.1.2.1.map I) p1.1.2.1.length .shared)::(I p1.1.2.2.1)::(I p1.1.2.2.2)::(.lst (p1.2.1.flatMap pr) p1.2.1.length .shared)::(.lst (p1.2.2.1.map I) p1.2.2.1.length .shared)::(p1.2.2.2.map I)))),(10,(I s3)),(12,(.lst (r4.map I) r4.length .shared)),(13,(I s4)),(33,(I s2)),(39,(.lst (r4.map I) r4.length .shared)),(40,(I (r4.length:Int))),(41,(I s5))]) (h:x38_l3 panels marks p1 r4 kl3_0 FU s3 s4 s5=some v) :
  wpR Tryz.prog ann38 38 0 none xrc38_3 T (o1::AObj.cells [(.lst (panels.flatMap pr) panels.length .shared)]::Y38_2) Q:=by
 unfold xrc38_3
 obtain ⟨c_2,g_2⟩:∃ c,xrc38_2=c:=⟨_,rfl⟩
 rw [g_2]
 refine wp_loop hT ?_
 refine .intro (fun m T H=>∃ (s3:Int) (s4:Int) (s5:Int) (Y38_1:List AObj),T=slots 77 [(2,(.lst (marks.map I) marks.length .shared)),(4,(.ptr 1 0)),(8,(.lptr ((I p1.1.1)::(.lst (p1.1.2.1.map I) p1.1.2.1.length .shared)::(I p1.1.2.2.1)::(I p1.1.2.2.2)::(.lst (p1.2.1.flatMap pr) p1.2.1.length .shared)::(.lst (p1.2.2.1.map I) p1.2.2.1.length .shared)::(p1.2.2.2.map I)))),(10,(I s3)),(12,(.lst (r4.map I) r4.length .shared)),(13,(I s4)),(33,(I s2)),(39,(.lst (r4.map I) r4.length .shared)),(40,(I (r4.length:Int))),(41,(I s5))]∧H=(o1::AObj.cells [(.lst (panels.flatMap pr) panels.length .shared)]::Y38_1)∧x38_l3 panels marks p1 r4 kl3_0 m s3 s4 s5=some v) FU ⟨s3,s4,s5,Y38_2,rfl,rfl,h⟩ ?_
 clear h hT
 rintro m T H ⟨s3,s4,s5,Y38_1,rfl,rfl,h⟩
 cases m
 ·exact none_ne h
 rename_i m
 rw [x38_l3.eq_2] at h
 conv=>whnf
 rcases bt (decide (s5<(r4.length:Int))) with hb8 | hb8
 ·rw [hb8]
  conv=>whnf
  replace h:=it_t hb8 h
  obtain ⟨hb9,h⟩:=gd_some h
  refine ⟨hb9,?_⟩
  rw [drop1 I r4 s5 hb9]
  conv=>whnf
  refine nthK_of (x:=AObj.cells [(I (0:Int))]) (by first | with_reducible exact get_concat _ _ | exact get_concat _ _ | exact ga (get_concat _ _) | rfl | (simp [List.getElem?_append,AV.settle];done)) ?_
  conv=>whnf
  rw [set_concat]
  refine nthK_of (x:=AObj.cells [(I (ix r4 s5))]) (by first | with_reducible exact get_concat _ _ | exact get_concat _ _ | exact ga (get_concat _ _) | rfl | (simp [List.getElem?_append,AV.settle];done)) ?_
  conv=>whnf
  obtain ⟨r5,hb10,h⟩:=bd_some h
  refine ⟨(allc (pu_map (fun _=>rfl) _ _ _) (allc rfl rfl)),_,x79_ok hb10,?_⟩
  conv=>whnf
  cases r5
  ·conv=>whnf
   replace h:=it_f rfl h
   exact ⟨m,Nat.lt_succ_self m,s3,s4,(w (s5+(1:Int))),_,rfl,rfl,h⟩
  ·conv=>whnf
   replace h:=it_t rfl h
   obtain ⟨r6,hb11,h⟩:=bd_some h
   refine ⟨_,_,call6' (cs:=[(.lst (r4.map I) r4.length .shared),(.func 81 [] [(.lptr [(.lst (panels.flatMap pr) panels.length .shared)]),(.lptr [(I (ix r4 s5))])])]) (bs:=[(.lst (r4.map I) r4.length .shared),(.func 81 [] [(.lptr [(.lst (panels.flatMap pr) panels.length .shared)]),(.lptr [(I (ix r4 s5))])])]) (map_cons' rfl (map_cons' (shz_func map_nil' (map_cons' (shz0_ptr' (cs:=[(.lst (panels.flatMap pr) panels.length .shared)]) (by first | with_reducible exact get_concat _ _ | exact get_concat _ _ | exact ga (get_concat _ _) | rfl | (simp [List.getElem?_append,AV.settle];done)) rfl) (map_cons' (shz0_ptr' (cs:=[(I (ix r4 s5))]) (by first | with_reducible exact get_concat _ _ | exact get_concat _ _ | exact ga (get_concat _ _) | rfl | (simp [List.getElem?_append,AV.settle];done)) rfl) map_nil'))) map_nil')) (by rfl) (by exact (allc (pu_map (fun _=>rfl) _ _ _) (allc (pu_fn rfl (allc (pu_lptr (allc (pu_flat (fun _=>(allc rfl (allc rfl rfl))) _ _ _) rfl)) (allc (pu_lptr (allc rfl rfl)) rfl))) rfl))) (x80_ok ⟨(allc (pu_lptr (allc (pu_flat (fun _=>(allc rfl (allc rfl rfl))) _ _ _) rfl)) (allc (pu_lptr (allc rfl rfl)) rfl)),by simp⟩ (fun _ _ hy=>x81_ok hy) hb11) rfl,?_⟩
   conv=>whnf
   rcases bt (decide (r6<(0:Int))) with hb12 | hb12
   ·rw [hb12]
    conv=>whnf
    replace h:=it_t hb12 h
    subst g_2
    refine x38_j4_ok ?_ ?_ h
    ·exact fun T H hh=>hR T H hh
    ·intro u0 u1 u3 u6 u7 u9 u11 u15 u16 u17 u18 u19 u20 u21 u22 u23 u24 u25 u26 u27 u28 u29 u30 u31 u32 u34 u35 u36 u37 u38 u42 u43 u44 u45 u46 u47 u48 u49 u50 u51 u52 u53 u54 u55 u56 u57 u58 u59 u60 u61 u62 u63 u64 u65 u66 u67 u68 u69 u70 u71 u72 u73 u74 u75 u76 Yq h
     conv=>whnf
     exact ⟨m,Nat.lt_succ_self m,(w (s3+(ix panels (ix r4 s5)).2)),(w (s4+(1:Int))),(w (s5+(1:Int))),_,rfl,rfl,h⟩
   ·rw [hb12]
    conv=>whnf
    replace h:=it_f hb12 h
    subst g_2
    refine x38_j4_ok ?_ ?_ h
    ·exact fun T H hh=>hR T H hh
    ·intro u0 u1 u3 u6 u7 u9 u11 u15 u16 u17 u18 u19 u20 u21 u22 u23 u24 u25 u26 u27 u28 u29 u30 u31 u32 u34 u35 u36 u37 u38 u42 u43 u44 u45 u46 u47 u48 u49 u50 u51 u52 u53 u54 u55 u56 u57 u58 u59 u60 u61 u62 u63 u64 u65 u66 u67 u68 u69 u70 u71 u72 u73 u74 u75 u76 Yq h
     conv=>whnf
     exact ⟨m,Nat.lt_succ_self m,(w (s3+(ix panels (ix r4 s5)).2)),(w (s4+(1:Int))),(w (s5+(1:Int))),_,rfl,rfl,h⟩
 ·rw [hb8]
  conv=>whnf
  replace h:=it_f hb8 h
  exact hkl3_0 _ _ _ _ _ _ _ _ _ _ _ _ _ _ _ _ _ _ _ _ _ _ _ _ _ _ _ _ _ _ _ _ _ _ _ _ _ _ _ _ _ _ _ _ _ _ _ _ _ _ _ _ _ _ _ _ _ _ _ _ _ _ _ _ _ _ _ _ _ _ _ _ h
theorem x38_l2_ok {panels:(List (Int×Int))} {marks:(List Int)} {p1:((Int×(List Int)×Int×Int)×(List (Int×Int))×(List Int)×(List Int))} {kl2_0:Int→Option (Int×Int)} {s1:Int} {s2:Int} {v:(Int×Int)} {Q:Ex→List AV→List AObj→Prop} {o1:AObj}  (hR:∀ T H,RetW [.tmp 6,.tmp 7] (.tuple [(I v.1),(I v.2)]) .ret T H→Q .ret T H) (hkl2_0:∀ (z2:Int) (u0:AV) (u1:AV) (u2:AV) (u3:AV) (u4:AV) (u6:AV) (u7:AV) (u8:AV) (u9:AV) (u11:AV) (u12:AV) (u13:AV) (u15:AV) (u16:AV) (u17:AV) (u18:AV) (u19:AV) (u20:AV) (u21:AV) (u22:AV) (u23:AV) (u24:AV) (u25:AV) (u26:AV) (u27:AV) (u28:AV) (u29:AV) (u30:AV) (u31:AV) (u32:AV) (u33:AV) (u34:AV) (u35:AV) (u36:AV) (u37:AV) (u38:AV) (u39:AV) (u40:AV) (u41:AV) (u42:AV) (u43:AV) (u44:AV) (u45:AV) (u46:AV) (u47:AV) (u48:AV) (u49:AV) (u50:AV) (u51:AV) (u52:AV) (u53:AV) (u54:AV) (u55:AV) (u56:AV) (u57:AV) (u58:AV) (u59:AV) (u60:AV) (u61:AV) (u62:AV) (u63:AV) (u64:AV) (u65:AV) (u66:AV) (u67:AV) (u68:AV) (u69:AV) (u70:AV) (u71:AV) (u72:AV) (u73:AV) (u74:AV) (u75:AV) (u76:AV) (o2:AObj) (Yq:List AObj),kl2_0 z2=some v→Q (.exit 1) [u0,u1,u2,u3,u4,J,u6,u7,u8,u9,(I z2),u11,u12,u13,J,u15,u16,u17,u18,u19,u20,u21,u22,u23,u24,u25,u26,u27,u28,u29,u30,u31,u32,u33,u34,u35,u36,u37,u38,u39,u40,u41,u42,u43,u44,u45,u46,u47,u48,u49,u50,u51,u52,u53,u54,u55,u56,u57,u58,u59,u60,u61,u62,u63,u64,u65,u66,u67,u68,u69,u70,u71,u72,u73,u74,u75,u76] (o1::o2::Yq)) {T:List AV} (hT:zipKeep [o_,o_,i_,o_,i_,o_,o_,o_,i_,o_,i_,o_,o_,o_,o_,o_,o_,o_,o_,o_,o_,o_,o_,o_,o_,o_,o_,o_,o_,o_,o_,o_,o_,i_,o_,o_,o_,o_,o_,o_,o_,o_,o_,o_,o_,o_,o_,o_,o_,o_,o_,o_,o_,o_,o_,o_,o_,o_,o_,o_,o_,o_,o_,o_,o_,o_,o_,o_,o_,o_,o_,o_,o_,o_,o_,o_,o_] T=slots 77 [(2,(.lst (marks.map I) marks.length .shared)),(4,(.ptr 1 0)),(8,(.lptr ((I p1.1.1)::(.lst (p1.1.2.1.map I) p1.1.2.1.length .shared)::(I p1.1.2.2.1)::(I p1.1.2.2.2)::(.lst (p1.2.1.flatMap pr) p1.2.1.length .shared)::(.lst (p1.2.2.1.map I) p1.2.2.1.length .shared)::(p1.2.2.2.map I)))),(10,(I s1)),(33,(I s2))]) (h:x38_l2 panels marks p1 kl2_0 FU s1 s2=some v) :
  wpR Tryz.prog ann38 38 0 none xrc38_1 T [o1,AObj.cells [(.lst (panels.flatMap pr) panels.length .shared)]] Q:=by
 unfold xrc38_1
 obtain ⟨c_3,g_3⟩:∃ c,xrc38_3=c:=⟨_,rfl⟩
 rw [g_3]
 refine wp_loop hT ?_
 refine .intro (fun m T H=>∃ (s1:Int) (s2:Int) (Y38_2:List AObj),T=slots 77 [(2,(.lst (marks.map I) marks.length .shared)),(4,(.ptr 1 0)),(8,(.lptr ((I p1.1.1)::(.lst (p1.1.2.1.map I) p1.1.2.1.length .shared)::(I p1.1.2.2.1)::(I p1.1.2.2.2)::(.lst (p1.2.1.flatMap pr) p1.2.1.length .shared)::(.lst (p1.2.2.1.map I) p1.2.2.1.length .shared)::(p1.2.2.2.map I)))),(10,(I s1)),(33,(I s2))]∧H=(o1::AObj.cells [(.lst (panels.flatMap pr) panels.length .shared)]::Y38_2)∧x38_l2 panels marks p1 kl2_0 m s1 s2=some v) FU ⟨s1,s2,[],rfl,rfl,h⟩ ?_
 clear h hT
 rintro m T H ⟨s1,s2,Y38_2,rfl,rfl,h⟩
 cases m
 ·exact none_ne h
 rename_i m
 rw [x38_l2.eq_2] at h
 conv=>whnf
 rcases bt (decide (s2<(21:Int))) with hb6 | hb6
 ·rw [hb6]
  conv=>whnf
  replace h:=it_t hb6 h
  obtain ⟨r4,hb7,h⟩:=bd_some h
  refine ⟨(allc (pu_lptr (allc rfl (allc (pu_map (fun _=>rfl) _ _ _) (allc rfl (allc rfl (allc (pu_flat (fun _=>(allc rfl (allc rfl rfl))) _ _ _) (allc (pu_map (fun _=>rfl) _ _ _) (pu_run (fun _=>rfl) _)))))))) (allc rfl rfl)),_,x76_ok hb7,?_⟩
  conv=>whnf
  subst g_3
  refine x38_l3_ok ?_ ?_ (by exact rfl) h
  ·exact fun T H hh=>hR T H hh
  ·intro z1 u0 u1 u3 u6 u7 u9 u11 u12 u13 u15 u16 u17 u18 u19 u20 u21 u22 u23 u24 u25 u26 u27 u28 u29 u30 u31 u32 u34 u35 u36 u37 u38 u39 u40 u41 u42 u43 u44 u45 u46 u47 u48 u49 u50 u51 u52 u53 u54 u55 u56 u57 u58 u59 u60 u61 u62 u63 u64 u65 u66 u67 u68 u69 u70 u71 u72 u73 u74 u75 u76 Yq h
   conv=>whnf
   exact ⟨m,Nat.lt_succ_self m,z1,(w (s2+(1:Int))),_,rfl,rfl,h⟩
 ·rw [hb6]
  conv=>whnf
  replace h:=it_f hb6 h
  exact hkl2_0 _ _ _ _ _ _ _ _ _ _ _ _ _ _ _ _ _ _ _ _ _ _ _ _ _ _ _ _ _ _ _ _ _ _ _ _ _ _ _ _ _ _ _ _ _ _ _ _ _ _ _ _ _ _ _ _ _ _ _ _ _ _ _ _ _ _ _ _ _ _ _ _ _ _ _ _ _ h
theorem x38_ok {b:(Int×(List Int)×Int×Int)} {panels:(List (Int×Int))} {marks:(List Int)} {v:(Int×Int)} (h:x38 b panels marks=some v):PO 38 [(.agg [(I b.1),(.lst (b.2.1.map I) b.2.1.length .shared),(I b.2.2.1),(I b.2.2.2)]),(.lst (panels.flatMap pr) panels.length .shared),(.lst (marks.map I) marks.length .shared)] (.tuple [(I v.1),(I v.2)]):=by
 refine fn_pureW hmix lxx38 rfl (pu_tup (allc rfl (allc rfl rfl))) fun Q hQ=>?_
 have hR:∀ T H,RetW [.tmp 6,.tmp 7] (.tuple [(I v.1),(I v.2)]) .ret T H→Q .ret T H:=fun T H hh=>hQ _ T H hh
 unfold x38 at h
 unfold xrc38
 obtain ⟨c_1,g_1⟩:∃ c,xrc38_1=c:=⟨_,rfl⟩
 rw [g_1]
 conv=>whnf
 obtain ⟨r1,hb1,h⟩:=bd_some h
 rcases r1 with ⟨_ | p1,q1⟩
 ·refine ⟨(allc (pu_agg (allc rfl (allc (pu_map (fun _=>rfl) _ _ _) (allc rfl (allc rfl rfl))))) (allc (pu_flat (fun _=>(allc rfl (allc rfl rfl))) _ _ _) rfl)),_,x69_ok hb1,?_⟩
  conv=>whnf
  rcases bt (decide (q1≠(0:Int))) with hb2 | hb2
  ·rw [hb2]
   conv=>whnf
   replace h:=it_t hb2 h
   obtain rfl:=Option.some.inj h
   exact hR _ _ ⟨.inr rfl,_,rfl,_,frz_pure (pu_tup (allc rfl (allc rfl rfl))),rfl⟩
  ·rw [hb2]
   conv=>whnf
   replace h:=it_f hb2 h
   obtain ⟨r2,hb3,h⟩:=bd_some h
   refine ⟨(allc (pu_map (fun _=>rfl) _ _ _) (allc rfl rfl)),_,x61_ok hb3,?_⟩
   conv=>whnf
   cases r2
   ·conv=>whnf
    replace h:=it_f rfl h
    obtain rfl:=Option.some.inj h
    exact hR _ _ ⟨.inr rfl,_,rfl,_,frz_pure (pu_tup (allc rfl (allc rfl rfl))),rfl⟩
   ·conv=>whnf
    replace h:=it_t rfl h
    subst g_1
    refine x38_l1_ok (by exact rfl) h
 ·refine ⟨(allc (pu_agg (allc rfl (allc (pu_map (fun _=>rfl) _ _ _) (allc rfl (allc rfl rfl))))) (allc (pu_flat (fun _=>(allc rfl (allc rfl rfl))) _ _ _) rfl)),_,x69_ok hb1,?_⟩
  conv=>whnf
  rcases bt (decide (q1≠(0:Int))) with hb4 | hb4
  ·rw [hb4]
   conv=>whnf
   replace h:=it_t hb4 h
   obtain rfl:=Option.some.inj h
   exact hR _ _ ⟨.inr rfl,_,rfl,_,frz_pure (pu_tup (allc rfl (allc rfl rfl))),rfl⟩
  ·rw [hb4]
   conv=>whnf
   replace h:=it_f hb4 h
   obtain ⟨r3,hb5,h⟩:=bd_some h
   refine ⟨(allc (pu_map (fun _=>rfl) _ _ _) (allc rfl rfl)),_,x61_ok hb5,?_⟩
   conv=>whnf
   cases r3
   ·conv=>whnf
    replace h:=it_f rfl h
    obtain rfl:=Option.some.inj h
    exact hR _ _ ⟨.inr rfl,_,rfl,_,frz_pure (pu_tup (allc rfl (allc rfl rfl))),rfl⟩
   ·conv=>whnf
    replace h:=it_t rfl h
    subst g_1
    refine x38_l2_ok ?_ ?_ (by exact rfl) h
    ·exact fun T H hh=>hR T H hh
    ·intro z2 u0 u1 u2 u3 u4 u6 u7 u8 u9 u11 u12 u13 u15 u16 u17 u18 u19 u20 u21 u22 u23 u24 u25 u26 u27 u28 u29 u30 u31 u32 u33 u34 u35 u36 u37 u38 u39 u40 u41 u42 u43 u44 u45 u46 u47 u48 u49 u50 u51 u52 u53 u54 u55 u56 u57 u58 u59 u60 u61 u62 u63 u64 u65 u66 u67 u68 u69 u70 u71 u72 u73 u74 u75 u76 o2 Yq h
     conv=>whnf
     obtain rfl:=Option.some.inj h
     exact hR _ _ ⟨.inr rfl,_,rfl,_,frz_pure (pu_tup (allc rfl (allc rfl rfl))),rfl⟩

noncomputable def xrc82_1:RC :=
 .loop (some [i_,i_,i_,i_,o_,o_,o_,o_,o_,i_,i_,o_,o_,o_,o_,o_,o_,o_,o_,o_,o_,o_,o_,o_,o_,o_,o_,o_,o_,o_,o_,o_,o_,o_,o_,o_,o_,o_,o_,o_,o_,o_,o_,o_,o_,o_,o_,o_,o_,o_,o_,o_,o_,o_,o_,o_,o_,o_,o_,o_,o_,o_,o_,o_,o_,o_]) (.seq (.seq (.reg false [I_ 12 [.sl 10] .mv,I_ 13 [.sl 1] .mv,I_ 14 [.tk 13] .lenS,I_ 15 [.tv 12,.tv 14] (.bin .lss)]) (.cond (.sl 15) .skip (.exit 0))) (.seq (.block 1 (.seq (.reg false [I_ 18 [.sl 0]
 .mv,I_ 19 [.sl 1] .mv,I_ 20 [.sl 10] .mv,I_ 21 [.tv 19,.tv 20] (.ia 1),I_ 22 [.tv 21] (.ld .one),I_ 23 [.tv 18,.tv 22] (.ia 2),I_ 24 [.tv 23] (.ld (.str 2)),I_ 11 [] (.alloc [.int .i64 0,.int .i64 0]),⟨none,[.sl 11,
 .tk 24],none,none,.st 2⟩]) (.seq (.seq (.reg true [I_ 25 [.sl 11] (.fa 0),I_ 26 [.tv 25] (.ld .one),I_ 27 [.sl 0] .mv,I_ 28 [.sl 2] .mv,I_ 29 [.tv 27,.tv 28] (.ia 2),I_ 30 [.tv 29] (.fa 0),I_ 31 [.tv 30] (.ld .one),
 I_ 32 [.tv 26,.tv 31] (.bin .neq),I_ 33 [.tk 32] .mv,⟨some 34,[.sl 11],some (33,false),none,.fa 1⟩,⟨some 35,[.tv 34],some (33,false),none,.ld .one⟩,⟨some 36,[.sl 0],some (33,false),none,.mv⟩,⟨some 37,[.sl
 2],some (33,false),none,.mv⟩,⟨some 38,[.tv 36,.tv 37],some (33,false),none,.ia 2⟩,⟨some 39,[.tv 38],some (33,false),none,.fa 1⟩,⟨some 40,[.tv 39],some (33,false),none,.ld .one⟩,⟨some 41,[.tv 35,.tv
 40],some (33,false),none,.bin .lss⟩,I_ 42 [.sl 33,.cv (.bool true),.tv 41] .pick]) (.cond (.sl 42) (.exit 1) .skip)) (.seq (.reg true [I_ 43 [.sl 3] .mv,I_ 44 [.tv 43] (.un .not),I_ 45 [.tk 44] .mv,⟨some 46,[.tv 11],
 some (45,false),none,.fa 1⟩,⟨some 47,[.tv 46],some (45,false),none,.ld .one⟩,⟨some 48,[.sl 0],some (45,false),none,.mv⟩,⟨some 49,[.sl 2],some (45,false),none,.mv⟩,⟨some 50,[.tv 48,.tv 49],some (45,
 false),none,.ia 2⟩,⟨some 51,[.tv 50],some (45,false),none,.fa 1⟩,⟨some 52,[.tv 51],some (45,false),none,.ld .one⟩,⟨some 53,[.tv 47,.tv 52],some (45,false),none,.bin .gtr⟩,I_ 54 [.sl 45,.cv (.bool true),
 .tv 53] .pick,I_ 55 [.tk 54] .mv,⟨some 56,[.sl 1],some (55,false),none,.mv⟩,⟨some 57,[.sl 10],some (55,false),none,.mv⟩,⟨some 58,[.tv 56,.tv 57],some (55,false),none,.ia 1⟩,⟨some 59,[.tv 58],some (55,
 false),none,.ld .one⟩,⟨some 60,[.sl 2],some (55,false),none,.mv⟩,⟨some 61,[.tv 59,.tv 60],some (55,false),none,.bin .lss⟩,I_ 62 [.sl 55,.cv (.bool true),.tv 61] .pick]) (.cond (.sl 62) (.reg false [I_ 63 [.tk
 9] .mv,I_ 64 [.tv 63,.cv (.int .i64 1)] (.bin .add),I_ 9 [.tk 64] .mv]) .skip))))) (.reg false [I_ 16 [.tk 10] .mv,I_ 17 [.tv 16,.cv (.int .i64 1)] (.bin .add),I_ 10 [.tk 17] .mv])))
noncomputable def xrc82:RC :=
 .seq (.reg false [I_ 8 [.cv (.int .i64 0)] .mv]) (.seq (.reg false [I_ 9 [.cv (.int .i64 0)] .mv]) (.seq (.seq (.reg false [I_ 10 [.cv (.int .i64 0)] .mv]) (.block 0 xrc82_1)) (.seq (.reg false [I_ 65 [.tk 9] .mv,I_ 8 [.tk 65]
 .mv]) .ret)))
theorem lxx82:linkF Tryz.prog ann82 82=some (xrc82,66,[.tmp 8]):=by kernel_rfl
def x82_l1 (panels:(List (Int×Int))) (someq:(List Int)) (one:Int) (before:Bool) (kl1_0:Int→Option Int):Nat→Int→Int→Option Int
 | 0,_,_=>none
 | m+1,s1,s2 =>
   if (decide (s2<(someq.length:Int)))=true then
    gd (0≤s2∧s2<(someq.length:Int)) <|
    gd (0≤(ix someq s2)∧(ix someq s2)<(panels.length:Int)) <|
    gd (0≤one∧one<(panels.length:Int)) <|
    if (decide ((ix panels (ix someq s2)).1≠(ix panels one).1))=true then
     x82_l1 panels someq one before kl1_0 m s1 (w (s2+(1:Int)))
    else
     gd (0≤one∧one<(panels.length:Int)) <|
     if (decide ((ix panels (ix someq s2)).2<(ix panels one).2))=true then
      x82_l1 panels someq one before kl1_0 m s1 (w (s2+(1:Int)))
     else
      if before=true then
       gd (0≤one∧one<(panels.length:Int)) <|
       if (decide ((ix panels one).2<(ix panels (ix someq s2)).2))=true then
        x82_l1 panels someq one before kl1_0 m (w (s1+(1:Int))) (w (s2+(1:Int)))
       else
        gd (0≤s2∧s2<(someq.length:Int)) <|
        if (decide ((ix someq s2)<one))=true then
         x82_l1 panels someq one before kl1_0 m (w (s1+(1:Int))) (w (s2+(1:Int)))
        else
         x82_l1 panels someq one before kl1_0 m s1 (w (s2+(1:Int)))
      else
       x82_l1 panels someq one before kl1_0 m (w (s1+(1:Int))) (w (s2+(1:Int)))
   else
    kl1_0 s1
def x82 (panels:(List (Int×Int))) (someq:(List Int)) (one:Int) (before:Bool):Option Int :=
 x82_l1 panels someq one before (fun z1 =>
   some z1) FU (0:Int) (0:Int)
theorem x82_l1_ok {panels:(List (Int×Int))} {someq:(List Int)} {one:Int} {before:Bool} {kl1_0:Int→Option Int} {s1:Int} {s2:Int} {v:Int} {Q:Ex→List AV→List AObj→Prop}   (hkl1_0:∀ (z1:Int) (u0:AV) (u1:AV) (u2:AV) (u3:AV) (u7:AV) (u8:AV) (u10:AV) (u11:AV) (u12:AV) (u13:AV) (u14:AV) (u15:AV) (u16:AV) (u17:AV) (u18:AV) (u19:AV) (u20:AV) (u21:AV) (u22:AV) (u23:AV) (u24:AV) (u25:AV) (u26:AV) (u27:AV) (u28:AV) (u29:AV) (u30:AV) (u31:AV) (u32:AV) (u33:AV) (u34:AV) (u35:AV) (u36:AV) (u37:AV) (u38:AV) (u39:AV) (u40:AV) (u41:AV) (u42:AV) (u43:AV) (u44:AV) (u45:AV) (u46:AV) (u47:AV) (u48:AV) (u49:AV) (u50:AV) (u51:AV) (u52:AV) (u53:AV) (u54:AV) (u55:AV) (u56:AV) (u57:AV) (u58:AV) (u59:AV) (u60:AV) (u61:AV) (u62:AV) (u63:AV) (u64:AV) (u65:AV) (Yq:List AObj),kl1_0 z1=some v→Q (.exit 0) [u0,u1,u2,u3,J,J,J,u7,u8,(I z1),u10,u11,u12,u13,u14,u15,u16,u17,u18,u19,u20,u21,u22,u23,u24,u25,u26,u27,u28,u29,u30,u31,u32,u33,u34,u35,u36,u37,u38,u39,u40,u41,u42,u43,u44,u45,u46,u47,u48,u49,u50,u51,u52,u53,u54,u55,u56,u57,u58,u59,u60,u61,u62,u63,u64,u65] (Yq)) {T:List AV} (hT:zipKeep [i_,i_,i_,i_,o_,o_,o_,o_,o_,i_,i_,o_,o_,o_,o_,o_,o_,o_,o_,o_,o_,o_,o_,o_,o_,o_,o_,o_,o_,o_,o_,o_,o_,o_,o_,o_,o_,o_,o_,o_,o_,o_,o_,o_,o_,o_,o_,o_,o_,o_,o_,o_,o_,o_,o_,o_,o_,o_,o_,o_,o_,o_,o_,o_,o_,o_] T=slots 66 [(0,(.lst (panels.flatMap pr) panels.length .shared)),(1,(.lst (someq.map I) someq.length .shared)),(2,(I one)),(3,(B before)),(9,(I s1)),(10,(I s2))]) (h:x82_l1 panels someq one before kl1_0 FU s1 s2=some v) :
  wpR Tryz.prog ann82 82 0 none xrc82_1 T [] Q:=by
 unfold xrc82_1
 skip
 refine wp_loop hT ?_
 refine .intro (fun m T H=>∃ (s1:Int) (s2:Int) (Y82_1:List AObj),T=slots 66 [(0,(.lst (panels.flatMap pr) panels.length .shared)),(1,(.lst (someq.map I) someq.length .shared)),(2,(I one)),(3,(B before)),(9,(I s1)),(10,(I s2))]∧H=(Y82_1)∧x82_l1 panels someq one before kl1_0 m s1 s2=some v) FU ⟨s1,s2,[],rfl,rfl,h⟩ ?_
 clear h hT
 rintro m T H ⟨s1,s2,Y82_1,rfl,rfl,h⟩
 cases m
 ·exact none_ne h
 rename_i m
 rw [x82_l1.eq_2] at h
 conv=>whnf
 rcases bt (decide (s2<(someq.length:Int))) with hb1 | hb1
 ·rw [hb1]
  conv=>whnf
  replace h:=it_t hb1 h
  obtain ⟨hb2,h⟩:=gd_some h
  refine ⟨hb2,?_⟩
  rw [drop1 I someq s2 hb2]
  conv=>whnf
  obtain ⟨hb3,h⟩:=gd_some h
  refine ⟨hb3,?_⟩
  rw [dropS pr 2 pr_len panels (ix someq s2) hb3]
  conv=>whnf
  refine nthK_of (x:=AObj.cells [(I (0:Int)),(I (0:Int))]) (by first | with_reducible exact get_concat _ _ | exact get_concat _ _ | exact ga (get_concat _ _) | rfl | (simp [List.getElem?_append,AV.settle];done)) ?_
  conv=>whnf
  rw [set_concat]
  refine nthK_of (x:=AObj.cells [(I (ix panels (ix someq s2)).1),(I (ix panels (ix someq s2)).2)]) (by first | with_reducible exact get_concat _ _ | exact get_concat _ _ | exact ga (get_concat _ _) | rfl | (simp [List.getElem?_append,AV.settle];done)) ?_
  conv=>whnf
  obtain ⟨hb4,h⟩:=gd_some h
  refine ⟨hb4,?_⟩
  rw [dropS pr 2 pr_len panels one hb4]
  conv=>whnf
  rcases bt (decide ((ix panels (ix someq s2)).1≠(ix panels one).1)) with hb5 | hb5
  ·rw [hb5]
   conv=>whnf
   replace h:=it_t hb5 h
   exact ⟨m,Nat.lt_succ_self m,s1,(w (s2+(1:Int))),_,rfl,rfl,h⟩
  ·rw [hb5]
   conv=>whnf
   replace h:=it_f hb5 h
   refine nthK_of (x:=AObj.cells [(I (ix panels (ix someq s2)).1),(I (ix panels (ix someq s2)).2)]) (by first | with_reducible exact get_concat _ _ | exact get_concat _ _ | exact ga (get_concat _ _) | rfl | (simp [List.getElem?_append,AV.settle];done)) ?_
   conv=>whnf
   obtain ⟨hb6,h⟩:=gd_some h
   refine ⟨hb6,?_⟩
   rw [dropS pr 2 pr_len panels one hb6]
   conv=>whnf
   rcases bt (decide ((ix panels (ix someq s2)).2<(ix panels one).2)) with hb7 | hb7
   ·rw [hb7]
    conv=>whnf
    replace h:=it_t hb7 h
    exact ⟨m,Nat.lt_succ_self m,s1,(w (s2+(1:Int))),_,rfl,rfl,h⟩
   ·rw [hb7]
    conv=>whnf
    replace h:=it_f hb7 h
    cases before
    ·conv=>whnf
     replace h:=it_f rfl h
     exact ⟨m,Nat.lt_succ_self m,(w (s1+(1:Int))),(w (s2+(1:Int))),_,rfl,rfl,h⟩
    ·conv=>whnf
     replace h:=it_t rfl h
     refine nthK_of (x:=AObj.cells [(I (ix panels (ix someq s2)).1),(I (ix panels (ix someq s2)).2)]) (by first | with_reducible exact get_concat _ _ | exact get_concat _ _ | exact ga (get_concat _ _) | rfl | (simp [List.getElem?_append,AV.settle];done)) ?_
     conv=>whnf
     obtain ⟨hb8,h⟩:=gd_some h
     refine ⟨hb8,?_⟩
     rw [dropS pr 2 pr_len panels one hb8]
     conv=>whnf
     rcases bt (decide ((ix panels one).2<(ix panels (ix someq s2)).2)) with hb9 | hb9
     ·rw [hb9]
      conv=>whnf
      replace h:=it_t hb9 h
      exact ⟨m,Nat.lt_succ_self m,(w (s1+(1:Int))),(w (s2+(1:Int))),_,rfl,rfl,h⟩
     ·rw [hb9]
      conv=>whnf
      replace h:=it_f hb9 h
      obtain ⟨hb10,h⟩:=gd_some h
      refine ⟨hb10,?_⟩
      rw [drop1 I someq s2 hb10]
      conv=>whnf
      rcases bt (decide ((ix someq s2)<one)) with hb11 | hb11
      ·rw [hb11]
       conv=>whnf
       replace h:=it_t hb11 h
       exact ⟨m,Nat.lt_succ_self m,(w (s1+(1:Int))),(w (s2+(1:Int))),_,rfl,rfl,h⟩
      ·rw [hb11]
       conv=>whnf
       replace h:=it_f hb11 h
       exact ⟨m,Nat.lt_succ_self m,s1,(w (s2+(1:Int))),_,rfl,rfl,h⟩
 ·rw [hb1]
  conv=>whnf
  replace h:=it_f hb1 h
  exact hkl1_0 _ _ _ _ _ _ _ _ _ _ _ _ _ _ _ _ _ _ _ _ _ _ _ _ _ _ _ _ _ _ _ _ _ _ _ _ _ _ _ _ _ _ _ _ _ _ _ _ _ _ _ _ _ _ _ _ _ _ _ _ _ _ _ _ h
theorem x82_ok {panels:(List (Int×Int))} {someq:(List Int)} {one:Int} {before:Bool} {v:Int} (h:x82 panels someq one before=some v):PO 82 [(.lst (panels.flatMap pr) panels.length .shared),(.lst (someq.map I) someq.length .shared),(I one),(B before)] (I v):=by
 refine fn_pureW hmix lxx82 rfl rfl fun Q hQ=>?_
 have hR:∀ T H,RetW [.tmp 8] (I v) .ret T H→Q .ret T H:=fun T H hh=>hQ _ T H hh
 unfold x82 at h
 unfold xrc82
 obtain ⟨c_1,g_1⟩:∃ c,xrc82_1=c:=⟨_,rfl⟩
 rw [g_1]
 conv=>whnf
 subst g_1
 refine x82_l1_ok ?_ (by exact rfl) h
 intro z1 u0 u1 u2 u3 u7 u8 u10 u11 u12 u13 u14 u15 u16 u17 u18 u19 u20 u21 u22 u23 u24 u25 u26 u27 u28 u29 u30 u31 u32 u33 u34 u35 u36 u37 u38 u39 u40 u41 u42 u43 u44 u45 u46 u47 u48 u49 u50 u51 u52 u53 u54 u55 u56 u57 u58 u59 u60 u61 u62 u63 u64 u65 Yq h
 conv=>whnf
 obtain rfl:=Option.some.inj h
 exact hR _ _ ⟨.inr rfl,_,rfl,_,frz_pure rfl,rfl⟩

noncomputable def xrc83_1:RC :=
 .loop (some [i_,o_,o_,i_,i_,o_,o_,o_,o_,o_,o_,o_,o_,o_,o_,o_]) (.seq (.seq (.reg false [I_ 5 [.sl 4] .mv,I_ 6 [.sl 0] .mv,I_ 7 [.tk 6] .lenS,I_ 8 [.tv 5,.tv 7] (.bin
 .lss)]) (.cond (.sl 8) .skip (.exit 0))) (.seq (.block 1 (.reg false [I_ 11 [.tk 3] .mv,I_ 12 [.sl 4] .mv,I_ 13 [.tv 12] (.buildS 1 1 [.int .i64 0] [0]),I_ 14 [.tk 11,.tk 13] (.app 1 8),I_ 3 [.tk 14] .mv])) (.reg false [I_
 9 [.tk 4] .mv,I_ 10 [.tv 9,.cv (.int .i64 1)] (.bin .add),I_ 4 [.tk 10] .mv])))
noncomputable def xrc83:RC :=
 .seq (.reg false [I_ 2 [.cv (.lst [] 0 .full)] (.nil 1)]) (.seq (.reg false [I_ 3 [.cv (.lst [] 0 .full)] (.nil 1)]) (.seq (.seq (.reg false [I_ 4 [.cv (.int .i64 0)] .mv]) (.block 0 xrc83_1)) (.seq (.reg false [I_ 15 [.tk 3]
 .mv,I_ 2 [.tk 15] .mv]) .ret)))
theorem lxx83:linkF Tryz.prog ann83 83=some (xrc83,16,[.tmp 2]):=by kernel_rfl
def x83_l1 (panels:(List (Int×Int))) (kl1_0:(List Int)→Option (List Int)):Nat→(List Int)→Int→Option (List Int)
 | 0,_,_=>none
 | m+1,s1,s2 =>
   if (decide (s2<(panels.length:Int)))=true then
    gd ((s1.length+1)*8≤140737488355328) <|
    x83_l1 panels kl1_0 m (s1++[s2]) (w (s2+(1:Int)))
   else
    kl1_0 s1
def x83 (panels:(List (Int×Int))):Option (List Int) :=
 x83_l1 panels (fun z1 =>
   some z1) FU ([]:List Int) (0:Int)
theorem x83_l1_ok {panels:(List (Int×Int))} {kl1_0:(List Int)→Option (List Int)} {s1:(List Int)} {s2:Int} {v:(List Int)} {Q:Ex→List AV→List AObj→Prop}   (hkl1_0:∀ (z1:(List Int)) (u0:AV) (u2:AV) (u4:AV) (u5:AV) (u6:AV) (u7:AV) (u8:AV) (u9:AV) (u10:AV) (u11:AV) (u12:AV) (u13:AV) (u14:AV) (u15:AV),kl1_0 z1=some v→Q (.exit 0) [u0,J,u2,(.lst (z1.map I) z1.length (.uniq 1)),u4,u5,u6,u7,u8,u9,u10,u11,u12,u13,u14,u15] []) {T:List AV} (hT:zipKeep [i_,o_,o_,i_,i_,o_,o_,o_,o_,o_,o_,o_,o_,o_,o_,o_] T=slots 16 [(0,(.lst (panels.flatMap pr) panels.length .shared)),(3,(.lst (s1.map I) s1.length (.uniq 1))),(4,(I s2))]) (h:x83_l1 panels kl1_0 FU s1 s2=some v) :
  wpR Tryz.prog ann83 83 0 none xrc83_1 T [] Q:=by
 unfold xrc83_1
 skip
 refine wp_loop hT ?_
 refine .intro (fun m T H=>∃ (s1:(List Int)) (s2:Int),T=slots 16 [(0,(.lst (panels.flatMap pr) panels.length .shared)),(3,(.lst (s1.map I) s1.length (.uniq 1))),(4,(I s2))]∧H=[]∧x83_l1 panels kl1_0 m s1 s2=some v) FU ⟨s1,s2,rfl,rfl,h⟩ ?_
 clear h hT
 rintro m T H ⟨s1,s2,rfl,rfl,h⟩
 cases m
 ·exact none_ne h
 rename_i m
 rw [x83_l1.eq_2] at h
 conv=>whnf
 rcases bt (decide (s2<(panels.length:Int))) with hb1 | hb1
 ·rw [hb1]
  conv=>whnf
  replace h:=it_t hb1 h
  obtain ⟨hb2,h⟩:=gd_some h
  refine ⟨by first | rfl | simp,by have:=hb2;omega,rfl,hb2,?_⟩
  erw [apnd1 I s1 s2]
  conv=>whnf
  exact ⟨m,Nat.lt_succ_self m,(s1++[s2]),(w (s2+(1:Int))),rfl,rfl,h⟩
 ·rw [hb1]
  conv=>whnf
  replace h:=it_f hb1 h
  exact hkl1_0 _ _ _ _ _ _ _ _ _ _ _ _ _ _ _ h
theorem x83_ok {panels:(List (Int×Int))} {v:(List Int)} (h:x83 panels=some v):PO 83 [(.lst (panels.flatMap pr) panels.length .shared)] (.lst (v.map I) v.length .shared):=by
 refine fn_pureW hmix lxx83 rfl (pu_map (fun _=>rfl) _ _ _) fun Q hQ=>?_
 have hR:∀ T H,RetW [.tmp 2] (.lst (v.map I) v.length .shared) .ret T H→Q .ret T H:=fun T H hh=>hQ _ T H hh
 unfold x83 at h
 unfold xrc83
 obtain ⟨c_1,g_1⟩:∃ c,xrc83_1=c:=⟨_,rfl⟩
 rw [g_1]
 conv=>whnf
 subst g_1
 refine x83_l1_ok ?_ (by exact rfl) h
 intro z1 u0 u2 u4 u5 u6 u7 u8 u9 u10 u11 u12 u13 u14 u15 h
 conv=>whnf
 obtain rfl:=Option.some.inj h
 exact hR _ _ ⟨.inr rfl,_,rfl,_,frz_pure (pu_map (fun _=>rfl) _ _ _),rfl⟩

noncomputable def xrc39_1:RC :=
 .loop (some [o_,i_,i_,o_,o_,o_,o_,o_,i_,i_,i_,o_,o_,o_,o_,o_,o_,o_,o_,o_,o_,o_,o_,o_,o_,o_,o_,o_,o_,o_,o_,o_,o_,o_,o_,o_,o_,o_,o_,o_,o_,o_,o_,o_,o_,o_,o_,o_,o_,o_,o_,o_,o_,o_,o_,o_,o_,o_,o_,o_,o_,o_,o_,o_]) (.seq (.seq (.reg false [I_ 27 [.sl 10] .mv,I_ 28 [.sl 2] .mv,I_ 29 [.tk 28] .lenS,I_ 30 [.tv 27,.tv 29] (.bin .lss)]) (.cond (.sl 30) .skip (.exit 0))) (.seq (.block 1 (.seq (.reg false [I_ 33 [.sl 1] .mv,I_ 34
 [.sl 2] .mv,I_ 35 [.sl 2] .mv,I_ 36 [.sl 10] .mv,I_ 37 [.tv 35,.tv 36] (.ia 1),I_ 38 [.tv 37] (.ld .one),I_ 39 [.cv (.func 82 [] []),.sl 33,.sl 34,.sl 38,.cv (.bool true)] (.call 3),I_ 11 [.tk 39] .mv]) (.seq (.seq
 (.reg true [I_ 40 [.sl 1] .mv,I_ 41 [.sl 1] .mv,I_ 42 [.cv (.func 83 [] []),.sl 41] (.call 3),I_ 43 [.sl 2] .mv,I_ 44 [.sl 10] .mv,I_ 45 [.tv 43,.tv 44] (.ia 1),I_ 46 [.tv 45] (.ld .one),I_ 47 [.cv (.func 82 [] []),
 .sl 40,.sl 42,.sl 46,.cv (.bool false)] (.call 3),I_ 48 [.tk 11] .mv,I_ 49 [.sl 8] .mv,I_ 50 [.tv 48,.tv 49] (.bin .mul),I_ 51 [.tv 50,.cv (.int .i64 1)] (.bin .add),I_ 52 [.tv 47,.tv 51] (.bin .lss)]) (.cond (.sl
 52) (.seq (.reg false [I_ 6 [.cv (.int .i64 0)] .mv,I_ 7 [.cv (.int .i64 14)] .mv]) .ret) .skip)) (.reg false [I_ 53 [.tk 9] .mv,I_ 54 [.sl 1] .mv,I_ 55 [.sl 2] .mv,I_ 56 [.sl 10] .mv,I_ 57 [.tv 55,.tv 56] (.ia 1),I_ 58
 [.tv 57] (.ld .one),I_ 59 [.tv 54,.tv 58] (.ia 2),I_ 60 [.tv 59] (.fa 1),I_ 61 [.tv 60] (.ld .one),I_ 62 [.tv 53,.tv 61] (.bin .add),I_ 9 [.tk 62] .mv])))) (.reg false [I_ 31 [.tk 10] .mv,I_ 32 [.tv 31,.cv (.int .i64
 1)] (.bin .add),I_ 10 [.tk 32] .mv])))
noncomputable def xrc39:RC :=
 .seq (.reg false [I_ 3 [.tk 0] .box,I_ 6 [.cv (.int .i64 0)] .mv,I_ 7 [.cv (.int .i64 0)] .mv]) (.seq (.seq (.reg false [I_ 12 [.sl 3] (.ld (.str 4)),I_ 13 [.sl 1] .mv,I_ 14 [.cv (.func 66 [] []),.sl 12,.sl 13] (.call 3),
 I_ 15 [.tv 14,.cv (.int .i64 0)] (.bin .neq)]) (.cond (.sl 15) (.seq (.reg false [I_ 16 [.tv 3] (.ld (.str 4)),I_ 17 [.tk 1] .mv,I_ 18 [.cv (.func 66 [] []),.sl 16,.sl 17] (.call 3),I_ 6 [.cv (.int .i64 0)] .mv,I_ 7 [.tk
 18] .mv]) .ret) .skip)) (.seq (.seq (.reg false [I_ 19 [.sl 2] .mv,I_ 20 [.sl 1] .mv,I_ 21 [.tk 20] .lenS,I_ 22 [.cv (.func 62 [] []),.sl 19,.sl 21] (.call 3),I_ 23 [.tv 22] (.un .not)]) (.cond (.sl 23) (.seq (.reg false
 [I_ 6 [.cv (.int .i64 0)] .mv,I_ 7 [.cv (.int .i64 2)] .mv]) .ret) .skip)) (.seq (.reg false [I_ 24 [.tv 3] (.ld (.str 4)),I_ 25 [.cv (.func 51 [] []),.sl 24] (.call 3),I_ 26 [.tk 25] .lenS,I_ 8 [.tk 26] .mv,I_ 9 [.cv
 (.int .i64 0)] .mv]) (.seq (.seq (.reg false [I_ 10 [.cv (.int .i64 0)] .mv]) (.block 0 xrc39_1)) (.seq (.reg false [I_ 63 [.tk 9] .mv,I_ 6 [.tk 63] .mv,I_ 7 [.cv (.int .i64 0)] .mv]) .ret)))))
theorem lxx39:linkF Tryz.prog ann39 39=some (xrc39,64,[.tmp 6,.tmp 7]):=by kernel_rfl
def x39_l1 (panels:(List (Int×Int))) (marks:(List Int)) (r4:(List Int)) (kl1_0:Int→Option (Int×Int)):Nat→Int→Int→Option (Int×Int)
 | 0,_,_=>none
 | m+1,s1,s2 =>
   if (decide (s2<(marks.length:Int)))=true then
    gd (0≤s2∧s2<(marks.length:Int)) <|
    (x82 panels marks (ix marks s2) true).bind fun r5 =>
    (x83 panels).bind fun r6 =>
    gd (0≤s2∧s2<(marks.length:Int)) <|
    (x82 panels r6 (ix marks s2) false).bind fun r7 =>
    if (decide (r7<(w ((w (r5*(r4.length:Int)))+(1:Int)))))=true then
     some ((0:Int),(14:Int))
    else
     gd (0≤s2∧s2<(marks.length:Int)) <|
     gd (0≤(ix marks s2)∧(ix marks s2)<(panels.length:Int)) <|
     x39_l1 panels marks r4 kl1_0 m (w (s1+(ix panels (ix marks s2)).2)) (w (s2+(1:Int)))
   else
    kl1_0 s1
def x39 (b:(Int×(List Int)×Int×Int)) (panels:(List (Int×Int))) (marks:(List Int)):Option (Int×Int) :=
 (x66 b panels).bind fun r1 =>
 if (decide (r1≠(0:Int)))=true then
  (x66 b panels).bind fun r2 =>
  some ((0:Int),r2)
 else
  (x62 marks (panels.length:Int)).bind fun r3 =>
  if r3=true then
   (x51 b).bind fun r4 =>
   x39_l1 panels marks r4 (fun z1 =>
     some (z1,(0:Int))) FU (0:Int) (0:Int)
  else
   some ((0:Int),(2:Int))
theorem x39_l1_ok {panels:(List (Int×Int))} {marks:(List Int)} {r4:(List Int)} {kl1_0:Int→Option (Int×Int)} {s1:Int} {s2:Int} {v:(Int×Int)} {Q:Ex→List AV→List AObj→Prop} {o1:AObj}  (hR:∀ T H,RetW [.tmp 6,.tmp 7] (.tuple [(I v.1),(I v.2)]) .ret T H→Q .ret T H) (hkl1_0:∀ (z1:Int) (u0:AV) (u1:AV) (u2:AV) (u3:AV) (u6:AV) (u7:AV) (u8:AV) (u10:AV) (u11:AV) (u12:AV) (u13:AV) (u14:AV) (u15:AV) (u16:AV) (u17:AV) (u18:AV) (u19:AV) (u20:AV) (u21:AV) (u22:AV) (u23:AV) (u24:AV) (u25:AV) (u26:AV) (u27:AV) (u28:AV) (u29:AV) (u30:AV) (u31:AV) (u32:AV) (u33:AV) (u34:AV) (u35:AV) (u36:AV) (u37:AV) (u38:AV) (u39:AV) (u40:AV) (u41:AV) (u42:AV) (u43:AV) (u44:AV) (u45:AV) (u46:AV) (u47:AV) (u48:AV) (u49:AV) (u50:AV) (u51:AV) (u52:AV) (u53:AV) (u54:AV) (u55:AV) (u56:AV) (u57:AV) (u58:AV) (u59:AV) (u60:AV) (u61:AV) (u62:AV) (u63:AV),kl1_0 z1=some v→Q (.exit 0) [u0,u1,u2,u3,J,J,u6,u7,u8,(I z1),u10,u11,u12,u13,u14,u15,u16,u17,u18,u19,u20,u21,u22,u23,u24,u25,u26,u27,u28,u29,u30,u31,u32,u33,u34,u35,u36,u37,u38,u39,u40,u41,u42,u43,u44,u45,u46,u47,u48,u49,u50,u51,u52,u53,u54,u55,u56,u57,u58,u59,u60,u61,u62,u63] [o1]) {T:List AV} (hT:zipKeep [o_,i_,i_,o_,o_,o_,o_,o_,i_,i_,i_,o_,o_,o_,o_,o_,o_,o_,o_,o_,o_,o_,o_,o_,o_,o_,o_,o_,o_,o_,o_,o_,o_,o_,o_,o_,o_,o_,o_,o_,o_,o_,o_,o_,o_,o_,o_,o_,o_,o_,o_,o_,o_,o_,o_,o_,o_,o_,o_,o_,o_,o_,o_,o_] T=slots 64 [(1,(.lst (panels.flatMap pr) panels.length .shared)),(2,(.lst (marks.map I) marks.length .shared)),(8,(I (r4.length:Int))),(9,(I s1)),(10,(I s2))]) (h:x39_l1 panels marks r4 kl1_0 FU s1 s2=some v) :
  wpR Tryz.prog ann39 39 0 none xrc39_1 T [o1] Q:=by
 unfold xrc39_1
 skip
 refine wp_loop hT ?_
 refine .intro (fun m T H=>∃ (s1:Int) (s2:Int),T=slots 64 [(1,(.lst (panels.flatMap pr) panels.length .shared)),(2,(.lst (marks.map I) marks.length .shared)),(8,(I (r4.length:Int))),(9,(I s1)),(10,(I s2))]∧H=[o1]∧x39_l1 panels marks r4 kl1_0 m s1 s2=some v) FU ⟨s1,s2,rfl,rfl,h⟩ ?_
 clear h hT
 rintro m T H ⟨s1,s2,rfl,rfl,h⟩
 cases m
 ·exact none_ne h
 rename_i m
 rw [x39_l1.eq_2] at h
 conv=>whnf
 rcases bt (decide (s2<(marks.length:Int))) with hb6 | hb6
 ·rw [hb6]
  conv=>whnf
  replace h:=it_t hb6 h
  obtain ⟨hb7,h⟩:=gd_some h
  refine ⟨hb7,?_⟩
  rw [drop1 I marks s2 hb7]
  conv=>whnf
  obtain ⟨r5,hb8,h⟩:=bd_some h
  refine ⟨(allc (pu_flat (fun _=>(allc rfl (allc rfl rfl))) _ _ _) (allc (pu_map (fun _=>rfl) _ _ _) (allc rfl (allc rfl rfl)))),_,x82_ok hb8,?_⟩
  conv=>whnf
  obtain ⟨r6,hb9,h⟩:=bd_some h
  refine ⟨(allc (pu_flat (fun _=>(allc rfl (allc rfl rfl))) _ _ _) rfl),_,x83_ok hb9,acc0,?_⟩
  conv=>whnf
  obtain ⟨hb10,h⟩:=gd_some h
  refine ⟨hb10,?_⟩
  rw [drop1 I marks s2 hb10]
  conv=>whnf
  obtain ⟨r7,hb11,h⟩:=bd_some h
  refine ⟨(allc (pu_flat (fun _=>(allc rfl (allc rfl rfl))) _ _ _) (allc (pu_map (fun _=>rfl) _ _ _) (allc rfl (allc rfl rfl)))),_,x82_ok hb11,accN rfl,?_⟩
  conv=>whnf
  rcases bt (decide (r7<(w ((w (r5*(r4.length:Int)))+(1:Int))))) with hb12 | hb12
  ·rw [hb12]
   conv=>whnf
   replace h:=it_t hb12 h
   obtain rfl:=Option.some.inj h
   exact hR _ _ ⟨.inr rfl,_,rfl,_,frz_pure (pu_tup (allc rfl (allc rfl rfl))),rfl⟩
  ·rw [hb12]
   conv=>whnf
   replace h:=it_f hb12 h
   obtain ⟨hb13,h⟩:=gd_some h
   refine ⟨hb13,?_⟩
   rw [drop1 I marks s2 hb13]
   conv=>whnf
   obtain ⟨hb14,h⟩:=gd_some h
   refine ⟨hb14,?_⟩
   rw [dropS pr 2 pr_len panels (ix marks s2) hb14]
   conv=>whnf
   exact ⟨m,Nat.lt_succ_self m,(w (s1+(ix panels (ix marks s2)).2)),(w (s2+(1:Int))),rfl,rfl,h⟩
 ·rw [hb6]
  conv=>whnf
  replace h:=it_f hb6 h
  exact hkl1_0 _ _ _ _ _ _ _ _ _ _ _ _ _ _ _ _ _ _ _ _ _ _ _ _ _ _ _ _ _ _ _ _ _ _ _ _ _ _ _ _ _ _ _ _ _ _ _ _ _ _ _ _ _ _ _ _ _ _ _ _ _ _ h
theorem x39_ok {b:(Int×(List Int)×Int×Int)} {panels:(List (Int×Int))} {marks:(List Int)} {v:(Int×Int)} (h:x39 b panels marks=some v):PO 39 [(.agg [(I b.1),(.lst (b.2.1.map I) b.2.1.length .shared),(I b.2.2.1),(I b.2.2.2)]),(.lst (panels.flatMap pr) panels.length .shared),(.lst (marks.map I) marks.length .shared)] (.tuple [(I v.1),(I v.2)]):=by
 refine fn_pureW hmix lxx39 rfl (pu_tup (allc rfl (allc rfl rfl))) fun Q hQ=>?_
 have hR:∀ T H,RetW [.tmp 6,.tmp 7] (.tuple [(I v.1),(I v.2)]) .ret T H→Q .ret T H:=fun T H hh=>hQ _ T H hh
 unfold x39 at h
 unfold xrc39
 obtain ⟨c_1,g_1⟩:∃ c,xrc39_1=c:=⟨_,rfl⟩
 rw [g_1]
 conv=>whnf
 obtain ⟨r1,hb1,h⟩:=bd_some h
 refine ⟨(allc (pu_agg (allc rfl (allc (pu_map (fun _=>rfl) _ _ _) (allc rfl (allc rfl rfl))))) (allc (pu_flat (fun _=>(allc rfl (allc rfl rfl))) _ _ _) rfl)),_,x66_ok hb1,?_⟩
 conv=>whnf
 rcases bt (decide (r1≠(0:Int))) with hb2 | hb2
 ·rw [hb2]
  conv=>whnf
  replace h:=it_t hb2 h
  obtain ⟨r2,hb3,h⟩:=bd_some h
  refine ⟨(allc (pu_agg (allc rfl (allc (pu_map (fun _=>rfl) _ _ _) (allc rfl (allc rfl rfl))))) (allc (pu_flat (fun _=>(allc rfl (allc rfl rfl))) _ _ _) rfl)),_,x66_ok hb3,?_⟩
  conv=>whnf
  obtain rfl:=Option.some.inj h
  exact hR _ _ ⟨.inr rfl,_,rfl,_,frz_pure (pu_tup (allc rfl (allc rfl rfl))),rfl⟩
 ·rw [hb2]
  conv=>whnf
  replace h:=it_f hb2 h
  obtain ⟨r3,hb4,h⟩:=bd_some h
  refine ⟨(allc (pu_map (fun _=>rfl) _ _ _) (allc rfl rfl)),_,x62_ok hb4,?_⟩
  conv=>whnf
  cases r3
  ·conv=>whnf
   replace h:=it_f rfl h
   obtain rfl:=Option.some.inj h
   exact hR _ _ ⟨.inr rfl,_,rfl,_,frz_pure (pu_tup (allc rfl (allc rfl rfl))),rfl⟩
  ·conv=>whnf
   replace h:=it_t rfl h
   obtain ⟨r4,hb5,h⟩:=bd_some h
   refine ⟨(allc (pu_agg (allc rfl (allc (pu_map (fun _=>rfl) _ _ _) (allc rfl (allc rfl rfl))))) rfl),_,x51_ok hb5,?_⟩
   conv=>whnf
   subst g_1
   refine x39_l1_ok ?_ ?_ (by exact rfl) h
   ·exact fun T H hh=>hR T H hh
   ·intro z1 u0 u1 u2 u3 u6 u7 u8 u10 u11 u12 u13 u14 u15 u16 u17 u18 u19 u20 u21 u22 u23 u24 u25 u26 u27 u28 u29 u30 u31 u32 u33 u34 u35 u36 u37 u38 u39 u40 u41 u42 u43 u44 u45 u46 u47 u48 u49 u50 u51 u52 u53 u54 u55 u56 u57 u58 u59 u60 u61 u62 u63 h
    conv=>whnf
    obtain rfl:=Option.some.inj h
    exact hR _ _ ⟨.inr rfl,_,rfl,_,frz_pure (pu_tup (allc rfl (allc rfl rfl))),rfl⟩

def asB (ps:List (Int×Int)) (one:Int) (b:Bool) (x:Int):Bool:=decide ((ix ps x).1=(ix ps one).1) && decide ((ix ps one).2≤(ix ps x).2) && (!b || decide ((ix ps one).2<(ix ps x).2) || decide (x<one))
theorem x82_step {ps:List (Int×Int)} {M:List Int} {one:Int} {b:Bool} {k:Int→Option Int} {m i:Nat} (h:i<M.length) (hr:0≤M[i]∧M[i]<(ps.length:Int)) (ho:0≤one∧one<(ps.length:Int)) (s:Int) :
  x82_l1 ps M one b k (m+1) s (i:Int)=x82_l1 ps M one b k m (if asB ps one b M[i]=true then w (s+1) else s) (w ((i:Int)+1)):=by
 rw [x82_l1,iflt h,gdi h,ix_nat h,gd_pos hr,gd_pos ho]
 unfold asB
 by_cases h1:(ix ps M[i]).1=(ix ps one).1
 ·rw [if_neg (by simp [h1]),gd_pos ho,decide_eq_true h1,Bool.true_and]
  by_cases h2:(ix ps M[i]).2<(ix ps one).2
  ·rw [if_pos (decide_eq_true h2),decide_eq_false (by omega),Bool.false_and];rfl
  ·rw [if_neg (by simpa using h2),decide_eq_true (show (ix ps one).2≤(ix ps M[i]).2 by omega),Bool.true_and]
   cases b with
   | false=>rfl
   | true =>
     rw [if_pos rfl,gd_pos ho]
     by_cases h3:(ix ps one).2<(ix ps M[i]).2
     ·rw [if_pos (decide_eq_true h3),decide_eq_true h3];rfl
     ·rw [if_neg (by simpa using h3),gdi h,decide_eq_false h3]
      by_cases h4:M[i]<one
      ·rw [if_pos (decide_eq_true h4),decide_eq_true h4];rfl
      ·rw [if_neg (by simpa using h4),decide_eq_false h4];rfl
 ·rw [if_pos (decide_eq_true h1),decide_eq_false h1];rfl
theorem x82_l1_eq {ps:List (Int×Int)} {M:List Int} {one:Int} {b:Bool} {k:Int→Option Int} (hr:∀ x∈M,0≤x∧x<(ps.length:Int)) (ho:0≤one∧one<(ps.length:Int)) (hl:M.length≤1000):∀ (m i:Nat) (z:Int) (c:Nat),z=i→i≤M.length→M.length-i<m→c≤i→x82_l1 ps M one b k m (c:Int) z=k ((c+(M.drop i).countP (asB ps one b):Nat):Int)
 | 0,i,_,_,_,_,h,_=>absurd h (by omega)
 | m+1,i,_,c,rfl,hi,hm,hc=>by
   by_cases h:i<M.length
   ·rw [x82_step h (hr _ (List.getElem_mem h)) ho,w_succ i (by omega),List.drop_eq_getElem_cons h]
    by_cases hb:asB ps one b M[i]=true
    ·rw [if_pos hb,w_succ c (by omega),x82_l1_eq hr ho hl m (i+1) _ (c+1) rfl (by omega) (by omega) (by omega),List.countP_cons_of_pos hb,Nat.add_assoc,Nat.add_comm 1]
    ·rw [if_neg hb,x82_l1_eq hr ho hl m (i+1) _ c rfl (by omega) (by omega) (by omega),List.countP_cons_of_neg hb]
   ·obtain rfl:i=M.length:=by omega
    rw [x82_l1,ifge h,List.drop_length];rfl
theorem x82_eq {ps:List (Int×Int)} {M:List Int} {one:Int} {b:Bool} (hr:∀ x∈M,0≤x∧x<(ps.length:Int)) (ho:0≤one∧one<(ps.length:Int)) (hl:M.length≤1000):x82 ps M one b=some ((M.countP (asB ps one b):Nat):Int):=by
 have:=x82_l1_eq (b:=b) (k:=fun z=>some z) hr ho hl FU 0 0 0 rfl (Nat.zero_le _) (FU_lt (by omega)) (Nat.le_refl _)
 rw [List.drop_zero,Nat.zero_add] at this
 exact this
theorem x83_l1_eq {ps:List (Int×Int)} (hl:ps.length≤1000) {k:List Int→Option (List Int)}:∀ (m i:Nat) (z:Int),z=i→i≤ps.length→ps.length-i<m→x83_l1 ps k m ((List.range i).map fun (i:Nat)=>(i:Int)) z=k ((List.range ps.length).map fun (i:Nat)=>(i:Int))
 | 0,i,_,_,_,h=>absurd h (by omega)
 | m+1,i,_,rfl,hi,hm=>by
   rw [x83_l1]
   by_cases h:i<ps.length
   ·have ih:=x83_l1_eq hl (k:=k) m (i+1) _ rfl (by omega) (by omega)
    rw [List.range_succ,List.map_append] at ih
    rw [iflt h,gd_pos (by rw [List.length_map,List.length_range];omega),w_succ i (by omega)]
    exact ih
   ·obtain rfl:i=ps.length:=by omega
    rw [ifge h]
theorem x83_eq {ps:List (Int×Int)} (hl:ps.length≤1000):x83 ps=some ((List.range ps.length).map fun (i:Nat)=>(i:Int)) :=
 x83_l1_eq hl FU 0 0 rfl (Nat.zero_le _) (FU_lt (by omega))
theorem as_all (ps:List (Int×Int)) (one:Int):((List.range ps.length).map fun (i:Nat)=>(i:Int)).countP (asB ps one false)=cP ps (ix ps one).1 (ix ps one).2:=by
 rw [cP_ix]
 exact List.countP_congr fun x _=>by simp [asB]
def markBad (n:Nat) (ps:List (Int×Int)) (M:List Int) (m:Int):Bool:=decide (cP ps (ix ps m).1 (ix ps m).2≤M.countP (asB ps m true)*n)
def hoursM (ps:List (Int×Int)) (l:List Int):Int:=(l.map fun x=>(ix ps x).2).sum
theorem x39_l1_eq {ps:List (Int×Int)} (hp:PsOk ps) {M wl:List Int} (hr:∀ x∈M,0≤x∧x<(ps.length:Int)) (hl:M.length≤1000) (hw:wl.length≤10) {k:Int→Option (Int×Int)}:∀ (m i:Nat) (z s:Int),z=i→i≤M.length→M.length-i<m→0≤s∧s≤24*i→x39_l1 ps M wl k m s z=if (M.drop i).any (markBad wl.length ps M)=true then some (0,14) else k (s+hoursM ps (M.drop i))
 | 0,i,_,_,_,_,h,_=>absurd h (by omega)
 | m+1,i,_,s,rfl,hi,hm,hs=>by
   have hpl:=hp.len
   rw [x39_l1]
   by_cases h:i<M.length
   ·have h1:=hr _ (List.getElem_mem h)
    have hu:∀ x∈(List.range ps.length).map (fun (i:Nat)=>(i:Int)),0≤x∧x<(ps.length:Int):=fun x hx=>by
     obtain ⟨j,hj,rfl⟩:=List.mem_map.1 hx
     have:j<ps.length:=by simpa using hj
     omega
    have hc:M.countP (asB ps M[i] true)≤M.length:=List.countP_le_length
    have hm1:M.countP (asB ps M[i] true)*wl.length≤1000*10:=Nat.mul_le_mul (by omega) hw
    have hh:=hp.hour _ (ixps_mem h1)
    rw [iflt h,gdi h,ix_nat h,x82_eq hr h1 hl,Option.bind_some,x83_eq (by omega),Option.bind_some,gdi h,x82_eq hu h1 (by simp;omega),Option.bind_some,as_all,←Int.natCast_mul,w_id (n:=((M.countP (asB ps M[i] true)*wl.length:Nat):Int)) (by omega),w_id (n:=((M.countP (asB ps M[i] true)*wl.length:Nat):Int)+1) (by omega),List.drop_eq_getElem_cons h,List.any_cons]
    by_cases hb:cP ps (ix ps M[i]).1 (ix ps M[i]).2≤M.countP (asB ps M[i] true)*wl.length
    ·rw [if_pos (decide_eq_true (by omega)),show markBad wl.length ps M M[i]=true from decide_eq_true hb,Bool.true_or,if_pos rfl]
    ·rw [if_neg (by rw [decide_eq_true_eq];omega),gdi h,gd_pos h1,w_succ i (by omega),w_id (n:=s+_) (by omega),x39_l1_eq hp hr hl hw m (i+1) _ _ rfl (by omega) (by omega) (by omega),show markBad wl.length ps M M[i]=false from decide_eq_false hb,Bool.false_or]
     unfold hoursM
     rw [List.map_cons,List.sum_cons,Int.add_assoc]
   ·obtain rfl:i=M.length:=by omega
    rw [ifge h,List.drop_length]
    show k s=k (s+0)
    rw [Int.add_zero]
theorem countP_le_one {p q:Int→Bool} {x0:Int}:∀ (M:List Int),M.Nodup→(∀ x∈M,q x=true→p x=true∨x=x0)→M.countP q≤M.countP p+1
 | [],_,_=>by simp
 | a::M,hn,h=>by
   obtain ⟨h1,h2⟩:=List.pairwise_cons.1 hn
   by_cases ha:a=x0
   ·have h3:M.countP q≤M.countP p:=List.countP_mono_left fun x hx hq=>by
     rcases h x (by simp [hx]) hq with h4 | h4
     ·exact h4
     ·exact absurd (ha.trans h4.symm) (h1 x hx)
    have h4:(a::M).countP q≤M.countP q+1:=by rw [List.countP_cons];split <;> omega
    have h5:M.countP p≤(a::M).countP p:=by rw [List.countP_cons];omega
    omega
   ·have ih:=countP_le_one M h2 fun x hx=>h x (by simp [hx])
    by_cases hq:q a=true
    ·have hp:p a=true:=by
      rcases h a (by simp) hq with h4 | h4
      ·exact h4
      ·exact absurd h4 ha
     rw [List.countP_cons_of_pos hq,List.countP_cons_of_pos hp];omega
    ·rw [List.countP_cons_of_neg hq]
     have h5:M.countP p≤(a::M).countP p:=by rw [List.countP_cons];omega
     omega
theorem countP_less {p q:Int→Bool} {x0:Int}:∀ (M:List Int),(∀ x∈M,p x=true→q x=true)→x0∈M→q x0=true→¬ p x0=true→M.countP p+1≤M.countP q
 | [],_,hm,_,_=>absurd hm (by simp)
 | a::M,h,hm,hq,hp=>by
   have hmono:M.countP p≤M.countP q:=List.countP_mono_left fun x hx=>h x (by simp [hx])
   rcases List.mem_cons.1 hm with e | hm
   ·subst e
    rw [List.countP_cons_of_pos hq,List.countP_cons_of_neg hp];omega
   ·have ih:=countP_less M (fun x hx=>h x (by simp [hx])) hm hq hp
    by_cases hpa:p a=true
    ·rw [List.countP_cons_of_pos hpa,List.countP_cons_of_pos (h a (by simp) hpa)];omega
    ·rw [List.countP_cons_of_neg hpa]
     have h5:M.countP q≤(a::M).countP q:=by rw [List.countP_cons];omega
     omega
theorem markBad_iff {n:Nat} {ps:List (Int×Int)} {M:List Int} (hn:M.Nodup):M.any (markBad n ps M)=true↔¬ Good n ps (ofM ps M):=by
 constructor
 ·intro h hg
  obtain ⟨m,hm,hb⟩:=List.any_eq_true.1 h
  have hb:=of_decide_eq_true hb
  have h1:=hg (ix ps m) (List.mem_map.2 ⟨m,hm,rfl⟩)
  rw [ofM_cnt] at h1
  have h2:=countP_less (p:=asB ps m true) (q:=fun x=>decide ((ix ps x).1=(ix ps m).1) && decide ((ix ps m).2≤(ix ps x).2)) (x0:=m) M (fun x _ hx=>by
   unfold asB at hx
   exact (Bool.and_eq_true _ _ ▸ hx).1) hm (by simp) (by simp [asB])
  have h3:M.countP (asB ps m true)*n≤(M.countP (fun x=>decide ((ix ps x).1=(ix ps m).1) && decide ((ix ps m).2≤(ix ps x).2))-1)*n:=Nat.mul_le_mul_right n (by omega)
  omega
 ·intro h
  rcases Classical.em (M.any (markBad n ps M)=true) with h0 | h0
  ·exact h0
  ·refine absurd (fun q hq=>?_) h
   obtain ⟨m,hm,rfl⟩:=List.mem_map.1 hq
   obtain ⟨he,hhe⟩:∃ he,he=(ix ps m).1:=⟨_,rfl⟩
   obtain ⟨t,ht⟩:∃ t,t=(ix ps m).2:=⟨_,rfl⟩
   show (cP (ofM ps M) (ix ps m).1 (ix ps m).2-1)*n<cP ps (ix ps m).1 (ix ps m).2
   rw [←hhe,←ht]
   obtain ⟨F,hF⟩:∃ F,F=M.filter (fun x=>decide ((ix ps x).1=he) && decide (t≤(ix ps x).2)):=⟨_,rfl⟩
   have hmF:m∈F:=by rw [hF];exact List.mem_filter.2 ⟨hm,by simp [hhe,ht]⟩
   have hFm:∀ x∈F,x∈M∧(ix ps x).1=he∧t≤(ix ps x).2:=fun x hx=>by
    rw [hF] at hx
    obtain ⟨a,b⟩:=List.mem_filter.1 hx
    simpa [a] using b
   obtain ⟨x1,hx1,hmin⟩:∃ x1∈F,∀ x∈F,(ix ps x1).2≤(ix ps x).2:=by
    have sp:=minL_spec (F.map fun x=>(ix ps x).2) (ix ps m).2
    rcases sp.2.2 with e | e
    ·exact ⟨m,hmF,fun x hx=>by rw [←e];exact sp.2.1 _ (List.mem_map.2 ⟨x,hx,rfl⟩)⟩
    ·obtain ⟨x1,h1,e⟩:=List.mem_map.1 e
     exact ⟨x1,h1,fun x hx=>by rw [e];exact sp.2.1 _ (List.mem_map.2 ⟨x,hx,rfl⟩)⟩
   obtain ⟨x0,hx0,hmin0,hmax⟩:∃ x0∈F,(ix ps x0).2=(ix ps x1).2∧∀ x∈F,(ix ps x).2=(ix ps x1).2→x≤x0:=by
    have sp:=maxL_spec (F.filter fun x=>decide ((ix ps x).2=(ix ps x1).2)) x1
    have hx:maxL x1 (F.filter fun x=>decide ((ix ps x).2=(ix ps x1).2))∈F∧(ix ps (maxL x1 (F.filter fun x=>decide ((ix ps x).2=(ix ps x1).2)))).2=(ix ps x1).2:=by
     rcases sp.2.2 with e | e
     ·rw [e];exact ⟨hx1,rfl⟩
     ·obtain ⟨a,b⟩:=List.mem_filter.1 e
      exact ⟨a,of_decide_eq_true b⟩
    exact ⟨_,hx.1,hx.2,fun x h1 h2=>sp.2.1 _ (List.mem_filter.2 ⟨h1,decide_eq_true h2⟩)⟩
   obtain ⟨hM0,hhe0,hte0⟩:=hFm x0 hx0
   have hb:¬ markBad n ps M x0=true:=fun hb=>h0 (List.any_eq_true.2 ⟨x0,hM0,hb⟩)
   have hb:¬ (cP ps (ix ps x0).1 (ix ps x0).2≤M.countP (asB ps x0 true)*n):=fun x=>hb (decide_eq_true x)
   have h2:=countP_le_one (p:=asB ps x0 true) (q:=fun x=>decide ((ix ps x).1=he) && decide (t≤(ix ps x).2)) (x0:=x0) M hn fun x hx hq=>by
    have hxF:x∈F:=by rw [hF];exact List.mem_filter.2 ⟨hx,hq⟩
    have q1:=(hFm x hxF).2
    have q2:=hmin x hxF
    rw [←hmin0] at q2
    by_cases e:x=x0
    ·exact .inr e
    ·refine .inl ?_
     unfold asB
     rw [decide_eq_true (show (ix ps x).1=(ix ps x0).1 by omega),decide_eq_true q2]
     by_cases e2:(ix ps x0).2<(ix ps x).2
     ·rw [decide_eq_true e2];rfl
     ·have:=hmax x hxF (by omega)
      rw [decide_eq_true (show x<x0 by omega)];simp
   have h3:cP ps (ix ps x0).1 (ix ps x0).2≤cP ps he t:=by rw [hhe0];exact cP_anti ps he hte0
   rw [ofM_cnt]
   have h4:(M.countP (fun x=>decide ((ix ps x).1=he) && decide (t≤(ix ps x).2))-1)*n≤M.countP (asB ps x0 true)*n:=Nat.mul_le_mul_right n (by omega)
   omega
theorem hoursM_tot (ps:List (Int×Int)) (M:List Int):hoursM ps M=tot (ofM ps M):=by
 unfold hoursM tot ofM;rw [List.map_map];rfl
open Classical in
noncomputable def mAns (n:Nat) (ps:List (Int×Int)) (M:List Int):Int×Int:=if riseGo (ps.length:Int) 0 M=true then (if Good n ps (ofM ps M) then (tot (ofM ps M),0) else (0,14)) else (0,2)
theorem rise_nodup {b:Int} {l:List Int} (h:riseGo b 0 l=true):l.Nodup:=((rise_iff _ _).1 h).2.imp fun h=>by omega
theorem x39_eq {b:Bed} (hb:bErr b=0) (hl:b.2.1.length≤20) {ps:List (Int×Int)} (hp:PsOk ps) {M:List Int} (hM:M.length≤9223372036854775807):x39 b ps M=some (mAns (wn b) ps M):=by
 have hB:=bedOk hb
 have h1:=hB.o1;have h10:=hB.o10
 have hw:=wn_pos hB
 have hpl:=hp.len
 rw [x39,x66_eB hl,Option.bind_some,eB_of hb hp,if_neg (by decide),x62_eq hM ⟨by omega,by omega⟩,Option.bind_some]
 unfold mAns
 by_cases hr:riseGo (ps.length:Int) 0 M=true
 ·have hlen:=rise_len hr (by omega)
  rw [if_pos hr,if_pos hr,x51_eq b (by omega) (by omega),Option.bind_some]
  refine (x39_l1_eq hp ((rise_iff _ _).1 hr).1 (by omega) (by unfold wn at hw;omega) FU 0 0 0 rfl (Nat.zero_le _) (FU_lt (by omega)) (by omega)).trans ?_
  rw [List.drop_zero,Int.zero_add,hoursM_tot]
  have e:=markBad_iff (n:=wn b) (ps:=ps) (rise_nodup hr)
  show (if M.any (markBad (wn b) ps M)=true then some (0,14) else some (tot (ofM ps M),0))=_
  by_cases hg:Good (wn b) ps (ofM ps M)
  ·rw [if_pos hg,if_neg (fun x=>e.1 x hg)]
  ·rw [if_neg hg,if_pos (e.2 hg)]
 ·rw [if_neg hr,if_neg hr]
theorem idxOf_mono {f:Int→Int} {T:Int}:∀ (l:List Int) (j:Nat),l.Pairwise (fun a b=>f b≤f a)→idxOf (fun y=>decide (f y<T)) l j=if (l.any fun y=>decide (f y<T))=true then (j:Int)+(l.countP fun y=>decide (T≤f y):Nat) else -1
 | [],_,_=>rfl
 | x::l,j,h=>by
   obtain ⟨h1,h2⟩:=List.pairwise_cons.1 h
   rw [idxOf]
   by_cases hx:f x<T
   ·have:(x::l).countP (fun y=>decide (T≤f y))=0:=List.countP_eq_zero.2 fun y hy=>by
     rcases List.mem_cons.1 hy with rfl | hy
     ·simpa using hx
     ·have:=h1 y hy;simp;omega
    rw [if_pos (decide_eq_true hx),this,if_pos (by simp [hx])];simp
   ·rw [if_neg (by simpa using hx),idxOf_mono l (j+1) h2,List.countP_cons_of_pos (by simp;omega),List.any_cons,decide_eq_false hx,Bool.false_or]
    split <;> simp;omega
theorem ofL_down {ps:List (Int×Int)} (hp:hrsOk ps) (h:Int):(ofL ps h).Pairwise (fun a b=>(ix ps b).2≤(ix ps a).2):=by
 have e:=down_sorted (l:=hrs ps h) fun x hx=>(hrs_in hp h x hx).1
 rw [←ofL_hrs,List.pairwise_map] at e
 exact e
theorem ofL_cnt {ps:List (Int×Int)} (h t:Int):(ofL ps h).countP (fun y=>decide (t≤(ix ps y).2))=cP ps h t:=by
 have e:(ofL ps h).countP (fun y=>decide (t≤(ix ps y).2))=((ofL ps h).map fun i=>(ix ps i).2).countP (fun x=>decide (t≤x)):=by rw [List.countP_map];rfl
 rw [e,ofL_hrs,(down_perm _).countP_eq,hrs_cnt]
def gB (n:Nat) (ps:List (Int×Int)):Nat→List Int→Bool
 | _,[]=>false
 | c,i::r=>decide (cP ps (ix ps i).1 (ix ps i).2≤c*n) || gB n ps (c+1) r
def inM (M:List Int) (l:List Int):List Int:=l.filter fun x=>decide (x∈M)
theorem x79_l1_eq {s:List Int} {v:Int} (hs:s.length≤140737488355328) {k:Unit→Option Int}:∀ (m i:Nat) (z:Int),z=i→i≤s.length→s.length-i<m→x104_l1 s v k m z=if v∈s.drop i then some (idxOf (fun y=>decide (v=y)) (s.drop i) i) else k ()
 | 0,i,_,_,_,h=>absurd h (by omega)
 | m+1,i,_,rfl,hi,hm=>by
   rw [x104_l1]
   by_cases h:i<s.length
   ·rw [iflt h,gdi h,ix_nat h,List.drop_eq_getElem_cons h,idxOf]
    by_cases hv:v=s[i]
    ·rw [if_pos (decide_eq_true hv),if_pos (List.mem_cons.2 (.inl hv)),if_pos (decide_eq_true hv)]
    ·rw [if_neg (by simpa using hv),w_succ i (by omega),x79_l1_eq hs m (i+1) _ rfl (by omega) (by omega),if_neg (c:=decide (v=s[i])=true) (by simpa using hv)]
     by_cases h2:v∈s.drop (i+1)
     ·rw [if_pos h2,if_pos (List.mem_cons.2 (.inr h2))]
     ·rw [if_neg h2,if_neg fun x=>(List.mem_cons.1 x).elim hv h2]
   ·obtain rfl:i=s.length:=by omega
    rw [ifge h,List.drop_length,if_neg (by simp)]
theorem x79_eq {s:List Int} {v:Int} (hs:s.length≤1000):x79 s v=some (decide (v∈s)):=by
 have e:=x79_l1_eq (v:=v) (s:=s) (by omega) (k:=fun _=>some (-1:Int)) FU 0 0 rfl (Nat.zero_le _) (FU_lt (by omega))
 rw [List.drop_zero] at e
 rw [x79,x104]
 by_cases h:v∈s
 ·rw [if_pos h] at e
  rw [show x104_l1 s v (fun _=>some (-1:Int)) FU 0=_ from e,Option.bind_some]
  have:=(idxOf_nonneg (fun y=>decide (v=y)) s 0).2 (List.any_eq_true.2 ⟨v,h,decide_eq_true rfl⟩)
  rw [decide_eq_true this,decide_eq_true h]
 ·rw [if_neg h] at e
  rw [show x104_l1 s v (fun _=>some (-1:Int)) FU 0=_ from e,Option.bind_some,decide_eq_false h];rfl
theorem x38_l3_eq {ps:List (Int×Int)} (hp:PsOk ps) {M:List Int} (hM:M.length≤1000) {p1:Bench} {n:Nat} (hn:p1.2.2.1.length=n) (hn10:n≤10) {h:Int} {k:Int→Option (Int×Int)}:∀ (m i:Nat) (z s:Int) (c:Nat),z=i→i≤(ofL ps h).length→(ofL ps h).length-i<m→0≤s∧s≤1000000+24*i→c≤i→x38_l3 ps M p1 (ofL ps h) k m s (c:Int) z=if gB n ps c (inM M ((ofL ps h).drop i))=true then some (0,14) else k (s+hoursM ps (inM M ((ofL ps h).drop i)))
 | 0,i,_,_,_,_,_,h,_,_=>absurd h (by omega)
 | m+1,i,_,s,c,rfl,hi,hm,hs,hc=>by
   have hpl:=hp.len
   have hol:(ofL ps h).length≤ps.length:=by rw [ofL_len];exact idxs_len ps _
   have hmem:∀ x∈ofL ps h,(0≤x∧x<(ps.length:Int))∧(ix ps x).1=h:=fun x hx=>ofL_mem.1 hx
   have hdn:=ofL_down hp.hrs h
   have hcnt:=fun t=>ofL_cnt (ps:=ps) h t
   obtain ⟨l,hl⟩:∃ l,ofL ps h=l:=⟨_,rfl⟩
   rw [hl] at hol hmem hdn hcnt hi hm
   rw [hl,x38_l3]
   by_cases hlt:i<l.length
   ·have h1:=hmem _ (List.getElem_mem hlt)
    have hh:=hp.hour _ (ixps_mem h1.1)
    have hcn:c*n≤12*10:=Nat.mul_le_mul (by omega) hn10
    have ec:w ((c:Int)*(p1.2.2.1.length:Int))=((c*n:Nat):Int):=by rw [hn,←Int.natCast_mul,w_id (by omega)]
    rw [iflt hlt,gdi hlt,ix_nat hlt,x79_eq hM,Option.bind_some,List.drop_eq_getElem_cons hlt,w_succ i (by omega)]
    have eF:inM M (l[i]::l.drop (i+1))=if l[i]∈M then l[i]::inM M (l.drop (i+1)) else inM M (l.drop (i+1)):=by
     unfold inM;rw [List.filter_cons];simp only [decide_eq_true_eq]
    rw [eF]
    by_cases hin:l[i]∈M
    ·rw [if_pos (decide_eq_true hin),if_pos hin]
     have e80:x80 l (fun y0=>x81 y0 ps l[i])=some (idxOf (fun y=>decide ((ix ps y).2<(ix ps l[i]).2)) l 0):=x80_eq (fun x hx=>by
      rw [x81,gd_pos (hmem x hx).1,gd_pos h1.1]) (by omega)
     rw [e80,Option.bind_some,idxOf_mono (f:=fun y=>(ix ps y).2) l 0 hdn,hcnt]
     have ej:∀ j1:Int,j1=(cP ps h (ix ps l[i]).2:Nat)→∀ K:Unit→Option (Int×Int),x38_j4 ps p1 l (c:Int) (i:Int) K j1=if cP ps h (ix ps l[i]).2≤c*n then some (0,14) else K ():=fun j1 hj K=>by
      rw [x38_j4,ec,hj,ix_nat hlt,gd_pos h1.1]
      by_cases hb:cP ps h (ix ps l[i]).2≤c*n
      ·rw [if_pos hb,if_pos (decide_eq_true (by omega))]
      ·rw [if_neg hb,if_neg (by rw [decide_eq_true_eq];omega)]
     have ih:=x38_l3_eq hp hM hn hn10 (h:=h) (k:=k) m (i+1) _ (s+(ix ps l[i]).2) (c+1) rfl (by rw [hl];omega) (by rw [hl];omega) (by omega) (by omega)
     rw [hl] at ih
     have fin:(if cP ps h (ix ps l[i]).2≤c*n then some (0,14) else x38_l3 ps M p1 l k m (w (s+(ix ps l[i]).2)) (w ((c:Int)+1)) ((i+1:Nat):Int))=if gB n ps c (l[i]::inM M (l.drop (i+1)))=true then some (0,14) else k (s+hoursM ps (l[i]::inM M (l.drop (i+1)))):=by
      rw [w_id (n:=s+_) (by omega),w_succ c (by omega),ih,gB,h1.2]
      by_cases hb:cP ps h (ix ps l[i]).2≤c*n
      ·rw [if_pos hb,decide_eq_true hb,Bool.true_or,if_pos rfl]
      ·rw [if_neg hb,decide_eq_false hb,Bool.false_or]
       unfold hoursM
       rw [List.map_cons,List.sum_cons,Int.add_assoc]
     by_cases ha:(l.any fun y=>decide ((ix ps y).2<(ix ps l[i]).2))=true
     ·rw [if_pos ha,if_neg (by rw [decide_eq_true_eq];omega),ej _ (by simp)]
      exact fin
     ·have eall:l.countP (fun y=>decide ((ix ps l[i]).2≤(ix ps y).2))=l.length:=List.countP_eq_length.2 fun y hy=>by
       rcases Classical.em ((ix ps y).2<(ix ps l[i]).2) with hx | hx
       ·exact absurd (List.any_eq_true.2 ⟨y,hy,decide_eq_true hx⟩) ha
       ·simp;omega
      rw [hcnt] at eall
      rw [if_neg ha,if_pos (by decide),ej _ (by omega)]
      exact fin
    ·rw [if_neg (by simpa using hin),if_neg hin]
     have ih:=x38_l3_eq hp hM hn hn10 (h:=h) (k:=k) m (i+1) _ s c rfl (by rw [hl];omega) (by rw [hl];omega) (by omega) (by omega)
     rw [hl] at ih
     exact ih
   ·obtain rfl:i=l.length:=by omega
    rw [ifge hlt,List.drop_length]
    show k s=if false=true then _ else k (s+0)
    rw [Int.add_zero];rfl
theorem x38_l2_eq {ps:List (Int×Int)} (hp:PsOk ps) {M:List Int} (hM:M.length≤1000) {p1:Bench} (hp1:p1.2.1=ps) {n:Nat} (hn:p1.2.2.1.length=n) (hn10:n≤10) {k:Int→Option (Int×Int)}:∀ (m i:Nat) (z:Int),z=i→i≤21→21-i<m →
  (x38_l2 ps M p1 k m (sumR i fun h=>hoursM ps (inM M (ofL ps (h:Int)))) z=k (sumR 21 fun h=>hoursM ps (inM M (ofL ps (h:Int))))∧∀ h:Nat,i≤h→h<21→gB n ps 0 (inM M (ofL ps (h:Int)))=false) ∨
  (x38_l2 ps M p1 k m (sumR i fun h=>hoursM ps (inM M (ofL ps (h:Int)))) z=some (0,14)∧∃ h:Nat,h<21∧gB n ps 0 (inM M (ofL ps (h:Int)))=true)
 | 0,i,_,_,_,h=>absurd h (by omega)
 | m+1,i,_,rfl,hi,hm=>by
   have hpl:=hp.len
   have hb:∀ h:Nat,0≤hoursM ps (inM M (ofL ps (h:Int)))∧hoursM ps (inM M (ofL ps (h:Int)))≤1000:=fun h=>by
    have h1:(inM M (ofL ps (h:Int))).length≤(ofL ps (h:Int)).length:=List.length_filter_le _ _
    have h2:(ofL ps (h:Int)).length≤ps.length:=by rw [ofL_len];exact idxs_len ps _
    have:=sum_le (f:=fun x=>(ix ps x).2) (M:=24) (inM M (ofL ps (h:Int))) fun x hx=>by
     have h3:=(ofL_mem.1 (List.mem_filter.1 hx).1).1
     have:=hp.hour _ (ixps_mem h3)
     exact ⟨by omega,this.2⟩
    unfold hoursM
    omega
   rw [x38_l2]
   by_cases h:i<21
   ·have hs:=sumR_bd (f:=fun h=>hoursM ps (inM M (ofL ps (h:Int)))) (M:=1000) i fun h _=>hb h
    have hbi:=hb i
    have e76:x76 p1 (i:Int)=some (ofL ps (i:Int)):=by rw [x76,hp1,if_pos (by omega)]
    have hol:(ofL ps (i:Int)).length≤ps.length:=by rw [ofL_len];exact idxs_len ps _
    have e3:=x38_l3_eq hp hM hn hn10 (h:=(i:Int)) (k:=fun z1=>x38_l2 ps M p1 k m z1 (w ((i:Int)+1))) FU 0 0 (sumR i fun h=>hoursM ps (inM M (ofL ps (h:Int)))) 0 rfl (Nat.zero_le _) (FU_lt (by omega)) (by omega) (Nat.le_refl _)
    rw [List.drop_zero,w_succ i (by omega),←sumR_succ] at e3
    rw [if_pos (decide_eq_true (by omega)),e76,Option.bind_some,w_succ i (by omega)]
    show (x38_l3 ps M p1 (ofL ps (i:Int)) _ FU _ ((0:Nat):Int) 0=_∧_)∨(x38_l3 ps M p1 (ofL ps (i:Int)) _ FU _ ((0:Nat):Int) 0=_∧_)
    rw [e3]
    by_cases hg:gB n ps 0 (inM M (ofL ps (i:Int)))=true
    ·rw [if_pos hg]
     exact .inr ⟨rfl,i,h,hg⟩
    ·rw [if_neg hg]
     rcases x38_l2_eq hp hM hp1 hn hn10 (k:=k) m (i+1) _ rfl (by omega) (by omega) with ⟨e,g⟩ | ⟨e,g⟩
     ·refine .inl ⟨e,fun h' h1 h2=>?_⟩
      by_cases e:h'=i
      ·rw [e];simpa using hg
      ·exact g h' (by omega) h2
     ·exact .inr ⟨e,g⟩
   ·obtain rfl:i=21:=by omega
    rw [if_neg (by decide)]
    exact .inl ⟨rfl,fun h' h1 h2=>by omega⟩
theorem gB_iff {n:Nat} {ps:List (Int×Int)}:∀ (f:List Int) (c:Nat),gB n ps c f=true↔∃ (p:Nat) (hp:p<f.length),cP ps (ix ps f[p]).1 (ix ps f[p]).2≤(c+p)*n
 | [],c=>⟨fun h=>(by cases h),fun ⟨p,hp,_⟩=>absurd hp (by simp)⟩
 | i::r,c=>by
   rw [gB,Bool.or_eq_true,decide_eq_true_eq,gB_iff r (c+1)]
   constructor
   ·rintro (h | ⟨p,hp,h⟩)
    ·exact ⟨0,by simp,by simpa using h⟩
    ·exact ⟨p+1,by simpa using hp,by rw [List.getElem_cons_succ,show c+(p+1)=c+1+p by omega];exact h⟩
   ·rintro ⟨p,hp,h⟩
    cases p with
    | zero=>exact .inl (by simpa using h)
    | succ p=>exact .inr ⟨p,by simpa using hp,by rw [List.getElem_cons_succ,show c+(p+1)=c+1+p by omega] at h;exact h⟩
theorem inM_perm {ps:List (Int×Int)} {M:List Int} (hn:M.Nodup) (hr:∀ x∈M,0≤x∧x<(ps.length:Int)) (h:Int):(inM M (ofL ps h)).Perm (M.filter fun x=>decide ((ix ps x).1=h)):=by
 refine (List.perm_ext_iff_of_nodup ((ofL_nodup ps h).filter _) (hn.filter _)).2 fun x=>?_
 rw [List.mem_filter,List.mem_filter,ofL_mem,decide_eq_true_eq,decide_eq_true_eq]
 exact ⟨fun ⟨⟨_,a⟩,b⟩=>⟨b,a⟩,fun ⟨a,b⟩=>⟨⟨hr x a,b⟩,a⟩⟩
theorem inM_cnt {ps:List (Int×Int)} {M:List Int} (hn:M.Nodup) (hr:∀ x∈M,0≤x∧x<(ps.length:Int)) (h t:Int):((inM M (ofL ps h)).map fun x=>(ix ps x).2).countP (fun x=>decide (t≤x))=cP (ofM ps M) h t:=by
 rw [List.countP_map,(inM_perm hn hr h).countP_eq,List.countP_filter,ofM_cnt]
 exact List.countP_congr fun x _=>by simp [and_comm]
theorem gB_good {n:Nat} {ps:List (Int×Int)} (hp:PsOk ps) {M:List Int} (hn:M.Nodup) (hr:∀ x∈M,0≤x∧x<(ps.length:Int)):(∃ h:Nat,h<21∧gB n ps 0 (inM M (ofL ps (h:Int)))=true)↔¬ Good n ps (ofM ps M):=by
 have hs:∀ h:Int,((inM M (ofL ps h)).map fun x=>(ix ps x).2).Pairwise (fun a b=>b≤a):=fun h=>by
  rw [List.pairwise_map];exact (ofL_down hp.hrs h).filter _
 have hx:∀ h:Int,∀ x∈inM M (ofL ps h),x∈M∧(ix ps x).1=h:=fun h x hx=>by
  obtain ⟨a,b⟩:=List.mem_filter.1 hx
  exact ⟨of_decide_eq_true b,(ofL_mem.1 a).2⟩
 constructor
 ·rintro ⟨h,_,hg⟩ hG
  obtain ⟨p,hp',hb⟩:=(gB_iff _ 0).1 hg
  have hm:=hx _ _ (List.getElem_mem hp')
  obtain ⟨x,hxe⟩:∃ x,(inM M (ofL ps (h:Int)))[p]=x:=⟨_,rfl⟩
  rw [hxe] at hb hm
  have h1:=hG (ix ps x) (List.mem_map.2 ⟨x,hm.1,rfl⟩)
  have h2:=(sorted_ge (ix ps x).2 _ (hs (h:Int)) p (by rw [List.length_map];exact hp')).1 (by rw [List.getElem_map,hxe];exact Int.le_refl _)
  rw [inM_cnt hn hr,←hm.2] at h2
  rw [Nat.zero_add] at hb
  have h3:p*n≤(cP (ofM ps M) (ix ps x).1 (ix ps x).2-1)*n:=Nat.mul_le_mul_right n (by omega)
  omega
 ·intro hG
  rcases Classical.em (∃ h:Nat,h<21∧gB n ps 0 (inM M (ofL ps (h:Int)))=true) with h0 | h0
  ·exact h0
  ·refine absurd (fun q hq=>?_) hG
   obtain ⟨m,hm,rfl⟩:=List.mem_map.1 hq
   have hh:=hp.heat _ (ixps_mem (hr m hm))
   obtain ⟨h,hhe⟩:∃ h:Nat,(ix ps m).1=(h:Int):=⟨(ix ps m).1.toNat,by omega⟩
   have hpos:=cP_pos (qs:=ofM ps M) (List.mem_map.2 ⟨m,hm,rfl⟩)
   show (cP (ofM ps M) (ix ps m).1 (ix ps m).2-1)*n<cP ps (ix ps m).1 (ix ps m).2
   have hpos:0<cP (ofM ps M) (ix ps m).1 (ix ps m).2:=hpos
   rw [hhe] at hpos ⊢
   obtain ⟨C,hC⟩:∃ C,C=cP (ofM ps M) (h:Int) (ix ps m).2:=⟨_,rfl⟩
   rw [←hC] at hpos ⊢
   have hcl:C≤(inM M (ofL ps (h:Int))).length:=by
    rw [hC,←inM_cnt hn hr]
    have:=List.countP_le_length (l:=(inM M (ofL ps (h:Int))).map fun x=>(ix ps x).2) (p:=fun x=>decide ((ix ps m).2≤x))
    rwa [List.length_map] at this
   have hlt:C-1<(inM M (ofL ps (h:Int))).length:=by omega
   have h2:=(sorted_ge (ix ps m).2 _ (hs (h:Int)) (C-1) (by rw [List.length_map];exact hlt)).2 (by rw [inM_cnt hn hr];omega)
   rw [List.getElem_map] at h2
   have hy:=hx _ _ (List.getElem_mem hlt)
   rcases Nat.lt_or_ge ((C-1)*n) (cP ps (h:Int) (ix ps m).2) with h3 | h3
   ·exact h3
   ·refine absurd ⟨h,by omega,(gB_iff _ 0).2 ⟨C-1,hlt,?_⟩⟩ h0
    rw [hy.2,Nat.zero_add]
    have:=cP_anti ps (h:Int) h2
    omega
theorem inM_tot {ps:List (Int×Int)} (hp:PsOk ps) {M:List Int} (hn:M.Nodup) (hr:∀ x∈M,0≤x∧x<(ps.length:Int)):sumR 21 (fun h=>hoursM ps (inM M (ofL ps (h:Int))))=tot (ofM ps M):=by
 have hq:∀ q∈ofM ps M,0≤q.1∧q.1≤20:=fun q hq=>by
  obtain ⟨m,hm,rfl⟩:=List.mem_map.1 hq
  exact hp.heat _ (ixps_mem (hr m hm))
 have e:=sum_hrs (ofM ps M) (fun q h=>(hq q h).1) 21
 rw [List.filter_eq_self.2 fun q h=>by have:=hq q h;simp;omega] at e
 rw [←e]
 refine sumR_congr fun h _=>?_
 have e1:hrs (ofM ps M) (h:Int)=(M.filter fun x=>decide ((ix ps x).1=(h:Int))).map fun x=>(ix ps x).2:=by
  unfold hrs ofM
  rw [List.filter_map,List.map_map];rfl
 rw [e1]
 unfold hoursM
 exact perm_sum ((inM_perm hn hr (h:Int)).map _)
theorem x38_eq {b:Bed} (hb:bErr b=0) (hl:b.2.1.length≤20) {ps:List (Int×Int)} (hp:PsOk ps) {M:List Int} (hM:M.length≤9223372036854775807):x38 b ps M=some (mAns (wn b) ps M):=by
 have hB:=bedOk hb
 have hw:=wn_pos hB
 have hpl:=hp.len
 rw [x38,x69_eq hb hl hp,Option.bind_some]
 show (if (decide ((0:Int)≠(0:Int)))=true then _ else _)=_
 rw [if_neg (by decide),x61_eq hM ⟨by omega,by omega⟩,Option.bind_some]
 unfold mAns
 by_cases hr:riseGo (ps.length:Int) 0 M=true
 ·have hlen:=rise_len hr (by omega)
  have hrn:=((rise_iff _ _).1 hr).1
  have hnd:=rise_nodup hr
  rw [if_pos hr,if_pos hr]
  have e:=gB_good (n:=wn b) hp hnd hrn
  rcases x38_l2_eq hp (M:=M) (by omega) (p1:=(b,ps,wholeL b.1.toNat b.2.1,wantL ps)) rfl (n:=wn b) rfl hw.2 (k:=fun z2=>some (z2,(0:Int))) FU 0 0 rfl (Nat.zero_le _) (FU_lt (by omega)) with ⟨e1,g⟩ | ⟨e1,g⟩
  ·refine e1.trans ?_
   rw [inM_tot hp hnd hrn]
   by_cases hg:Good (wn b) ps (ofM ps M)
   ·rw [if_pos hg]
   ·obtain ⟨h,h1,h2⟩:=e.2 hg
    rw [g h (Nat.zero_le _) h1] at h2;cases h2
  ·refine e1.trans ?_
   rw [if_neg (e.1 g)]
 ·rw [if_neg hr,if_neg hr]
theorem x38_err {b:Bed} (hl:b.2.1.length≤20) {ps:List (Int×Int)} (he:eB b ps≠0) (M:List Int):x38 b ps M=some (0,eB b ps):=by
 rw [x38,x69_err (by omega) he,Option.bind_some]
 exact if_pos (decide_eq_true he)
theorem x39_err {b:Bed} (hl:b.2.1.length≤20) {ps:List (Int×Int)} (he:eB b ps≠0) (M:List Int):x39 b ps M=some (0,eB b ps):=by
 rw [x39,x66_eB hl,Option.bind_some,if_pos (decide_eq_true he),Option.bind_some]

noncomputable def rm44_R:RC :=
 .rng (.sl 36) [37] (rngA Tryz.prog 44 0) (rngB Tryz.prog 44 0)
noncomputable def rm44_1:RC :=
 .seq (.reg true [I_ 28 [.sl 6] .mv,I_ 29 [.tk 10] .mv,I_ 30 [.cv (.func 76 [] []),.sl 28,.sl 29] (.call 3),I_ 31 [.sl 6] .mv,I_ 32 [.tv 31] .nilc,I_ 33 [.tv 32] (.fa 5),I_ 34 [.tv 33] (.ld .one),I_ 35 [.tk 34] .lenS,I_
 36 [.cv (.func 75 [] []),.sl 30,.sl 35] (.call 3)]) (.block 2 rm44_R)
noncomputable def rm44_2:RC :=
 .block 1 (.seq (.reg false [I_ 26 [.sl 22,.sl 24] (.ia 1),I_ 27 [.tv 26] (.ld .one),I_ 10 [.tk 27] .mv]) rm44_1)
noncomputable def rm44_3:RC :=
 .seq (.reg false [I_ 45 [.sl 8] .takeT,I_ 46 [.cv (.func 84 [] []),.tk 45] (.call 1)]) (.seq (.reg false [I_ 47 [.tv 8] (.ld .one),I_ 4 [.tk 47] .mv,I_ 5 [.cv (.int .i64 0)] .mv]) .ret)
noncomputable def rm44_L:RC :=
 .loop (some [false,false,false,false,false,false,true,false,true,
 false,false,false,false,false,false,false,false,false,false,false,false,false,true,true,true,false,false,false,false,false,false,false,false,false,false,false,false,false,false,false,false,false,
 false,false,false,false,false,false]) (.seq (.reg false [I_ 25 [.sl 24,.sl 23] (.bin .lss)]) (.seq (.cond (.sl 25) .skip (.exit 0)) (.seq rm44_2 (.reg false [I_ 44 [.tv 24,.cv (.int .i64 1)] (.bin .add),I_ 24 [.tk 44]
 .mv]))))
noncomputable def rm44_4:RC :=
 .seq (.seq (.reg false [I_ 21 [.sl 6] .mv,I_ 22 [.cv (.func 74 [] []),.sl 21] (.call 3),I_ 23 [.sl 22] .lenS,I_ 24 [.cv (.int .i64 0)] .mv]) (.block 0 rm44_L)) rm44_3
noncomputable def rm44_5:RC :=
 .seq (.seq (.reg false [I_ 18 [.sl 7] .mv,I_ 19 [.tv 18,.cv (.int .i64 0)] (.bin .neq)]) (.cond (.sl 19) (.seq (.reg false [I_ 20 [.tk 7] .mv,I_ 4 [.cv (.lst [] 0 .full)] (.nil 1),I_ 5 [.tk 20] .mv]) .ret) .skip)) (.seq (.reg
 false [I_ 8 [] (.alloc [.lst [] 0 .full])]) rm44_4)
noncomputable def rm44_6:RC :=
 .seq (.reg false [I_ 13 [.tv 2] (.ld (.str 4)),I_ 14 [.tk 1] .mv,I_ 15 [.cv (.func 69 [] []),.sl 13,.sl 14] (.call 3),I_ 12 [.tk 15] .mv,I_ 16 [.sl 12] (.ext 0),I_ 17 [.tv 12] (.ext 1),I_ 6 [.tk 16] .mv,I_ 7 [.tk 17]
 .mv]) rm44_5
noncomputable def rm44:RC :=
 .seq (.reg false [I_ 2 [.tk 0] .box,I_ 4 [.cv (.lst [] 0 .full)] (.nil 1),I_ 5 [.cv (.int .i64 0)] .mv]) rm44_6
theorem lm44:linkF Tryz.prog ann44 44=some (rm44,48,[.tmp 4,.tmp 5]):=by kernel_rfl
noncomputable def rmA44:RC :=
 .reg false [I_ 11 [.tk 37] .mv]
theorem lmA44:linkC Tryz.prog ann44 (rngA Tryz.prog 44 0) 0=some rmA44:=by kernel_rfl
noncomputable def rmB44:RC :=
 .block 3 (.reg true [I_ 38 [.sl 8] .take,I_ 39 [.tk 11] .mv,I_ 40 [.tv 39,.cv (.int .i64 0)] (.ia 1),I_ 41 [.tv 40] (.ld .one),I_ 42 [.tv 41] (.buildS 1 1 [.int .i64 0] [0]),I_ 43 [.tk 38,.tk 42] (.app 1 8),⟨none,[.sl 8,.tk 43],none,none,.stR⟩])
theorem lmB44:linkC Tryz.prog ann44 (rngB Tryz.prog 44 0) 0=some rmB44:=by kernel_rfl
theorem m44_r {o1:AObj} {Yr:List AObj} {l e:List Int} {u0:AV} {u1:AV} {u2:AV} {u3:AV} {u4:AV} {u5:AV} {u6:AV} {u7:AV} {u9:AV} {u10:AV} {u11:AV} {u12:AV} {u13:AV} {u14:AV} {u15:AV} {u16:AV} {u17:AV} {u18:AV} {u19:AV} {u20:AV} {u21:AV} {u22:AV} {u23:AV} {u24:AV} {u25:AV} {u26:AV} {u27:AV} {u28:AV} {u29:AV} {u30:AV} {u31:AV} {u32:AV} {u33:AV} {u34:AV} {u35:AV} {u36:AV} {u37:AV} {u38:AV} {u39:AV} {u40:AV} {u41:AV} {u42:AV} {u43:AV} {u44:AV} {u45:AV} {u46:AV} {u47:AV} (hl:l.length≤1000) (he:0<e.length) (Y:List AObj) :
  ∃ Y',Sem Tryz.prog (.yield (o1::AObj.cells [rawL l]::Yr).length) [(.lst (e.map I) e.length .full)] (((o1::AObj.cells [rawL l]::Yr)++[AObj.loop .ready none 44 [u0,u1,u2,u3,u4,u5,u6,u7,(.ptr 1 0),u9,u10,u11,u12,u13,u14,u15,u16,u17,u18,u19,u20,u21,u22,u23,u24,u25,u26,u27,u28,u29,u30,u31,u32,u33,u34,u35,u36,u37,u38,u39,u40,u41,u42,u43,u44,u45,u46,u47] [37] (rngA Tryz.prog 44 0) (rngB Tryz.prog 44 0) ann44])++Y) 0 (.bool true) (((o1::AObj.cells [rawL (l++[ix e 0])]::Yr)++[AObj.loop .ready none 44 [u0,u1,u2,u3,u4,u5,u6,u7,(.ptr 1 0),u9,u10,u11,u12,u13,u14,u15,u16,u17,u18,u19,u20,u21,u22,u23,u24,u25,u26,u27,u28,u29,u30,u31,u32,u33,u34,u35,u36,u37,u38,u39,u40,u41,u42,u43,u44,u45,u46,u47] [37] (rngA Tryz.prog 44 0) (rngB Tryz.prog 44 0) ann44])++Y'):=by
 have he':0≤(0:Int)∧(0:Int)<(e.length:Int):=by omega
 refine ⟨Y,sem_round hmix lmA44 lmB44 (get_mid _ _ _) rfl (low0 (by simp)) ?_⟩
 unfold rmA44
 conv=>whnf
 refine ⟨rfl,get_mid _ _ _,?_⟩
 rw [set_mid]
 unfold rmB44
 cases l with
 | nil =>
   conv=>whnf
   refine ⟨he',?_⟩
   rw [drop1 I e 0 he']
   conv=>whnf
   refine ⟨rfl,by omega,?_⟩
   conv=>whnf
   refine ⟨by decide,by decide,rfl,?_⟩
   conv=>whnf
   refine ⟨rfl,by decide,updK_of (by decide) ?_⟩
   conv=>whnf
   show _∧((((o1::AObj.cells [rawL ([]++[ix e 0])]::Yr))++[AObj.loop .busy none 44 [u0,u1,u2,u3,u4,u5,u6,u7,(.ptr 1 0),u9,u10,u11,u12,u13,u14,u15,u16,u17,u18,u19,u20,u21,u22,u23,u24,u25,u26,u27,u28,u29,u30,u31,u32,u33,u34,u35,u36,u37,u38,u39,u40,u41,u42,u43,u44,u45,u46,u47] [37] (rngA Tryz.prog 44 0) (rngB Tryz.prog 44 0) ann44])++Y)[((o1::AObj.cells [rawL ([]++[ix e 0])]::Yr)).length]?=_∧Fgt (((((o1::AObj.cells [rawL ([]++[ix e 0])]::Yr))++[AObj.loop .busy none 44 [u0,u1,u2,u3,u4,u5,u6,u7,(.ptr 1 0),u9,u10,u11,u12,u13,u14,u15,u16,u17,u18,u19,u20,u21,u22,u23,u24,u25,u26,u27,u28,u29,u30,u31,u32,u33,u34,u35,u36,u37,u38,u39,u40,u41,u42,u43,u44,u45,u46,u47] [37] (rngA Tryz.prog 44 0) (rngB Tryz.prog 44 0) ann44])++Y).set ((o1::AObj.cells [rawL ([]++[ix e 0])]::Yr)).length _) _
   exact ⟨rfl,get_mid _ _ _,by rw [set_mid];exact Fgt.refl _⟩
 | cons a l =>
   conv=>whnf
   refine ⟨he',?_⟩
   rw [drop1 I e 0 he']
   conv=>whnf
   refine ⟨rfl,by omega,?_⟩
   conv=>whnf
   refine ⟨rfl,by simp only [List.length_cons] at hl ⊢;omega,?_⟩
   conv=>whnf
   refine ⟨?_,Nat.succ_ne_zero _,updK_of (by simp) ?_⟩
   ·show ((a::l).map I++[I (ix e 0)]).all scal0=true
    rw [←List.map_singleton (f:=I),←List.map_append];exact List.all_eq_true.2 fun x hx=>by obtain ⟨y,_,rfl⟩:=List.mem_map.1 hx;rfl
   conv=>whnf
   have e1:AV.raw ((a::l).map I++[I (ix e 0)]) ((a::l).length+1) 1=rawL ((a::l)++[ix e 0]):=by
    show _=AV.raw (((a::l)++[ix e 0]).map I) ((a::l)++[ix e 0]).length 1
    rw [List.map_append,List.length_append];rfl
   show _∧((((o1::AObj.cells [AV.raw ((a::l).map I++[I (ix e 0)]) ((a::l).length+1) 1]::Yr))++[AObj.loop .busy none 44 [u0,u1,u2,u3,u4,u5,u6,u7,(.ptr 1 0),u9,u10,u11,u12,u13,u14,u15,u16,u17,u18,u19,u20,u21,u22,u23,u24,u25,u26,u27,u28,u29,u30,u31,u32,u33,u34,u35,u36,u37,u38,u39,u40,u41,u42,u43,u44,u45,u46,u47] [37] (rngA Tryz.prog 44 0) (rngB Tryz.prog 44 0) ann44])++Y)[((o1::AObj.cells [AV.raw ((a::l).map I++[I (ix e 0)]) ((a::l).length+1) 1]::Yr)).length]?=_∧Fgt (((((o1::AObj.cells [AV.raw ((a::l).map I++[I (ix e 0)]) ((a::l).length+1) 1]::Yr))++[AObj.loop .busy none 44 [u0,u1,u2,u3,u4,u5,u6,u7,(.ptr 1 0),u9,u10,u11,u12,u13,u14,u15,u16,u17,u18,u19,u20,u21,u22,u23,u24,u25,u26,u27,u28,u29,u30,u31,u32,u33,u34,u35,u36,u37,u38,u39,u40,u41,u42,u43,u44,u45,u46,u47] [37] (rngA Tryz.prog 44 0) (rngB Tryz.prog 44 0) ann44])++Y).set ((o1::AObj.cells [AV.raw ((a::l).map I++[I (ix e 0)]) ((a::l).length+1) 1]::Yr)).length _) _
   rw [e1]
   exact ⟨rfl,get_mid _ _ _,by rw [set_mid];exact Fgt.refl _⟩
def x44_r (t:List Int) (e:List Int):Option (List Int):=if 0<e.length∧t.length≤1000 then some (t++[ix e 0]) else none
def x44_h (p1:Bench) (t:List Int) (heat:Int):Option (List Int) :=
 (x76 p1 heat).bind fun r3=>(x75 r3 (p1.2.2.1.length:Int)).bind fun _=>(s98 r3 (p1.2.2.1.length:Int)).bind fun l1=>foldO x44_r l1 t
theorem m44_l {p1:Bench} {r2 tf:List Int} {o1:AObj} {Q:Ex→List AV→List AObj→Prop} (hr2:r2.length≤1000) (hf:foldO (x44_h p1) r2 []=some tf)
  (hk:∀ (u0 u1 u2 u3 u4 u5 u6 u7 u10 u11 u12 u13 u14 u15 u16 u17 u18 u19 u20 u21 u22 u23 u24 u25 u26 u27 u28 u29 u30 u31 u32 u33 u34 u35 u36 u37 u38 u39 u40 u41 u42 u43 u44 u45 u46 u47:AV) (Y:List AObj),Q (.exit 0) [u0,u1,u2,u3,u4,u5,u6,u7,(.ptr 1 0),J,u10,u11,u12,u13,u14,u15,u16,u17,u18,u19,u20,u21,u22,u23,u24,u25,u26,u27,u28,u29,u30,u31,u32,u33,u34,u35,u36,u37,u38,u39,u40,u41,u42,u43,u44,u45,u46,u47] (o1::AObj.cells [rawL tf]::Y))
  {T:List AV} (hT:zipKeep [false,false,false,false,false,false,true,false,true,  false,false,false,false,false,false,false,false,false,false,false,false,false,true,true,true,false,false,false,false,false,false,false,false,false,false,false,false,false,false,false,false,false,  false,false,false,false,false,false] T=slots 48 [(6,(.lptr ((I p1.1.1)::(.lst (p1.1.2.1.map I) p1.1.2.1.length .shared)::(I p1.1.2.2.1)::(I p1.1.2.2.2)::(.lst (p1.2.1.flatMap pr) p1.2.1.length .shared)::(.lst (p1.2.2.1.map I) p1.2.2.1.length .shared)::(p1.2.2.2.map I)))),(8,(.ptr 1 0)),(22,(.lst (r2.map I) r2.length .shared)),(23,(I (r2.length:Int))),(24,(I 0))]) :
  wpR Tryz.prog ann44 44 0 none rm44_L T [o1,AObj.cells [rawL []]] Q:=by
 unfold rm44_L
 refine wp_loop hT ?_
 refine .intro (fun m T H=>∃ (j:Nat) (t:List Int) (Y:List AObj),j≤r2.length∧m=r2.length-j∧T=slots 48 [(6,(.lptr ((I p1.1.1)::(.lst (p1.1.2.1.map I) p1.1.2.1.length .shared)::(I p1.1.2.2.1)::(I p1.1.2.2.2)::(.lst (p1.2.1.flatMap pr) p1.2.1.length .shared)::(.lst (p1.2.2.1.map I) p1.2.2.1.length .shared)::(p1.2.2.2.map I)))),(8,(.ptr 1 0)),(22,(.lst (r2.map I) r2.length .shared)),(23,(I (r2.length:Int))),(24,(I (j:Int)))]∧H=(o1::AObj.cells [rawL t]::Y)∧foldO (x44_h p1) (r2.drop j) t=some tf) r2.length ⟨0,[],[],Nat.zero_le _,rfl,rfl,rfl,hf⟩ ?_
 clear hT
 rintro m T H ⟨j,t,Y,hj,rfl,rfl,rfl,h⟩
 conv=>whnf
 refine dcase (fun hc=>?_) (fun hc=>?_)
 ·have hlt:j<r2.length:=by omega
  have hb:0≤(j:Int)∧(j:Int)<(r2.length:Int):=by omega
  rw [List.drop_eq_getElem_cons hlt] at h
  obtain ⟨t',h1,h⟩:=bd_some h
  rw [←ix_nat hlt] at h1
  obtain ⟨c_R,g_R⟩:∃ c,rm44_R=c:=⟨_,rfl⟩
  unfold rm44_2
  conv=>whnf
  refine ⟨hb,?_⟩
  rw [drop1 I r2 (j:Int) hb]
  unfold rm44_1
  rw [g_R]
  conv=>whnf
  obtain ⟨r3,hb7,h1⟩:=bd_some h1
  refine ⟨(allc (pu_lptr (allc rfl (allc (pu_map (fun _=>rfl) _ _ _) (allc rfl (allc rfl (allc (pu_flat (fun _=>(allc rfl (allc rfl rfl))) _ _ _) (allc (pu_map (fun _=>rfl) _ _ _) (pu_run (fun _=>rfl) _)))))))) (allc rfl rfl)),_,x76_ok hb7,acc0,?_⟩
  conv=>whnf
  obtain ⟨r4,hb8,h1⟩:=bd_some h1
  refine ⟨(allc (pu_map (fun _=>rfl) _ _ _) (allc rfl rfl)),_,x75_ok hb8,accN rfl,?_⟩
  conv=>whnf
  obtain ⟨l1,hb13,h1⟩:=bd_some h1
  obtain ⟨F_,hF0,hFn,hF⟩:=foldO_states h1
  subst g_R
  unfold rm44_R
  refine rng_wp (f:=fun (e1:(List Int))=>(.lst (e1.map I) e1.length .full)) (s98_ok hb13) (fun i=>(o1::AObj.cells [rawL (F_ i)]::Y)) (by exact rfl) (by show (o1::AObj.cells [rawL (F_ 0)]::Y)=_;first | (rw [hF0];done) | (rw [hF0];rfl)) (fun _=>rfl) ?_ (rl:=none) (by exact rfl) (Hn:=(o1::AObj.cells [rawL t']::Y)) (by show (o1::AObj.cells [rawL (F_ l1.length)]::Y)=_;first | (rw [hFn];done) | (rw [hFn];rfl)) (fun Yr4=>?_)
  ·intro i hi Y
   have hq:=hF i hi
   unfold x44_r at hq
   split at hq
   ·rename_i hc
    rw [←Option.some.inj hq]
    exact m44_r hc.2 hc.1 Y
   ·cases hq
  conv=>whnf
  refine ⟨r2.length-(j+1),by omega,j+1,t',_,by omega,rfl,?_,rfl,h⟩
  rw [show IntKind.i64.wrap ((j:Int)+1)=((j+1:Nat):Int) by rw [wrapI _ (by omega) (by omega)];omega];rfl
 ·obtain rfl:j=r2.length:=by omega
  rw [List.drop_length] at h
  obtain rfl:=Option.some.inj h
  conv=>whnf
  exact hk _ _ _ _ _ _ _ _ _ _ _ _ _ _ _ _ _ _ _ _ _ _ _ _ _ _ _ _ _ _ _ _ _ _ _ _ _ _ _ _ _ _ _ _ _ _ _
theorem ins0_sem {H:List AObj} {lo:Nat}:Sem Tryz.prog (.fn 110) [.lst [] 0 .full,I 0,I 0] H lo (.tuple []) H:=by
 refine fn_semQ hmix lk110 rfl (Low.refl _ _) fun Q hQ=>?_
 unfold rc110
 conv=>whnf
 refine .intro (fun m T H'=>T=slots 49 [(0,.lst [] 0 .full),(1,I 0),(2,I 0),(6,I (IntKind.i64.wrap (0+1)))]∧H'=H) 0 ⟨rfl,rfl⟩ ?_
 rintro m T H' ⟨rfl,rfl⟩
 conv=>whnf
 exact hQ _ _ _ ⟨.inl rfl,Fgt.refl _,rfl⟩
theorem pdq0_sem {H:List AObj} {lo:Nat} (limit:Int):Sem Tryz.prog (.fn 105) [.lst [] 0 .full,I 0,I 0,I limit] H lo (.tuple []) H:=by
 refine fn_semQ hmix lk105 rfl (Low.refl _ _) fun Q hQ=>?_
 unfold rc105
 obtain ⟨c19,g19⟩:∃ c,rc105_19=c:=⟨_,rfl⟩
 rw [g19]
 conv=>whnf
 refine .intro (fun m T H'=>T=slots 134 [(0,.lst [] 0 .full),(1,I 0),(2,I 0),(3,I limit),(8,B true),(9,B true)]∧H'=H) 0 ⟨rfl,rfl⟩ ?_
 rintro m T H' ⟨rfl,rfl⟩
 subst g19
 unfold rc105_19
 obtain ⟨c1,g1⟩:∃ c,rc105_1=c:=⟨_,rfl⟩
 obtain ⟨c18,g18⟩:∃ c,rc105_18=c:=⟨_,rfl⟩
 rw [g1,g18]
 conv=>whnf
 subst g1
 unfold rc105_1
 conv=>whnf
 refine ⟨_,_,call1 ins0_sem,?_⟩
 conv=>whnf
 exact hQ _ _ _ ⟨.inr rfl,Fgt.refl _,rfl⟩
theorem sort0_sem {H:List AObj} {lo:Nat}:Sem Tryz.prog (.fn 84) [.lst [] 0 .full] H lo (.tuple []) H:=by
 refine fn_semQ hmix lk84 rfl (Low.refl _ _) fun Q hQ=>?_
 unfold rc84
 conv=>whnf
 refine ⟨by first | rfl | simp only [List.all_cons,List.all_nil,pu0,pub,pu1,pu2,pu1',pu2',pun,puf,puP,puP',puQ,puQ',Bool.and_true,Bool.and_self],_,bitsLen_ok 0 (by omega),?_⟩
 conv=>whnf
 refine ⟨_,_,call1 (pdq0_sem (Sort.bitsLen 0)),?_⟩
 conv=>whnf
 exact hQ _ _ _ ⟨.inl rfl,Fgt.refl _,rfl⟩
theorem sortU_nil:sortU []=[]:=congrArg Array.toList (ins_same Sort.ltInt #[] 0)
def x44 (b:Bed) (panels:List (Int×Int)):Option (List Int×Int) :=
 (x69 b panels).bind fun r1 =>
 match r1 with
 | (none,q1)=>if (decide (q1≠(0:Int)))=true then some ([],q1) else none
 | (some p1,q1) =>
   if (decide (q1≠(0:Int)))=true then some ([],q1)
   else (x74 p1).bind fun r2=>gd (r2.length≤1000) <| (foldO (x44_h p1) r2 []).bind fun t=>gd (t.length≤12) <| some (sortU t,0)
theorem x44_ok {b:Bed} {panels:List (Int×Int)} {v:List Int×Int} (h:x44 b panels=some v):PO 44 [(.agg [(I b.1),(.lst (b.2.1.map I) b.2.1.length .shared),(I b.2.2.1),(I b.2.2.2)]),(.lst (panels.flatMap pr) panels.length .shared)] (.tuple [(.lst (v.1.map I) v.1.length .shared),(I v.2)]):=by
 refine fn_pureW hmix lm44 rfl (pu_tup (allc (pu_map (fun _=>rfl) _ _ _) (allc rfl rfl))) fun Q hQ=>?_
 have hR:∀ T H,RetW [.tmp 4,.tmp 5] (.tuple [(.lst (v.1.map I) v.1.length .shared),(I v.2)]) .ret T H→Q .ret T H:=fun T H hh=>hQ _ T H hh
 unfold x44 at h
 unfold rm44
 obtain ⟨c_L,g_L⟩:∃ c,rm44_L=c:=⟨_,rfl⟩
 obtain ⟨c_3,g_3⟩:∃ c,rm44_3=c:=⟨_,rfl⟩
 unfold rm44_6 rm44_5 rm44_4
 rw [g_L,g_3]
 conv=>whnf
 obtain ⟨r1,hb1,h⟩:=bd_some h
 rcases r1 with ⟨_ | p1,q1⟩
 ·refine ⟨(allc (pu_agg (allc rfl (allc (pu_map (fun _=>rfl) _ _ _) (allc rfl (allc rfl rfl))))) (allc (pu_flat (fun _=>(allc rfl (allc rfl rfl))) _ _ _) rfl)),_,x69_ok hb1,?_⟩
  conv=>whnf
  rcases bt (decide (q1≠(0:Int))) with hb2 | hb2
  ·rw [hb2]
   conv=>whnf
   replace h:=it_t hb2 h
   obtain rfl:=Option.some.inj h
   exact hR _ _ ⟨.inr rfl,_,rfl,_,frz_pure (pu_tup (allc rfl (allc rfl rfl))),rfl⟩
  ·exact none_ne (it_f hb2 h)
 ·refine ⟨(allc (pu_agg (allc rfl (allc (pu_map (fun _=>rfl) _ _ _) (allc rfl (allc rfl rfl))))) (allc (pu_flat (fun _=>(allc rfl (allc rfl rfl))) _ _ _) rfl)),_,x69_ok hb1,?_⟩
  conv=>whnf
  rcases bt (decide (q1≠(0:Int))) with hb2 | hb2
  ·rw [hb2]
   conv=>whnf
   replace h:=it_t hb2 h
   obtain rfl:=Option.some.inj h
   exact hR _ _ ⟨.inr rfl,_,rfl,_,frz_pure (pu_tup (allc rfl (allc rfl rfl))),rfl⟩
  ·rw [hb2]
   conv=>whnf
   replace h:=it_f hb2 h
   obtain ⟨r2,hb3,h⟩:=bd_some h
   obtain ⟨hl,h⟩:=gd_some h
   obtain ⟨t,hb4,h⟩:=bd_some h
   obtain ⟨hl2,h⟩:=gd_some h
   refine ⟨(allc (pu_lptr (allc rfl (allc (pu_map (fun _=>rfl) _ _ _) (allc rfl (allc rfl (allc (pu_flat (fun _=>(allc rfl (allc rfl rfl))) _ _ _) (allc (pu_map (fun _=>rfl) _ _ _) (pu_run (fun _=>rfl) _)))))))) rfl),_,x74_ok hb3,?_⟩
   conv=>whnf
   subst g_L
   refine m44_l hl hb4 ?_ (by exact rfl)
   intro u0 u1 u2 u3 u4 u5 u6 u7 u10 u11 u12 u13 u14 u15 u16 u17 u18 u19 u20 u21 u22 u23 u24 u25 u26 u27 u28 u29 u30 u31 u32 u33 u34 u35 u36 u37 u38 u39 u40 u41 u42 u43 u44 u45 u46 u47 Y
   subst g_3
   cases t with
   | nil =>
     conv=>whnf
     refine ⟨_,_,call1 sort0_sem,?_⟩
     conv=>whnf
     rw [sortU_nil] at h
     obtain rfl:=Option.some.inj h
     exact hR _ _ ⟨.inr rfl,_,rfl,_,frz_pure (pu_tup (allc rfl (allc rfl rfl))),rfl⟩
   | cons a t =>
     conv=>whnf
     refine ⟨Nat.succ_ne_zero _,?_⟩
     conv=>whnf
     obtain ⟨d,hd⟩:∃ d:Array Int,d=(a::t).toArray:=⟨_,rfl⟩
     obtain ⟨S,hSd⟩:∃ S,S=Sort.insertionSort Sort.ltInt d 0 d.size:=⟨_,rfl⟩
     have hds:d.size=(a::t).length:=by rw [hd];rfl
     have hss:S.size=(a::t).length:=by rw [hSd,insS_len,hds]
     have e1:AObj.cells (List.map I (a::t))=Cd d:=by rw [hd];rfl
     have hsu:sortU (a::t)=S.toList:=by rw [hSd,hds,hd];rfl
     obtain ⟨o1,ho1⟩:∃ o1,AObj.cells (List.map AV.settle [I b.1,AV.lst (List.map I b.2.1) b.2.1.length .shared,I b.2.2.1,I b.2.2.2])=o1:=⟨_,rfl⟩
     rw [ho1,e1]
     have hS:=sort12_sem (lo:=0) (id:=(o1::AObj.cells [rawL (a::t)]::Y).length) (Nat.zero_le _) d (by rw [hds];exact hl2) (H:=(o1::AObj.cells [AV.ref (o1::AObj.cells [rawL (a::t)]::Y).length 0 (a::t).length none 1]::Y)++[Cd d]) (get_concat (o1::AObj.cells [AV.ref (o1::AObj.cells [rawL (a::t)]::Y).length 0 (a::t).length none 1]::Y) _)
     rw [←hSd,hds] at hS
     have hS2:Sem Tryz.prog (.fn 84) [AV.ref (o1::AObj.cells [rawL (a::t)]::Y).length 0 (a::t).length none 1] ((o1::AObj.cells [AV.ref (o1::AObj.cells [rawL (a::t)]::Y).length 0 (a::t).length none 1]::Y)++[Cd d]) 0 (.tuple []) ((o1::AObj.cells [AV.ref (o1::AObj.cells [rawL (a::t)]::Y).length 0 (a::t).length none 1]::Y)++[Cd S]):=by
      have e2:=set_concat (o1::AObj.cells [AV.ref (o1::AObj.cells [rawL (a::t)]::Y).length 0 (a::t).length none 1]::Y) (Cd d) (Cd S)
      rw [←e2]
      exact hS
     refine ⟨_,_,call1 hS2,?_⟩
     conv=>whnf
     rw [hsu] at h
     obtain rfl:=Option.some.inj h
     exact hR _ _ ⟨.inr rfl,_,rfl,_,(frz_tup (mapO_cons' (frz_row (f:=I) (l:=S.toList) (by exact get_concat (o1::AObj.cells [AV.ref (o1::AObj.cells [rawL (a::t)]::Y).length 0 (a::t).length none 1]::Y) (Cd S)) (hss.symm.trans Array.length_toList.symm) (fun _=>rfl) (fun _=>rfl)) (mapO_cons' (frz_pure rfl) mapO_nil'))),by rw [hss.symm];rfl⟩

noncomputable def xrc41:RC :=
 .seq (.reg false [I_ 2 [.tk 0] .box,I_ 4 [.cv (.int .i64 0)] .mv,I_ 5 [.cv (.int .i64 0)] .mv]) (.seq (.seq (.reg false [I_ 7 [.sl 2] (.ld (.str 4)),I_ 8 [.sl 1] .mv,I_ 9 [.cv (.func 66 [] []),.sl 7,.sl 8] (.call 3),I_ 10
 [.tv 9,.cv (.int .i64 0)] (.bin .neq)]) (.cond (.sl 10) (.seq (.reg false [I_ 11 [.tv 2] (.ld (.str 4)),I_ 12 [.tk 1] .mv,I_ 13 [.cv (.func 66 [] []),.sl 11,.sl 12] (.call 3),I_ 4 [.cv (.int .i64 0)] .mv,I_ 5 [.tk 13]
 .mv]) .ret) .skip)) (.seq (.reg false [I_ 14 [.tv 2] (.ld (.str 4)),I_ 15 [.cv (.func 51 [] []),.sl 14] (.call 3),I_ 16 [.tk 15] .lenS,I_ 6 [.tk 16] .mv]) (.seq (.reg false [I_ 17 [.sl 1] .mv,I_ 18 [.sl 6] .mv,I_ 19 [.cv
 (.func 71 [] []),.sl 17,.sl 18] (.call 3),I_ 20 [.tk 1] .mv,I_ 21 [.tk 6] .mv,I_ 22 [.tv 21,.cv (.int .i64 1)] (.bin .add),I_ 23 [.cv (.func 71 [] []),.sl 20,.sl 22] (.call 3),I_ 24 [.tv 19,.tv 23] (.bin .sub),I_ 4
 [.tk 24] .mv,I_ 5 [.cv (.int .i64 0)] .mv]) .ret)))
theorem lxx41:linkF Tryz.prog ann41 41=some (xrc41,25,[.tmp 4,.tmp 5]):=by kernel_rfl
def x41 (b:(Int×(List Int)×Int×Int)) (panels:(List (Int×Int))):Option (Int×Int) :=
 (x66 b panels).bind fun r1 =>
 if (decide (r1≠(0:Int)))=true then
  (x66 b panels).bind fun r2 =>
  some ((0:Int),r2)
 else
  (x51 b).bind fun r3 =>
  (x71 panels (r3.length:Int)).bind fun r4 =>
  (x71 panels (w ((r3.length:Int)+(1:Int)))).bind fun r5 =>
  some ((w (r4-r5)),(0:Int))
theorem x41_ok {b:(Int×(List Int)×Int×Int)} {panels:(List (Int×Int))} {v:(Int×Int)} (h:x41 b panels=some v):PO 41 [(.agg [(I b.1),(.lst (b.2.1.map I) b.2.1.length .shared),(I b.2.2.1),(I b.2.2.2)]),(.lst (panels.flatMap pr) panels.length .shared)] (.tuple [(I v.1),(I v.2)]):=by
 refine fn_pureW hmix lxx41 rfl (pu_tup (allc rfl (allc rfl rfl))) fun Q hQ=>?_
 have hR:∀ T H,RetW [.tmp 4,.tmp 5] (.tuple [(I v.1),(I v.2)]) .ret T H→Q .ret T H:=fun T H hh=>hQ _ T H hh
 unfold x41 at h
 unfold xrc41
 skip
 conv=>whnf
 obtain ⟨r1,hb1,h⟩:=bd_some h
 refine ⟨(allc (pu_agg (allc rfl (allc (pu_map (fun _=>rfl) _ _ _) (allc rfl (allc rfl rfl))))) (allc (pu_flat (fun _=>(allc rfl (allc rfl rfl))) _ _ _) rfl)),_,x66_ok hb1,?_⟩
 conv=>whnf
 rcases bt (decide (r1≠(0:Int))) with hb2 | hb2
 ·rw [hb2]
  conv=>whnf
  replace h:=it_t hb2 h
  obtain ⟨r2,hb3,h⟩:=bd_some h
  refine ⟨(allc (pu_agg (allc rfl (allc (pu_map (fun _=>rfl) _ _ _) (allc rfl (allc rfl rfl))))) (allc (pu_flat (fun _=>(allc rfl (allc rfl rfl))) _ _ _) rfl)),_,x66_ok hb3,?_⟩
  conv=>whnf
  obtain rfl:=Option.some.inj h
  exact hR _ _ ⟨.inr rfl,_,rfl,_,frz_pure (pu_tup (allc rfl (allc rfl rfl))),rfl⟩
 ·rw [hb2]
  conv=>whnf
  replace h:=it_f hb2 h
  obtain ⟨r3,hb4,h⟩:=bd_some h
  refine ⟨(allc (pu_agg (allc rfl (allc (pu_map (fun _=>rfl) _ _ _) (allc rfl (allc rfl rfl))))) rfl),_,x51_ok hb4,?_⟩
  conv=>whnf
  obtain ⟨r4,hb5,h⟩:=bd_some h
  refine ⟨(allc (pu_flat (fun _=>(allc rfl (allc rfl rfl))) _ _ _) (allc rfl rfl)),_,x71_ok hb5,?_⟩
  conv=>whnf
  obtain ⟨r5,hb6,h⟩:=bd_some h
  refine ⟨(allc (pu_flat (fun _=>(allc rfl (allc rfl rfl))) _ _ _) (allc rfl rfl)),_,x71_ok hb6,?_⟩
  conv=>whnf
  obtain rfl:=Option.some.inj h
  exact hR _ _ ⟨.inr rfl,_,rfl,_,frz_pure (pu_tup (allc rfl (allc rfl rfl))),rfl⟩

noncomputable def xrc6:RC :=
 .seq (.reg false [I_ 4 [.tk 0] .box,I_ 8 [.cv (.bool false)] .mv]) (.seq (.seq (.reg false [I_ 25 [.sl 4] (.ld (.str 4)),I_ 26 [.sl 1] .mv,I_ 27 [.cv (.func 16 [] []),.sl 25,.sl 26] (.call 3),I_ 28 [.tk 27] .mv,⟨some 29,
 [.sl 2],some (28,false),none,.mv⟩,⟨some 30,[.tk 29],some (28,false),none,.lenS⟩,⟨some 31,[.tv 30,.cv (.int .i64 20)],some (28,false),none,.bin .gtr⟩,I_ 32 [.tv 28,.cv (.bool true),.tv 31] .pick]) (.cond (.sl
 32) (.seq (.reg false [I_ 33 [.cv (.func 17 [] [])] (.call 3),I_ 8 [.tk 33] .mv]) .ret) .skip)) (.seq (.reg false [I_ 35 [.sl 4] (.ld (.str 4)),I_ 36 [.sl 1] .mv,I_ 37 [.sl 2] .mv,I_ 38 [.cv (.func 38 [] []),.sl 35,.sl
 36,.sl 37] (.call 3),I_ 34 [.tk 38] .mv,I_ 39 [.sl 34] (.ext 0),I_ 40 [.tv 34] (.ext 1),I_ 9 [.tk 39] .mv,I_ 10 [.tk 40] .mv]) (.seq (.reg false [I_ 42 [.sl 4] (.ld (.str 4)),I_ 43 [.sl 1] .mv,I_ 44 [.tk 2] .mv,I_ 45
 [.cv (.func 39 [] []),.sl 42,.sl 43,.sl 44] (.call 3),I_ 41 [.tk 45] .mv,I_ 46 [.sl 41] (.ext 0),I_ 47 [.tv 41] (.ext 1),I_ 11 [.tk 46] .mv,I_ 12 [.tk 47] .mv]) (.seq (.reg false [I_ 49 [.sl 4] (.ld (.str 4)),I_ 50
 [.sl 1] .mv,I_ 51 [.cv (.func 40 [] []),.sl 49,.sl 50] (.call 3),I_ 48 [.tk 51] .mv,I_ 52 [.sl 48] (.ext 0),I_ 53 [.tv 48] (.ext 1),I_ 13 [.tk 52] .mv,I_ 14 [.tk 53] .mv]) (.seq (.reg false [I_ 55 [.sl 4] (.ld (.str
 4)),I_ 56 [.sl 1] .mv,I_ 57 [.cv (.func 41 [] []),.sl 55,.sl 56] (.call 3),I_ 54 [.tk 57] .mv,I_ 58 [.sl 54] (.ext 0),I_ 59 [.tv 54] (.ext 1),I_ 15 [.tk 58] .mv,I_ 16 [.tk 59] .mv]) (.seq (.reg false [I_ 61 [.sl 4]
 (.ld (.str 4)),I_ 62 [.sl 1] .mv,I_ 63 [.sl 3] .mv,I_ 64 [.cv (.func 42 [] []),.sl 61,.sl 62,.sl 63] (.call 3),I_ 60 [.tk 64] .mv,I_ 65 [.sl 60] (.ext 0),I_ 66 [.tv 60] (.ext 1),I_ 17 [.tk 65] .mv,I_ 18 [.tk 66]
 .mv]) (.seq (.reg false [I_ 68 [.sl 4] (.ld (.str 4)),I_ 69 [.sl 1] .mv,I_ 70 [.tk 3] .mv,I_ 71 [.cv (.func 43 [] []),.sl 68,.sl 69,.sl 70] (.call 3),I_ 67 [.tk 71] .mv,I_ 72 [.sl 67] (.ext 0),I_ 73 [.tv 67] (.ext 1),
 I_ 19 [.tk 72] .mv,I_ 20 [.tk 73] .mv]) (.seq (.reg false [I_ 75 [.sl 4] (.ld (.str 4)),I_ 76 [.sl 1] .mv,I_ 77 [.cv (.func 44 [] []),.sl 75,.sl 76] (.call 3),I_ 74 [.tk 77] .mv,I_ 78 [.sl 74] (.ext 0),I_ 79 [.tv 74]
 (.ext 1),I_ 21 [.tk 78] .mv,I_ 22 [.tk 79] .mv]) (.seq (.reg false [I_ 81 [.sl 4] (.ld (.str 4)),I_ 82 [.sl 1] .mv,I_ 83 [.cv (.func 34 [] []),.sl 81,.sl 82] (.call 3),I_ 80 [.tk 83] .mv,I_ 84 [.sl 80] (.ext 0),I_ 85
 [.tv 80] (.ext 1),I_ 23 [.tk 84] .mv,I_ 24 [.tk 85] .mv]) (.seq (.seq (.reg false [I_ 86 [.tk 9] .mv,I_ 87 [.tk 11] .mv,I_ 88 [.tv 86,.tv 87] (.bin .neq),I_ 89 [.tk 88] .mv,⟨some 90,[.tk 10],some (89,false),none,
 .mv⟩,⟨some 91,[.tk 12],some (89,false),none,.mv⟩,⟨some 92,[.tv 90,.tv 91],some (89,false),none,.bin .neq⟩,I_ 93 [.tv 89,.cv (.bool true),.tv 92] .pick,I_ 94 [.tk 93] .mv,⟨some 95,[.tk 13],some (94,false),
 none,.mv⟩,⟨some 96,[.tk 15],some (94,false),none,.mv⟩,⟨some 97,[.tv 95,.tv 96],some (94,false),none,.bin .neq⟩,I_ 98 [.tv 94,.cv (.bool true),.tv 97] .pick,I_ 99 [.tk 98] .mv,⟨some 100,[.tk 14],some (99,
 false),none,.mv⟩,⟨some 101,[.tk 16],some (99,false),none,.mv⟩,⟨some 102,[.tv 100,.tv 101],some (99,false),none,.bin .neq⟩,I_ 103 [.tv 99,.cv (.bool true),.tv 102] .pick,I_ 104 [.tk 103] .mv,⟨some 105,[.tk
 17],some (104,false),none,.mv⟩,⟨some 106,[.tk 19],some (104,false),none,.mv⟩,⟨some 107,[.tv 105,.tv 106],some (104,false),none,.bin .neq⟩,I_ 108 [.tv 104,.cv (.bool true),.tv 107] .pick,I_ 109 [.tk 108]
 .mv,⟨some 110,[.tk 18],some (109,false),none,.mv⟩,⟨some 111,[.tk 20],some (109,false),none,.mv⟩,⟨some 112,[.tv 110,.tv 111],some (109,false),none,.bin .neq⟩,I_ 113 [.tv 109,.cv (.bool true),.tv 112] .pick,
 I_ 114 [.tk 113] .mv,⟨some 115,[.tk 22],some (114,false),none,.mv⟩,⟨some 116,[.sl 24],some (114,false),none,.mv⟩,⟨some 117,[.tv 115,.tv 116],some (114,false),none,.bin .neq⟩,I_ 118 [.tv 114,.cv (.bool
 true),.tv 117] .pick,I_ 119 [.tk 118] .mv,⟨some 120,[.sl 21],some (119,false),none,.mv⟩,⟨some 121,[.tk 120],some (119,false),none,.lenS⟩,⟨some 122,[.tv 121,.cv (.int .i64 20)],some (119,false),none,.bin
 .gtr⟩,I_ 123 [.tv 119,.cv (.bool true),.tv 122] .pick]) (.cond (.sl 123) (.seq (.reg false [I_ 8 [.cv (.bool false)] .mv]) .ret) .skip)) (.seq (.seq (.reg false [I_ 124 [.tk 24] .mv,I_ 125 [.tv 124,.cv (.int .i64 0)] (.bin
 .neq)]) (.cond (.sl 125) (.seq (.reg false [I_ 126 [.tk 21] .mv,I_ 127 [.tk 126] .lenS,I_ 128 [.tv 127,.cv (.int .i64 0)] (.bin .eql),I_ 129 [.tk 128] .mv,⟨some 130,[.cv (.func 17 [] [])],some (129,true),none,.call
 3⟩,I_ 131 [.tv 129,.tv 130,.cv (.bool false)] .pick,I_ 8 [.tk 131] .mv]) .ret) .skip)) (.seq (.reg false [I_ 133 [.tv 4] (.ld (.str 4)),I_ 134 [.tk 1] .mv,I_ 135 [.tk 21] .mv,I_ 136 [.cv (.func 39 [] []),.sl 133,.sl
 134,.sl 135] (.call 3),I_ 132 [.tk 136] .mv,I_ 137 [.sl 132] (.ext 0),I_ 138 [.tv 132] (.ext 1),I_ 9 [.tk 137] .mv,I_ 22 [.tk 138] .mv]) (.seq (.reg false [I_ 139 [.tk 22] .mv,I_ 140 [.tv 139,.cv (.int .i64 0)] (.bin
 .eql),I_ 141 [.tk 140] .mv,⟨some 142,[.tk 9],some (141,true),none,.mv⟩,⟨some 143,[.tk 23],some (141,true),none,.mv⟩,⟨some 144,[.tv 142,.tv 143],some (141,true),none,.bin .eql⟩,I_ 145 [.tv 141,.tv 144,.cv
 (.bool false)] .pick,I_ 146 [.tk 145] .mv,⟨some 147,[.cv (.func 17 [] [])],some (146,true),none,.call 3⟩,I_ 148 [.tv 146,.tv 147,.cv (.bool false)] .pick,I_ 8 [.tk 148] .mv]) .ret)))))))))))))
theorem lxx6:linkF Tryz.prog ann6 6=some (xrc6,149,[.tmp 8]):=by kernel_rfl
def x6 (b:(Int×(List Int)×Int×Int)) (panels:(List (Int×Int))) (marks:(List Int)) (hours:Int):Option Bool :=
 (x16 b panels).bind fun r1 =>
 if r1=true then
  (x17).bind fun r2 =>
  some r2
 else
  if (decide ((20:Int)<(marks.length:Int)))=true then
   (x17).bind fun r3 =>
   some r3
  else
   (x38 b panels marks).bind fun r4 =>
   (x39 b panels marks).bind fun r5 =>
   (x40 b panels).bind fun r6 =>
   (x41 b panels).bind fun r7 =>
   (x42 b panels hours).bind fun r8 =>
   (x43 b panels hours).bind fun r9 =>
   (x44 b panels).bind fun r10 =>
   (x34 b panels).bind fun r11 =>
   if (decide (r4.1≠r5.1))=true then
    some false
   else
    if (decide (r4.2≠r5.2))=true then
     some false
    else
     if (decide (r6.1≠r7.1))=true then
      some false
     else
      if (decide (r6.2≠r7.2))=true then
       some false
      else
       if (decide (r8.1≠r9.1))=true then
        some false
       else
        if (decide (r8.2≠r9.2))=true then
         some false
        else
         if (decide (r10.2≠r11.2))=true then
          some false
         else
          if (decide ((20:Int)<(r10.1.length:Int)))=true then
           some false
          else
           if (decide (r11.2≠(0:Int)))=true then
            if (decide ((r10.1.length:Int)=(0:Int)))=true then
             (x17).bind fun r12 =>
             some r12
            else
             some false
           else
            (x39 b panels r10.1).bind fun r13 =>
            if (decide (r13.2=(0:Int)))=true then
             if (decide (r13.1=r11.1))=true then
              (x17).bind fun r14 =>
              some r14
             else
              some false
            else
             some false
theorem x6_ok {b:(Int×(List Int)×Int×Int)} {panels:(List (Int×Int))} {marks:(List Int)} {hours:Int} {v:Bool} (h:x6 b panels marks hours=some v):PO 6 [(.agg [(I b.1),(.lst (b.2.1.map I) b.2.1.length .shared),(I b.2.2.1),(I b.2.2.2)]),(.lst (panels.flatMap pr) panels.length .shared),(.lst (marks.map I) marks.length .shared),(I hours)] (B v):=by
 refine fn_pureW hmix lxx6 rfl rfl fun Q hQ=>?_
 have hR:∀ T H,RetW [.tmp 8] (B v) .ret T H→Q .ret T H:=fun T H hh=>hQ _ T H hh
 unfold x6 at h
 unfold xrc6
 skip
 conv=>whnf
 obtain ⟨r1,hb1,h⟩:=bd_some h
 refine ⟨(allc (pu_agg (allc rfl (allc (pu_map (fun _=>rfl) _ _ _) (allc rfl (allc rfl rfl))))) (allc (pu_flat (fun _=>(allc rfl (allc rfl rfl))) _ _ _) rfl)),_,x16_ok hb1,?_⟩
 conv=>whnf
 cases r1
 ·conv=>whnf
  replace h:=it_f rfl h
  rcases bt (decide ((20:Int)<(marks.length:Int))) with hb3 | hb3
  ·rw [hb3]
   conv=>whnf
   replace h:=it_t hb3 h
   obtain ⟨r3,hb4,h⟩:=bd_some h
   refine ⟨rfl,_,x17_ok hb4,?_⟩
   conv=>whnf
   obtain rfl:=Option.some.inj h
   exact hR _ _ ⟨.inr rfl,_,rfl,_,frz_pure rfl,rfl⟩
  ·rw [hb3]
   conv=>whnf
   replace h:=it_f hb3 h
   obtain ⟨r4,hb5,h⟩:=bd_some h
   refine ⟨(allc (pu_agg (allc rfl (allc (pu_map (fun _=>rfl) _ _ _) (allc rfl (allc rfl rfl))))) (allc (pu_flat (fun _=>(allc rfl (allc rfl rfl))) _ _ _) (allc (pu_map (fun _=>rfl) _ _ _) rfl))),_,x38_ok hb5,?_⟩
   conv=>whnf
   obtain ⟨r5,hb6,h⟩:=bd_some h
   refine ⟨(allc (pu_agg (allc rfl (allc (pu_map (fun _=>rfl) _ _ _) (allc rfl (allc rfl rfl))))) (allc (pu_flat (fun _=>(allc rfl (allc rfl rfl))) _ _ _) (allc (pu_map (fun _=>rfl) _ _ _) rfl))),_,x39_ok hb6,?_⟩
   conv=>whnf
   obtain ⟨r6,hb7,h⟩:=bd_some h
   refine ⟨(allc (pu_agg (allc rfl (allc (pu_map (fun _=>rfl) _ _ _) (allc rfl (allc rfl rfl))))) (allc (pu_flat (fun _=>(allc rfl (allc rfl rfl))) _ _ _) rfl)),_,x40_ok hb7,?_⟩
   conv=>whnf
   obtain ⟨r7,hb8,h⟩:=bd_some h
   refine ⟨(allc (pu_agg (allc rfl (allc (pu_map (fun _=>rfl) _ _ _) (allc rfl (allc rfl rfl))))) (allc (pu_flat (fun _=>(allc rfl (allc rfl rfl))) _ _ _) rfl)),_,x41_ok hb8,?_⟩
   conv=>whnf
   obtain ⟨r8,hb9,h⟩:=bd_some h
   refine ⟨(allc (pu_agg (allc rfl (allc (pu_map (fun _=>rfl) _ _ _) (allc rfl (allc rfl rfl))))) (allc (pu_flat (fun _=>(allc rfl (allc rfl rfl))) _ _ _) (allc rfl rfl))),_,x42_ok hb9,?_⟩
   conv=>whnf
   obtain ⟨r9,hb10,h⟩:=bd_some h
   refine ⟨(allc (pu_agg (allc rfl (allc (pu_map (fun _=>rfl) _ _ _) (allc rfl (allc rfl rfl))))) (allc (pu_flat (fun _=>(allc rfl (allc rfl rfl))) _ _ _) (allc rfl rfl))),_,x43_ok hb10,?_⟩
   conv=>whnf
   obtain ⟨r10,hb11,h⟩:=bd_some h
   refine ⟨(allc (pu_agg (allc rfl (allc (pu_map (fun _=>rfl) _ _ _) (allc rfl (allc rfl rfl))))) (allc (pu_flat (fun _=>(allc rfl (allc rfl rfl))) _ _ _) rfl)),_,x44_ok hb11,?_⟩
   conv=>whnf
   obtain ⟨r11,hb12,h⟩:=bd_some h
   refine ⟨(allc (pu_agg (allc rfl (allc (pu_map (fun _=>rfl) _ _ _) (allc rfl (allc rfl rfl))))) (allc (pu_flat (fun _=>(allc rfl (allc rfl rfl))) _ _ _) rfl)),_,x34_ok hb12,?_⟩
   conv=>whnf
   rcases bt (decide (r4.1≠r5.1)) with hb13 | hb13
   ·rw [hb13]
    conv=>whnf
    replace h:=it_t hb13 h
    obtain rfl:=Option.some.inj h
    exact hR _ _ ⟨.inr rfl,_,rfl,_,frz_pure rfl,rfl⟩
   ·rw [hb13]
    conv=>whnf
    replace h:=it_f hb13 h
    rcases bt (decide (r4.2≠r5.2)) with hb14 | hb14
    ·rw [hb14]
     conv=>whnf
     replace h:=it_t hb14 h
     obtain rfl:=Option.some.inj h
     exact hR _ _ ⟨.inr rfl,_,rfl,_,frz_pure rfl,rfl⟩
    ·rw [hb14]
     conv=>whnf
     replace h:=it_f hb14 h
     rcases bt (decide (r6.1≠r7.1)) with hb15 | hb15
     ·rw [hb15]
      conv=>whnf
      replace h:=it_t hb15 h
      obtain rfl:=Option.some.inj h
      exact hR _ _ ⟨.inr rfl,_,rfl,_,frz_pure rfl,rfl⟩
     ·rw [hb15]
      conv=>whnf
      replace h:=it_f hb15 h
      rcases bt (decide (r6.2≠r7.2)) with hb16 | hb16
      ·rw [hb16]
       conv=>whnf
       replace h:=it_t hb16 h
       obtain rfl:=Option.some.inj h
       exact hR _ _ ⟨.inr rfl,_,rfl,_,frz_pure rfl,rfl⟩
      ·rw [hb16]
       conv=>whnf
       replace h:=it_f hb16 h
       rcases bt (decide (r8.1≠r9.1)) with hb17 | hb17
       ·rw [hb17]
        conv=>whnf
        replace h:=it_t hb17 h
        obtain rfl:=Option.some.inj h
        exact hR _ _ ⟨.inr rfl,_,rfl,_,frz_pure rfl,rfl⟩
       ·rw [hb17]
        conv=>whnf
        replace h:=it_f hb17 h
        rcases bt (decide (r8.2≠r9.2)) with hb18 | hb18
        ·rw [hb18]
         conv=>whnf
         replace h:=it_t hb18 h
         obtain rfl:=Option.some.inj h
         exact hR _ _ ⟨.inr rfl,_,rfl,_,frz_pure rfl,rfl⟩
        ·rw [hb18]
         conv=>whnf
         replace h:=it_f hb18 h
         rcases bt (decide (r10.2≠r11.2)) with hb19 | hb19
         ·rw [hb19]
          conv=>whnf
          replace h:=it_t hb19 h
          obtain rfl:=Option.some.inj h
          exact hR _ _ ⟨.inr rfl,_,rfl,_,frz_pure rfl,rfl⟩
         ·rw [hb19]
          conv=>whnf
          replace h:=it_f hb19 h
          rcases bt (decide ((20:Int)<(r10.1.length:Int))) with hb20 | hb20
          ·rw [hb20]
           conv=>whnf
           replace h:=it_t hb20 h
           obtain rfl:=Option.some.inj h
           exact hR _ _ ⟨.inr rfl,_,rfl,_,frz_pure rfl,rfl⟩
          ·rw [hb20]
           conv=>whnf
           replace h:=it_f hb20 h
           rcases bt (decide (r11.2≠(0:Int))) with hb21 | hb21
           ·rw [hb21]
            conv=>whnf
            replace h:=it_t hb21 h
            rcases bt (decide ((r10.1.length:Int)=(0:Int))) with hb22 | hb22
            ·rw [hb22]
             conv=>whnf
             replace h:=it_t hb22 h
             obtain ⟨r12,hb23,h⟩:=bd_some h
             refine ⟨rfl,_,x17_ok hb23,?_⟩
             conv=>whnf
             obtain rfl:=Option.some.inj h
             exact hR _ _ ⟨.inr rfl,_,rfl,_,frz_pure rfl,rfl⟩
            ·rw [hb22]
             conv=>whnf
             replace h:=it_f hb22 h
             obtain rfl:=Option.some.inj h
             exact hR _ _ ⟨.inr rfl,_,rfl,_,frz_pure rfl,rfl⟩
           ·rw [hb21]
            conv=>whnf
            replace h:=it_f hb21 h
            obtain ⟨r13,hb24,h⟩:=bd_some h
            refine ⟨(allc (pu_agg (allc rfl (allc (pu_map (fun _=>rfl) _ _ _) (allc rfl (allc rfl rfl))))) (allc (pu_flat (fun _=>(allc rfl (allc rfl rfl))) _ _ _) (allc (pu_map (fun _=>rfl) _ _ _) rfl))),_,x39_ok hb24,?_⟩
            conv=>whnf
            rcases bt (decide (r13.2=(0:Int))) with hb25 | hb25
            ·rw [hb25]
             conv=>whnf
             replace h:=it_t hb25 h
             rcases bt (decide (r13.1=r11.1)) with hb26 | hb26
             ·rw [hb26]
              conv=>whnf
              replace h:=it_t hb26 h
              obtain ⟨r14,hb27,h⟩:=bd_some h
              refine ⟨rfl,_,x17_ok hb27,?_⟩
              conv=>whnf
              obtain rfl:=Option.some.inj h
              exact hR _ _ ⟨.inr rfl,_,rfl,_,frz_pure rfl,rfl⟩
             ·rw [hb26]
              conv=>whnf
              replace h:=it_f hb26 h
              obtain rfl:=Option.some.inj h
              exact hR _ _ ⟨.inr rfl,_,rfl,_,frz_pure rfl,rfl⟩
            ·rw [hb25]
             conv=>whnf
             replace h:=it_f hb25 h
             obtain rfl:=Option.some.inj h
             exact hR _ _ ⟨.inr rfl,_,rfl,_,frz_pure rfl,rfl⟩
 ·conv=>whnf
  replace h:=it_t rfl h
  obtain ⟨r2,hb2,h⟩:=bd_some h
  refine ⟨rfl,_,x17_ok hb2,?_⟩
  conv=>whnf
  obtain rfl:=Option.some.inj h
  exact hR _ _ ⟨.inr rfl,_,rfl,_,frz_pure rfl,rfl⟩

end Go.Proofs.YtbnbjjgagikobaaGreat.Ab


namespace Go.Proofs.YtbnbjjgagikobaaGreat.Ab
open Go
set_option maxRecDepth 20000
set_option maxHeartbeats 4000000
theorem fold44r:∀ (L:List (List Int)) (t:List Int),(∀ e∈L,0<e.length)→t.length+L.length≤1000→foldO x44_r L t=some (t++L.map (·.headD 0))
 | [],t,_,_=>by simp [foldO]
 | e::L,t,h,hl=>by
   have h1:=h e (by simp)
   rw [List.length_cons] at hl
   have e0:ix e 0=e.headD 0:=by
    cases e with
    | nil=>simp at h1
    | cons a r=>rfl
   have e1:x44_r t e=some (t++[e.headD 0]):=by rw [x44_r,if_pos ⟨h1,by omega⟩,e0]
   rw [foldO,e1,Option.bind_some,fold44r L _ (fun e he=>h e (by simp [he])) (by rw [List.length_append];simp;omega),List.append_assoc];rfl
theorem fold44 {p1:Bench} {ps:List (Int×Int)} (hp1:p1.2.1=ps) (hp:ps.length≤12) {n:Nat} (hn:p1.2.2.1.length=n) (hn1:1≤n∧n≤10):∀ (r t:List Int),t.length+12*r.length≤900→foldO (x44_h p1) r t=some (t++marksL n ps r)
 | [],t,_=>by simp [foldO,marksL]
 | h::r,t,hl=>by
   rw [List.length_cons] at hl
   have hol:(ofL ps h).length≤ps.length:=by rw [ofL_len];exact idxs_len ps _
   have hcl:(chunks n (ofL ps h)).length≤ps.length:=Nat.le_trans (chunks_cnt (by omega) _) hol
   have e1:x76 p1 h=some (ofL ps h):=by rw [x76,hp1,if_pos (by omega)]
   have e2:x75 (ofL ps h) (n:Int)=some ():=if_neg (by rw [decide_eq_true_eq];omega)
   have e3:s98 (ofL ps h) (n:Int)=some (chunks n (ofL ps h)):=by
    unfold s98;rw [if_pos ⟨by omega,by omega,by omega⟩,Int.toNat_natCast]
   have e4:=fold44r (chunks n (ofL ps h)) t (fun e he=>List.length_pos_iff.2 (chunk_ne (by omega) he)) (by omega)
   have e5:x44_h p1 t h=some (t++heads n (ofL ps h)):=by
    rw [x44_h,e1,Option.bind_some,hn,e2,Option.bind_some,e3,Option.bind_some,e4];rfl
   have hh:(heads n (ofL ps h)).length≤12:=by unfold heads;rw [List.length_map];omega
   rw [foldO,e5,Option.bind_some,fold44 hp1 hp hn hn1 r _ (by rw [List.length_append];omega),List.append_assoc];rfl
theorem x44_eq {b:Bed} (hb:bErr b=0) (hl:b.2.1.length≤20) {ps:List (Int×Int)} (hp:PsOk ps):x44 b ps=some (bestM b ps,0):=by
 have hB:=bedOk hb
 have hw:=wn_pos hB
 have hpl:=hp.len
 have hol:=ordP_len b.2.2.1 ps
 have hml:=marks_len hB ps
 have e:foldO (x44_h (b,ps,wholeL b.1.toNat b.2.1,wantL ps)) (ordP b.2.2.1 ps) []=some ([]++marksL (wn b) ps (ordP b.2.2.1 ps)):=fold44 rfl hpl (n:=wn b) rfl hw (ordP b.2.2.1 ps) [] (by simp;omega)
 rw [List.nil_append] at e
 rw [x44,x69_eq hb hl hp,Option.bind_some]
 show (if (decide ((0:Int)≠(0:Int)))=true then _ else _)=_
 rw [if_neg (by decide),x74_eq hp.heat,Option.bind_some,gd_pos (by omega),e,Option.bind_some,gd_pos (by omega)];rfl
theorem x44_err {b:Bed} (hl:b.2.1.length≤20) {ps:List (Int×Int)} (he:eB b ps≠0):x44 b ps=some ([],eB b ps):=by
 rw [x44,x69_err (by omega) he,Option.bind_some]
 exact if_pos (decide_eq_true he)
theorem x41_eq {b:Bed} (hb:bErr b=0) (hl:b.2.1.length≤20) {ps:List (Int×Int)} (hp:PsOk ps):x41 b ps=some (hSum (wn b) ps 21-hSum (wn b+1) ps 21,0):=by
 have hB:=bedOk hb
 have hw:=wn_pos hB
 have h1:=hB.o1;have h10:=hB.o10
 have e1:=x71_eq hp (n:=wn b) (by omega)
 have e2:=x71_eq hp (n:=wn b+1) (by omega)
 have s1:=hSum_in (n:=wn b) (by omega) hp 21
 have s2:=hSum_in (n:=wn b+1) (by omega) hp 21
 have ew:w (((wholeL b.1.toNat b.2.1).length:Int)+1)=((wn b+1:Nat):Int):=by
  show w ((wn b:Int)+1)=_
  rw [w_id (by omega)];omega
 rw [x41,x66_eB hl,Option.bind_some,eB_of hb hp,if_neg (by decide),x51_eq b (by omega) (by omega),Option.bind_some,ew,e2]
 show (x71 ps (wn b:Int)).bind _=_
 rw [e1,Option.bind_some,Option.bind_some,w_id (by omega)]
theorem x40_err {b:Bed} (hl:b.2.1.length≤20) {ps:List (Int×Int)} (he:eB b ps≠0):x40 b ps=some (0,eB b ps):=by
 rw [x40,x69_err (by omega) he,Option.bind_some]
 exact if_pos (decide_eq_true he)
theorem x41_err {b:Bed} (hl:b.2.1.length≤20) {ps:List (Int×Int)} (he:eB b ps≠0):x41 b ps=some (0,eB b ps):=by
 rw [x41,x66_eB hl,Option.bind_some,if_pos (decide_eq_true he),Option.bind_some]
theorem mAns_best {b:Bed} (hB:BedOk b) {ps:List (Int×Int)} (hp:PsOk ps):mAns (wn b) ps (bestM b ps)=(hSum (wn b) ps 21,0):=by
 unfold mAns
 rw [if_pos (bestM_rise hB ps),if_pos (bestM_good hB hp),bestM_tot hB hp]
theorem bestM_len {b:Bed} (hB:BedOk b) (ps:List (Int×Int)):(bestM b ps).length≤ps.length:=by
 unfold bestM;rw [sortU_len];exact marks_len hB ps
theorem x6_eq (b:Bed) (ps:List (Int×Int)) (M:List Int) {T:Int} (hT:T≤9223372036854775807):x6 b ps M T=some true:=by
 rw [x6,x16_eq,Option.bind_some]
 by_cases h:20<b.2.1.length∨20<ps.length
 ·rw [if_pos (by simpa using h)];rfl
 ·rw [if_neg (by simpa using h)]
  have hl:b.2.1.length≤20:=by omega
  by_cases hM:20<M.length
  ·rw [if_pos (decide_eq_true (by omega))];rfl
  rw [if_neg (by rw [decide_eq_true_eq];omega)]
  obtain ⟨r,e42,e43⟩:=x42_x43 hl ps hT
  by_cases he:eB b ps=0
  ·obtain ⟨hb,hp⟩:=eB_ok he
   have hB:=bedOk hb
   have hpl:=hp.len
   have hbl:=bestM_len hB ps
   rw [x38_eq hb hl hp (by omega),Option.bind_some,x39_eq hb hl hp (by omega),Option.bind_some,x40_eq hb hl hp,Option.bind_some,x41_eq hb hl hp,Option.bind_some,e42,Option.bind_some,e43,Option.bind_some,x44_eq hb hl hp,Option.bind_some,x34_eq hb hl hp,Option.bind_some]
   simp only [ne_eq,not_true_eq_false,decide_false,Bool.false_eq_true,if_false]
   rw [if_neg (by rw [decide_eq_true_eq];omega),x39_eq hb hl hp (by omega),Option.bind_some,mAns_best hB hp]
   simp only [decide_true,if_true]
   rfl
  ·rw [x38_err hl he,Option.bind_some,x39_err hl he,Option.bind_some,x40_err hl he,Option.bind_some,x41_err hl he,Option.bind_some,e42,Option.bind_some,e43,Option.bind_some,x44_err hl he,Option.bind_some,x34_err hl he,Option.bind_some]
   simp only [ne_eq,not_true_eq_false,decide_false,Bool.false_eq_true,if_false]
   rw [if_neg (by simp),if_pos (by simpa using he),if_pos (by simp)];rfl
theorem pressMarks_ok (b:Bed) (ps:List (Int×Int)) (M:List Int) (T:Int) {P1 P2 P3:Prop} (_:P1) (_:P2) (_:P3) (h:Fi T) :
  PO 6 [.agg [I b.1,L1 b.2.1,I b.2.2.1,I b.2.2.2],PL ps,L1 M,I T] (B true):=x6_ok (x6_eq b ps M h.2)
end Go.Proofs.YtbnbjjgagikobaaGreat.Ab
