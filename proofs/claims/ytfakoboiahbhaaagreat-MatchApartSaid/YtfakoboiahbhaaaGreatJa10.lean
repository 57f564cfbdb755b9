
import Derived.Test.YtfakoboiahbhaaaGreatJa5
import Derived.KernelRfl
import Derived.Test.YtfakoboiahbhaaaGreatJa6
import Derived.Test.YtfakoboiahbhaaaGreatJa9
import Derived.Test.YtfakoboiahbhaaaGreatProg
set_option linter.unusedSimpArgs false
set_option linter.unusedVariables false
set_option linter.unusedSectionVars false

open Int renaming toNat_natCast→th
open List renaming all_eq_true→sv,append_assoc→sD,append_nil→sW,cons_append→uA,drop_eq_getElem_cons→sQ,drop_zero→sV,exists_mem_of_ne_nil→vN,ext_getElem?→tH,filter_append→uG,filter_cons→tP,find?_eq_none→vm,flatMap_cons→ua,flatten_append→vn,flatten_cons→ub,getD_eq_getElem?_getD→sE,getElem?_append→se,getElem?_eq_none→tx,getElem?_eq_some_iff→sb,getElem?_map→ss,getElem?_set_ne→sj,getElem?_set_self→si,getElem?_take→sR,getElem_append_left→vO,getElem_append_right→vQ,getElem_map→uF,getElem_mem→sI,getElem_of_mem→tY,getElem_set→wm,length_append→sr,length_cons→sM,length_eq_zero_iff→tA,length_filter_le→tQ,length_map→sX,length_nil→uS,length_pos_iff→uH,length_set→tc,length_singleton→tZ,length_take→ta,map_append→s_,map_cons→sG,map_map→tp,map_nil→ui,mem_append→sN,mem_append_left→uW,mem_cons→sq,mem_filter→sP,mem_map→sk,mem_range→sK,mem_reverse→wu,mem_singleton→sO,nil_append→tN,nodup_append→tX,nodup_cons→uc,nodup_range→t_,pairwise_append→uC,pairwise_iff_getElem→ti,pairwise_map→tW,perm_append_comm→wq,perm_ext_iff_of_nodup→uK,range_succ→vj,reverse_perm→vS,set_set→sU,sum_append→wx,sum_cons→vo,take_length→tC,take_of_length_le→tT,take_zero→tj
open Nat renaming le_refl→sd,le_trans→sL,lt_succ_self→su,min_eq_left→tM,zero_add→sS,zero_le→sC
open Option renaming bind_some→sc,map_eq_some_iff→sa
namespace Go.Proofs.YtfakoboiahbhaaaGreat.Ab
open Go
set_option maxRecDepth 20000
set_option maxHeartbeats 4000000
noncomputable def Rb:fT :=
 .loop (some (p_ false [3,1,6,2,8])) (pY [GC 12 [.sl 11,.sl 10] (.bin .lss)] (.seq (.cond (.sl 12) .skip (.exit 0)) (.seq (.block 1 (pY [pZ 13 11,pX 4 13] (qv [pX 14 3,pX 15 4,GC 16 [.Bs 15] (.yu 1 1 [.int .i64 0] [0]),GC 17 [.jf 14,.jf 16] (.app 1 8),pX 3 17]))) (qv [qE 18 11 1,pX 11 18]))))
noncomputable def aag:fT :=
 pY [GC 2 [.lR (.ax [] 0 .full)] (.nil 1)] (pY [GC 3 [.lR (.ax [] 0 .full)] (.nil 1)] (.seq (pY [pX 5 0,GC 6 [.Bs 5] .zX,qF 7 6 0,qF 8 7 1,qc 9 8,qM 10 9,qa 11 0] (.block 0 Rb)) (pY [pX 19 3,pX 2 19] .ret)))
theorem afe:zD Tryz.prog Rx 77=some (aag,20,[.tmp 2]):=by kernel_rfl
def ME (t:qe) (qb:p7→Option p7):Nat→p7→Int→Option p7
 | 0,_,_=>none
 | m+1,s1,s2 =>
   if (decide (s2<(t.2.length:Int)))=true then
    p9 ((s1.length+1)*8≤140737488355328) <|
    ME t qb m (s1++[s2]) (w (s2+(1:Int)))
   else
    qb s1
def O5 (t:qe):Option p7 :=
 ME t (fun yg =>
   some yg) p' ([]:List Int) (0:Int)
theorem ajs {t:qe} {qb:p7→Option p7} {s1:p7} {s2:Int} {v:p7} {Q:rM}   (rI:∀ (yg:p7) (p8:List I),qb yg=some v→rn 20 [(3,(qi yg (.uniq 1)))] p8→Q (.exit 0) p8 []) {T:List I} (bW:eX (p_ false [3,1,6,2,8]) T=Hc 20 [(3,(qi s1 (.uniq 1))),(10,(hU (t.2.length:Int))),(11,(hU s2))]) (h:ME t qb p' s1 s2=some v) :
  dO Tryz.prog Rx 77 0 none Rb T [] Q:=by
 unfold Rb;refine wp_loop bW ?_;refine .intro (fun m T H=>∃ (s1:p7) (s2:Int),T=Hc 20 [(3,(qi s1 (.uniq 1))),(10,(hU (t.2.length:Int))),(11,(hU s2))]∧H=[]∧ME t qb m s1 s2=some v) p' ⟨s1,s2,rfl,rfl,h⟩ ?_;clear h bW;rintro m T H ⟨s1,s2,rfl,rfl,h⟩;cases m
 ·exact ri h
 rename_i m;rw [ME.eq_2] at h;conv=>whnf
 refine bs h (fun gD h=>?_) fun gD h=>?_
 ·rw [gD];conv=>whnf
  obtain ⟨gE,h⟩:=qB h;refine ⟨by first | rfl | simp,by have:=gE;omega,rfl,gE,?_⟩
  erw [LV hU s1 s2];conv=>whnf
  exact ⟨m,su m,(s1++[s2]),(w (s2+(1:Int))),rfl,rfl,h⟩
 ·rw [gD];conv=>whnf
  exact rI _ _ h ⟨rfl,rfl⟩
theorem Zu {t:qe} {v:p7} (h:O5 t=some v):qw 77 [(.bT [(hU t.1),(.ax (t.2.flatMap p2) t.2.length .shared)])] (.ax (v.map hU) v.length .shared):=by
 refine q7 eo afe rfl (rX (fun _=>rfl) _ _ _) fun Q bo=>?_;have jB:qK [.tmp 2] Q (fun v=>(qi v .shared)) v:=fun T H bH=>bo _ T H bH;unfold O5 at h;unfold aag;obtain ⟨HV,qO⟩:∃ c,Rb=c:=⟨_,rfl⟩;rw [qO];conv=>whnf
 subst qO;refine ajs ?_ (by exact rfl) h;intro yg p8 h qm;obtain ⟨rf,rfl⟩:=qm.ex;conv=>whnf
 exact qd h jB rfl rfl

noncomputable def ZZ:fT :=
 pY [GC 1 [.jf 0] .box,GC 2 [.lR (.ax [] 0 .full)] (.nil 1),qa 3 0] (pY [GC 7 [.Bs 1] (.zx (.str 2)),GC 8 [.lR (.func 64 [] []),.sl 7] (.call 3),pX 6 8,rA 9 6 0,GC 10 [.Bs 6] (.ext 1),pX 4 9,pX 5 10] (.seq (pY [pZ 11 5,qq 12 11 0 .neq] (.cond (.sl 12) (pY [pX 13 5,GC 2 [.lR (.ax [] 0 .full)] (.nil 1),pX 3 13] .ret) .skip)) (pY [pZ 14 4,pX 15 4,GC 16 [.lR (.func 77 [] []),.sl 15] (.call 3),GC 17 [.lR (.func 79 [] []),.sl 14,.sl 16] (.call 3),pX 2 17,qa 3 0] .ret)))
theorem aeX:zD Tryz.prog U4 29=some (ZZ,18,[.tmp 2,.tmp 3]):=by kernel_rfl
def O0 (b:qe):Option (r7×Int) :=
 (Jn b).bind fun r1 =>
 match r1 with
 | (none,q1) =>
   if (decide (q1≠(0:Int)))=true then
    some ([],q1)
   else
    none
 | (some bR,q1) =>
   if (decide (q1≠(0:Int)))=true then
    some ([],q1)
   else
    (O5 bR).bind fun r2 =>
    (Ku bR r2).bind fun eI =>
    some (eI,(0:Int))
theorem aja {b:qe} {v:(r7×Int)} (h:O0 b=some v):qw 29 [(.agg [(hU b.1),(.ax (b.2.flatMap p2) b.2.length .shared)])] (.tuple [(.ax (v.1.map oL) v.1.length .shared),(hU v.2)]):=by
 refine q7 eo aeX rfl (Jb (p1 (rX (fun _=>(rX (fun _=>rfl) _ _ _)) _ _ _) (p1 rfl rfl))) fun Q bo=>?_;have jB:qK [.tmp 2,.tmp 3] Q (fun v=>(.tuple [(.ax (v.1.map oL) v.1.length .shared),(hU v.2)])) v:=fun T H bH=>bo _ T H bH;unfold O0 at h;unfold ZZ;conv=>whnf
 obtain ⟨r1,gD,h⟩:=qj h;rcases r1 with ⟨_ | bR,q1⟩
 ·refine ⟨ql.pl,_,J6 gD,?_⟩;conv=>whnf
  refine bs h (fun gE h=>?_) fun gE h=>?_
  ·rw [gE];(conv=>whnf);exact qd h jB rfl rfl
  ·rw [gE];(conv=>whnf);exact ri h
 ·refine ⟨ql.pl,_,J6 gD,?_⟩;conv=>whnf
  refine bs h (fun qo h=>?_) fun qo h=>?_
  ·rw [qo];(conv=>whnf);exact qd h jB rfl rfl
  ·rw [qo];(conv=>whnf);obtain ⟨r2,qS,h⟩:=qj h;refine ⟨ql.pl,_,Zu qS,?_⟩;(conv=>whnf);obtain ⟨eI,qY,h⟩:=qj h;refine ⟨ql.pl,_,Zw qY,?_⟩;(conv=>whnf);exact qd h jB rfl rfl

end Go.Proofs.YtfakoboiahbhaaaGreat.Ab


namespace Go.Proofs.YtfakoboiahbhaaaGreat.Ab
open Go
set_option maxRecDepth 20000
set_option maxHeartbeats 4000000
end Go.Proofs.YtfakoboiahbhaaaGreat.Ab


namespace Go.Proofs.YtfakoboiahbhaaaGreat.Ab
open Go
theorem rq {n:Nat} {x:Int}:x∈upto n↔0≤x∧x<(n:Int):=by
 unfold upto;rw [sk];constructor
 ·rintro ⟨j,aw,rfl⟩;have:=sK.1 aw;omega
 ·rintro ⟨ad,af⟩;exact ⟨x.toNat,sK.2 (by omega),by omega⟩
theorem J4 (n:Nat):(upto n).Nodup:=by
 unfold upto;exact tW.2 (t_.imp fun h e=>h (by omega))
section
variable {b:p5}
theorem rT.acp {f g:Int} (h:rT b (-1) f g):qT b (upto b.2.length) f g:=by
 obtain ⟨n,h⟩:=h
 induction n generalizing g with
 | zero=>rw [show f=g from h];exact .refl
 | succ n a9 =>
   obtain ⟨c,ad,af⟩:=h;obtain ⟨i,hi,_,aG⟩:=af.r3;refine .step (i:Int) (a9 ad) (rq.2 ⟨by omega,by omega⟩) ?_ ?_
   ·rcases aG with ⟨aG,_⟩ | ⟨aG,_⟩
    ·exact .inl aG
    ·exact .inr aG
   ·rcases aG with ⟨_,aG⟩ | ⟨_,aG⟩
    ·exact .inr aG
    ·exact .inl aG
theorem RN {i f g:Int} (hi:i∈upto b.2.length) (ad:qC b i f) (af:qC b i g):rT b (-1) f g:=by
 have hi:=rq.1 hi;obtain ⟨j,rfl⟩:∃ j:Nat,i=(j:Int):=⟨i.toNat,by omega⟩;have he:=Ht.of (b:=b) (wo := -1) (i:=j) (by omega) (by omega);rcases ad with rfl | rfl <;> rcases af with rfl | rfl
 ·exact rT.refl _
 ·exact he.LZ
 ·exact he.symm.LZ
 ·exact rT.refl _
theorem qT.LZ {f g:Int} (h:qT b (upto b.2.length) f g):rT b (-1) f g:=by
 induction h with
 | refl=>exact rT.refl _
 | step i _ hi aC aI a9=>exact a9.trans (RN hi aC aI)
theorem PA (p3:qA b) {i f:Int} (hi:i∈upto b.2.length) (h:qC b i f):0≤f∧f<b.1:=by
 have hi:=rq.1 hi;obtain ⟨j,rfl⟩:∃ j:Nat,i=(j:Int):=⟨i.toNat,by omega⟩;have:=J2 p3 (i:=j) (by omega);rcases h with rfl | rfl <;> omega
structure I0 (key:Int→Int) (i:Nat) (seen:List Int) (out:List (List Int)):Prop where
 len:out.length=seen.length
 r5:seen.Nodup
 par:∀ (j:Nat) (h:j<out.length) (aX:j<seen.length) (x:Int),x∈out[j]↔0≤x∧x<(i:Int)∧key x=seen[j]
 so:∀ r∈out,r.Pairwise (·<·)
 ne:∀ r∈out,r≠[]
 all:∀ x:Int,0≤x→x<(i:Int)→key x∈seen
 a2:out.Pairwise fun x y=>ix x 0<ix y 0
theorem I0.new {key:Int→Int} {i:Nat} {seen:List Int} {out:List (List Int)} (h:I0 key i seen out) (aN:key i ∉ seen):I0 key (i+1) (seen++[key i]) (out++[[(i:Int)]]):=by
 have ao:=h.len;refine ⟨by simp [ao],?_,fun j aw ed x=>?_,fun r aj=>?_,fun r aj=>?_,fun x ad af=>?_,?_⟩
 ·rw [tX];exact ⟨h.r5,by simp,fun a cb c al e=>by simp only [sO] at al;subst al;subst e;exact aN cb⟩
 ·by_cases jJ:j<out.length
  ·rw [vO jJ,vO (by omega),h.par j jJ (by omega) x];constructor
   ·rintro ⟨aC,aI,aR⟩;exact ⟨aC,by omega,aR⟩
   ·rintro ⟨aC,aI,aR⟩;refine ⟨aC,?_,aR⟩
    have:x≠(i:Int):=fun e=>aN (by rw [←e,aR];exact sI _)
    omega
  ·(have e:j=out.length:=by simp at aw;omega);subst e;rw [vQ (by omega),vQ (by omega)];simp only [Nat.sub_self,ao,List.getElem_cons_zero,sO];constructor
   ·rintro rfl;exact ⟨by omega,by omega,rfl⟩
   ·rintro ⟨aC,aI,aR⟩;refine Classical.byContradiction fun ak=>aN ?_;rw [←aR];exact h.all x aC (by omega)
 ·rcases sN.1 aj with aj | aj
  ·exact h.so r aj
  ·simp only [sO] at aj;subst aj;simp
 ·rcases sN.1 aj with aj | aj
  ·exact h.ne r aj
  ·simp only [sO] at aj;subst aj;simp
 ·by_cases ak:x=(i:Int)
  ·subst ak;simp
  ·exact uW _ (h.all x ad (by omega))
 ·refine uC.2 ⟨h.a2,by simp,fun r aj q aZ=>?_⟩;simp only [sO] at aZ;subst aZ;obtain ⟨j,aw,rfl⟩:=tY aj;have:=((h.par j aw (by omega) _).1 (head_mem (h.ne _ aj))).2.1;show ix out[j] 0<(i:Int);exact this
theorem I0.fN {key:Int→Int} {i k:Nat} {seen:List Int} {out:List (List Int)} (h:I0 key i seen out) (av:k<seen.length) (pG:seen[k]=key i):I0 key (i+1) seen (out.set k (out[k]'(by have:=h.len;omega)++[(i:Int)])):=by
 have ao:=h.len;have PW:k<out.length:=by omega
 have bN:=h.ne _ (sI PW);have adH:ix (out[k]++[(i:Int)]) 0=ix out[k] 0:=by
  cases e:out[k] with
  | nil=>exact absurd e bN
  | cons a r=>rfl
 refine ⟨by simpa using ao,h.r5,fun j aw ed x=>?_,fun r aj=>?_,fun r aj=>?_,fun x ad af=>?_,?_⟩
 ·rw [wm];split
  ·rename_i e;subst e;rw [sN,h.par k PW ed x,sO];constructor
   ·rintro (⟨aC,aI,aR⟩ | rfl)
    ·exact ⟨aC,by omega,aR⟩
    ·exact ⟨by omega,by omega,pG.symm⟩
   ·rintro ⟨aC,aI,aR⟩;by_cases ak:x=(i:Int)
    ·exact .inr ak
    ·exact .inl ⟨aC,by omega,aR⟩
  ·rename_i e;rw [h.par j (by simpa using aw) ed x];constructor
   ·rintro ⟨aC,aI,aR⟩;exact ⟨aC,by omega,aR⟩
   ·rintro ⟨aC,aI,aR⟩;refine ⟨aC,?_,aR⟩
    have:x≠(i:Int):=fun ex=>by
     subst ex;exact ti.1 h.r5 |> fun aB=>by
      rcases Nat.lt_or_gt_of_ne e with aS | aS
      ·exact aB k j av ed aS (by rw [pG,aR])
      ·exact aB j k ed av aS (by rw [pG,aR])
    omega
 ·rcases List.mem_or_eq_of_mem_set aj with aj | rfl
  ·exact h.so r aj
  ·refine uC.2 ⟨h.so _ (sI PW),by simp,fun x ak y aY=>?_⟩;simp only [sO] at aY;subst aY;exact ((h.par k PW av x).1 ak).2.1
 ·rcases List.mem_or_eq_of_mem_set aj with aj | rfl
  ·exact h.ne r aj
  ·simp
 ·by_cases ak:x=(i:Int)
  ·subst ak;rw [←pG];exact sI _
  ·exact h.all x ad (by omega)
 ·refine ti.2 fun a c cb al adg=>?_;have aZ:∀ (a:Nat) (cb:a<out.length),ix ((out.set k (out[k]++[(i:Int)]))[a]'(by simpa using cb)) 0=ix out[a] 0:=fun a cb=>by
   rw [wm];split
   ·rename_i e;subst e;exact adH
   ·rfl
  rw [aZ a (by simpa using cb),aZ c (by simpa using al)];exact ti.1 h.a2 a c (by simpa using cb) (by simpa using al) adg
theorem I0.parts (p3:qA b) {N:List Int} (CC:Pk b (-1) N) {seen:List Int} {out:List (List Int)} (h:I0 (fun s=>ix N (ix b.2 s).1) b.2.length seen out):rb b (upto b.2.length) out:=by
 have ao:=h.len;have PX:∀ x∈upto b.2.length,0≤(ix b.2 x).1∧(ix b.2 x).1<b.1:=fun x ak=>PA p3 ak (.inl rfl);have JV:∀ (j:Nat) (aw:j<out.length) (x:Int),x∈out[j]→x∈upto b.2.length:=fun j aw x ak=>by
  have:=(h.par j aw (by omega) x).1 ak;exact rq.2 ⟨this.1,this.2.1⟩
 refine ⟨h.ne,h.so,fun x=>?_,ti.2 fun i j hi aw g3 x ak g'=>?_,fun r aj x ak y aY f g aP aO=>?_,fun r aj q aZ x ak y aY f aP aO=>?_⟩
 ·constructor
  ·intro ak;have nQ:=rq.1 ak;obtain ⟨j,aw,e⟩:=tY (h.all x nQ.1 nQ.2);exact ⟨_,sI (show j<out.length by omega),(h.par j (by omega) aw x).2 ⟨nQ.1,nQ.2,e.symm⟩⟩
  ·rintro ⟨r,aj,ak⟩;obtain ⟨j,aw,rfl⟩:=tY aj;exact JV j aw x ak
 ·have ad:=(h.par i hi (by omega) x).1 ak;have af:=(h.par j aw (by omega) x).1 g';exact ti.1 h.r5 i j (by omega) (by omega) g3 (by rw [←ad.2.2,←af.2.2])
 ·obtain ⟨j,aw,rfl⟩:=tY aj;have ad:=(h.par j aw (by omega) x).1 ak;have af:=(h.par j aw (by omega) y).1 aY;have Ou:=JV j aw x ak;have Ov:=JV j aw y aY;have al:=(CC.iff (PX x Ou) (PX y Ov)).1 (by rw [ad.2.2,af.2.2]);exact ((qT.one Ou aP (.inl rfl)).trans al.acp).trans (qT.one Ov (.inl rfl) aO)
 ·obtain ⟨i,hi,rfl⟩:=tY aj;obtain ⟨j,aw,rfl⟩:=tY aZ;have ad:=(h.par i hi (by omega) x).1 ak;have af:=(h.par j aw (by omega) y).1 aY;have Ou:=JV i hi x ak;have Ov:=JV j aw y aY;have al:rT b (-1) (ix b.2 x).1 (ix b.2 y).1:=(RN Ou (.inl rfl) aP).trans (RN Ov aO (.inl rfl));have e:=(CC.iff (PX x Ou) (PX y Ov)).2 al;have b':seen[i]'(by omega)=seen[j]'(by omega):=by rw [←ad.2.2,←af.2.2];exact e
  have g3:i=j:=by
   refine Classical.byContradiction fun bN=>?_;rcases Nat.lt_or_gt_of_ne bN with aS | aS
   ·exact ti.1 h.r5 i j (by omega) (by omega) aS b'
   ·exact ti.1 h.r5 j i (by omega) (by omega) aS b'.symm
  subst g3;rfl
end
end Go.Proofs.YtfakoboiahbhaaaGreat.Ab


namespace Go.Proofs.YtfakoboiahbhaaaGreat.Ab
open Go
section
variable {b:p5}
theorem I0.few {key:Int→Int} {i:Nat} {seen:List Int} {out:List (List Int)} (h:I0 key i seen out):out.length≤i:=by
 have hm:=Mh (l:=out.map fun r=>ix r 0) (n:=i) (by
  refine tW.2 (h.a2.imp fun Ib e=>by omega)) fun x ak=>by
  obtain ⟨r,aj,rfl⟩:=sk.1 ak;obtain ⟨j,aw,rfl⟩:=tY aj;have:=(h.par j aw (by have:=h.len;omega) _).1 (head_mem (h.ne _ aj));exact ⟨this.1,this.2.1⟩
 simpa using hm
theorem I0.zero {key:Int→Int}:I0 key 0 [] []:=⟨rfl,by simp,fun j h=>absurd h (by simp),fun r aj=>absurd aj (by simp),fun r aj=>absurd aj (by simp),fun x ad af=>by omega,by simp⟩
def parts (b:p5):List (List Int):=(Ku b (upto b.2.length)).getD []
theorem Ml:rD b (upto b.2.length):=fun x ak=>rq.1 ak
theorem J7 (p3:qA b):Ku b (upto b.2.length)=some (parts b)∧rb b (upto b.2.length) (parts b)∧(parts b).Pairwise fun x y=>ix x 0<ix y 0:=by
 obtain ⟨out,ad,af,aG⟩:=Zv (b:=b) (S:=upto b.2.length) p3.len (J4 _) Ml
 have:parts b=out:=by unfold parts;rw [ad];rfl
 rw [this];exact ⟨ad,af,aG⟩
end
end Go.Proofs.YtfakoboiahbhaaaGreat.Ab


namespace Go.Proofs.YtfakoboiahbhaaaGreat.Ab
open Go
noncomputable def S5:fT :=
 .oh true [GC 21 [.sl 3] (.zx .one),pZ 22 4,GC 23 [.Bs 22] (.build [.int .i64 0,.int .i64 0] [(0,1)]),GC 24 [.sl 3] (.zx .one),pZ 25 4,GC 26 [.Bs 25,.lR (.int .i64 1)] (.build [.int .i64 0,.int .i64 0] [(0,1),(1,1)]),⟨none,[.Bs 21,.Bs 23,.lR (.int .i64 1)],none,none,.zM (.str 2)⟩,⟨none,[.Bs 24,.Bs 26,.lR (.int .i64 1)],none,none,.zM (.str 2)⟩]
noncomputable def S8:fT :=
 .block 1 (pY [pZ 20 18,pX 4 20] S5)
noncomputable def Xl:fT :=
 .oh false [GC 84 [.sl 1] (.zx .one),GC 85 [.Bs 10] (.zx (.str 2)),GC 86 [.lR (.func 68 [] []),.sl 84,.sl 85] (.call 3),pX 83 86,rA 87 83 0,GC 88 [.Bs 83] (.ext 1),⟨none,[.sl 7,.jf 87],none,none,.st 1⟩]
noncomputable def S9:fT :=
 pY [pX 79 5,GC 80 [.sl 10] (.zx (.str 2)),GC 81 [.Bs 80] (.yu 1 2 [.int .i64 0,.int .i64 0] [0]),GC 82 [.jf 79,.jf 81] (.yk 2 16),pX 5 82] Xl
noncomputable def S_:fT :=
 pY [GC 74 [.sl 6] (.other (Oper.mk (some 74) (Op.load 25 (Operand.tmp 6)) 25 "table.go:177" (Array.mk []) none) 5), GC 75 [.sl 6] (.zx .one), qM 76 75, qq 77 76 1 .sub, GC 78 [.jf 74, .jf 77] (.Bg 2 false true false), ⟨none, [.sl 6, .jf 78], none, none, .st 1⟩] S9
noncomputable def Ta:fT :=
 pY [GC 68 [.sl 6] (.zx .one),GC 69 [.sl 6] (.zx .one),qM 70 69,qq 71 70 1 .sub,qL 72 68 71 2,GC 73 [.Bs 72] (.zx (.str 2)),GC 10 [] (.alloc [.int .i64 0,.int .i64 0]),⟨none,[.sl 10,.jf 73],none,none,.st 2⟩] S_
noncomputable def Te:fT :=
 .AL (.sl 40) [41] (G9 Go.Proofs.Tryz.prog 104 0) (G_ Go.Proofs.Tryz.prog 104 0)
noncomputable def Tb:fT :=
 .block 3 (.seq (pY [pZ 38 8,GC 39 [.sl 7] (.zx .one),GC 40 [.sl 38,.sl 39] (.call 3)] (.block 4 Te)) (.seq (pY [GC 65 [.sl 6] (.zx .one),qM 66 65,qq 67 66 0 .eql] (.cond (.sl 67) (.exit 2) .skip)) Ta))
noncomputable def Qg:fT :=
 .loop (some (p_ false [1,1,1,1,1,4,83])) Tb
noncomputable def Tc:fT :=
 .block 2 Qg
noncomputable def Td:fT :=
 pY [pZ 89 5, GC 90 [.lR (.func 128 [] []), .jf 89] (.call 1)] (pY [⟨some 91, [.jf 5], none, some 5, .other (Oper.mk (some 91) (Op.move (Operand.tmp 5)) 25 "table.go:182" (Array.mk []) none) 2⟩, pX 2 91] .ret)
noncomputable def S6:fT :=
 pY [GC 28 [.sl 1] (.zx .one),GC 29 [.Bs 28] .zX,qF 30 29 0,qF 31 30 1,qc 32 31,GC 33 [.Bs 32,.lR (.int .i64 0)] (.kQ 2),qF 34 33 0,qc 35 34,GC 7 [] (.alloc [.int .i64 0]),⟨none,[.sl 7,.jf 35],none,none,.st 1⟩] (pY [GC 36 [.sl 1] (.zx .one),GC 37 [.Bs 36] (.zR 89 1 0),pX 8 37] (.seq .skip (.seq Tc Td)))
noncomputable def Qi:fT :=
 .loop (some (p_ false [1,1,1,1,13,2,73])) (pY [GC 19 [.sl 18,.sl 17] (.bin .lss)] (.seq (.cond (.sl 19) .skip (.exit 0)) (.seq S8 (qv [qE 27 18 1,pX 18 27]))))
noncomputable def S7:fT :=
 .seq (pY [GC 12 [.sl 1] (.zx .one),GC 13 [.Bs 12] .zX,qF 14 13 0,qF 15 14 1,qc 16 15,qM 17 16,qa 18 0] (.block 0 Qi)) (pY [GC 5 [.lR (.ax [] 0 .full)] .Bq,GC 6 [] (.alloc [.ax [] 0 .full])] S6)
noncomputable def Xk:fT :=
 pY [GC 1 [.jf 0] .box,GC 2 [.lR (.ax [] 0 .full)] (.nil 2)] (pY [GC 11 [] .zS,GC 3 [] (.alloc [.junk]),⟨none,[.sl 3,.jf 11],none,none,.st 1⟩] S7)
theorem aeC:zD Go.Proofs.Tryz.prog LU 104=some (Xk,92,[.tmp 2]):=by kernel_rfl
noncomputable def Tq:fT :=
 .block 1 (Hi [pZ 14 0,pZ 15 2,pZ 16 0,pZ 17 3,pZ 18 0,pZ 19 3,qL 20 18 19 2,GC 21 [.Bs 20] (.zx (.str 2)),pZ 22 0,pZ 23 2,qL 24 22 23 2,GC 25 [.Bs 24] (.zx (.str 2)),qL 26 14 15 2,⟨none,[.jf 26,.jf 21],none,none,.st 2⟩,qL 27 16 17 2,⟨none,[.jf 27,.jf 25],none,none,.st 2⟩])
noncomputable def Tr:fT :=
 .oh false [pX 10 2,qE 11 10 1,pX 12 3,qq 13 12 1 .sub,pX 2 11,pX 3 13]
noncomputable def Ts:fT :=
 .loop (some (p_ false [0,1,1,2,24])) (.seq (pY [pZ 7 2,pZ 8 3,qI 9 7 8 .lss] (.cond (.sl 9) .skip (.exit 0))) (.seq Tq Tr))
noncomputable def Xo:fT :=
 pY [pZ 4 0,qM 5 4,qq 6 5 1 .sub,qa 2 0,pX 3 6] (.block 0 Ts)
theorem aeF:zD Go.Proofs.Tryz.prog UY 128=some (Xo,28,[]):=by kernel_rfl
noncomputable def OH:fT :=
 pY [qc 60 1,GC 61 [.Bs 9] (.zx (.str 2)),GC 62 [.lR (.func 68 [] []),.sl 60,.sl 61] (.call 3),pX 59 62,rA 63 59 0,GC 64 [.Bs 59] (.ext 1),⟨none,[.jf 7,.jf 64],none,none,.st 1⟩] (.exit 3)
noncomputable def S4:fT :=
 pY [GC 55 [.sl 6] (.other (Oper.mk (some 55) (Op.load 25 (Operand.tmp 6)) 25 "table.go:168" (Array.mk []) none) 5), GC 56 [.sl 9] (.zx (.str 2)), GC 57 [.Bs 56] (.yu 1 2 [.int .i64 0, .int .i64 0] [0]), GC 58 [.jf 55, .jf 57] (.yk 2 16), ⟨none, [.jf 6, .jf 58], none, none, .st 1⟩] OH
noncomputable def Qf:fT :=
 pY [qc 48 3,GC 49 [.sl 9] (.yG 0),qc 50 49,GC 51 [.sl 9] (.yG 1),qc 52 51,GC 53 [.lR (.int .i64 1),.Bs 52] (.bin .sub),GC 54 [.Bs 50,.Bs 53] (.build [.int .i64 0,.int .i64 0] [(0,1),(1,1)]),⟨none,[.jf 48,.jf 54],none,none,.zK (.str 2)⟩] S4
noncomputable def S3:fT :=
 .block 5 (.seq (pY [GC 42 [.sl 3] (.zx .one),GC 43 [.sl 9] (.zx (.str 2)),GC 44 [.Bs 42,.Bs 43] (.zL (.str 2) false (some (.int .i64 0))),qq 45 44 0 .eql] (.cond (.sl 45) (.exit 5) .skip)) (pY [GC 46 [.sl 3] (.zx .one),GC 47 [.sl 9] (.zx (.str 2)),⟨none,[.jf 46,.jf 47],none,none,.zK (.str 2)⟩] Qf))
noncomputable def S2:fT :=
 .oh false [GC 9 [] (.alloc [.int .i64 0,.int .i64 0]),⟨none,[.sl 9,.jf 41],none,none,.st 2⟩]
theorem WJ:eg Tryz.prog LU (G9 Tryz.prog 104 0) 0=some S2:=by kernel_rfl
theorem WK:eg Tryz.prog LU (G_ Tryz.prog 104 0) 0=some S3:=by kernel_rfl
end Go.Proofs.YtfakoboiahbhaaaGreat.Ab


namespace Go.Proofs.YtfakoboiahbhaaaGreat.Ab
open Go
def UF (P:Program) (k:FuncId) (cap:List I) (E:List I):Prop :=
 ∀ (l N:Nat) (rv:Nat→List ar) (R:List ar→Prop) (n:Nat),(∀ i,(rv i).length=N)→l<N→(aN:n<E.length) →
   (∀ (i:Nat) (h:i<n) (Y:List ar),∃ re,Sem P (.yield l) [E[i]'(Nat.lt_trans h aN)] (rv i++Y) 0 (.bool true) (rv (i+1)++re)) →
   (∀ Y:List ar,∃ H',R H'∧Sem P (.yield l) [E[n]] (rv n++Y) 0 (.bool false) H') →
   ∀ Y,∃ H',R H'∧Sem P (.fn k) (.yield l::cap) (rv 0++Y) 0 (.tuple []) H'
theorem ag3 {t:p5} {figure:Int} {v:List (Int×Int)} (h:KZ t figure=some v):UF Tryz.prog 113 [.bT [.bT [hU t.1,.ax (t.2.flatMap p2) t.2.length .shared]],.bT [hU figure]] (v.map fun e1=>.agg [hU e1.1,hU e1.2]):=by
 unfold KZ at h;split at h
 ·rename_i ak;obtain rfl:=Option.some.inj h;intro L N rv R n hlen fp aN aj Oo Y;have al:∀ j,((List.range j).filter (rH t figure)).length=((List.range j).filter (rH t figure)).length:=fun _=>rfl;have adX:n<((List.range (2*t.2.length)).filter (rH t figure)).length:=by simpa [places] using aN
  obtain ⟨M,CB,Sf,PS⟩:∃ M,M<2*t.2.length∧rH t figure M=true∧((List.range M).filter (rH t figure)).length=n:=by
   have hm:=sI adX;obtain ⟨ad,af⟩:=sP.1 hm;(have ad:((List.range (2*t.2.length)).filter (rH t figure))[n]<2*t.2.length:=by simpa using ad);refine ⟨_,ad,af,?_⟩;have aO:=RO _ af ad;have jP:((List.range (2*t.2.length)).filter (rH t figure)).Nodup:=t_.filter _;obtain ⟨aG,a5⟩:=sb.1 aO;exact (List.getElem_inj jP).1 a5
  have nH:∀ a b,a≤b→((List.range a).filter (rH t figure)).length≤((List.range b).filter (rH t figure)).length:=fun a b jD=>by
   obtain ⟨d,rfl⟩:=Nat.exists_eq_add_of_le jD
   induction d with
   | zero=>exact sd _
   | succ d a9=>rw [←Nat.add_assoc,PC];exact sL (a9 (by omega)) (Nat.le_add_right _ _)
  obtain ⟨Z,KK,KJ,hle⟩:=Vr (t:=t) (figure:=figure) (L:=L) hlen al (M:=M) Y fun r P0 ag Y=>by
   have aO:=SN (show r<2*t.2.length by omega) ag;obtain ⟨ad,af⟩:=sb.1 aO;have aS:((List.range r).filter (rH t figure)).length<n:=by
    have:=nH (r+1) M (by omega);rw [PC,if_pos ag,PS] at this;omega
   obtain ⟨re,h⟩:=aj _ aS Y;refine ⟨re,?_⟩;rw [←af];exact h
  obtain ⟨H',jB,ao⟩:=Oo (Z M++[ar.cells (p2 (q9 M))]);have aO:=SN CB Sf;rw [PS] at aO;obtain ⟨ad,af⟩:=sb.1 aO;refine ⟨H',jB,?_⟩;rw [←KK];refine Vs ak hlen al (M:=M) (by omega) KJ (.inr ⟨CB,Sf,?_⟩) (Oz ?_)
  ·rw [PS,←af];exact ao
  ·have e1:=hle M (sd _);have b':=ao.1.1;rw [PS] at e1;rw [KK];refine sL e1 (sL ?_ b');rw [←sD];simp
 ·cases h
theorem agR {α:Type} {P:Program} {A:db} {fn:FuncId} {rl:Option Nat} {k:FuncId} {cap:List I} {t:Nat} {bn:List Nat} {gy cp:Code} {T:List I} {H:List ar} {Q:cz→List I→List ar→Prop} {f:α→I} {L:List α} {id n:Nat} (Ot:UF P k cap (L.map f)) (aN:n<L.length)
  (ay:c3 T t=.func k [] cap)
  (Oq:∀ (i:Nat) (h:i<n) (Y:List ar),∃ re,Sem P (.yield H.length) [f (L[i]'(Nat.lt_trans h aN))] ((H++[.loop .ready none fn (T.map I.view) bn gy cp A])++Y) 0 (.bool true) ((H++[.loop .ready none fn (T.map I.view) bn gy cp A])++re))
  (Oo:∀ (Y:List ar),∃ H',(H'[H.length]?=some (.loop .done (some (.exit id)) fn (T.map I.view) bn gy cp A)∧Q (.exit id) (T.map I.settle) (H'.set H.length .dead))∧Sem P (.yield H.length) [f L[n]] ((H++[.loop .ready none fn (T.map I.view) bn gy cp A])++Y) 0 (.bool false) H')
  (g4:inLoop H rl=true):dO P A fn 0 rl (.AL (.sl t) bn gy cp) T H Q:=by
 show hy T t _;rw [iE,ay]
 obtain ⟨H',⟨dw,Dq⟩,cl⟩:=Ot H.length (H.length+1) (fun _=>H++[.loop .ready none fn (T.map I.view) bn gy cp A]) (fun H'=>H'[H.length]?=some (.loop .done (some (.exit id)) fn (T.map I.view) bn gy cp A)∧Q (.exit id) (T.map I.settle) (H'.set H.length .dead)) n (fun i=>by simp) (by omega) (by simpa using aN) (fun i h Y=>by
  obtain ⟨re,aj⟩:=Oq i h Y;exact ⟨re,by rw [uF];exact aj⟩) (fun Y=>by
  obtain ⟨H',aj,ai⟩:=Oo Y
  exact ⟨H',aj,by rw [uF];exact ai⟩) []
 simp only [sW] at cl;exact ⟨g4,.tuple [],H',.done,some (.exit id),fn,T.map I.view,bn,gy,cp,A,cl,dw,by decide,Dq⟩
def rE (L:List Nat):List (Nat×I×I):=L.map fun r=>(r,.agg (p2 (q9 r)),hU 1)
theorem RM (a b:Nat):gB (.agg (p2 (q9 a))) (.agg (p2 (q9 b)))=some (decide (a=b)):=by
 simp only [gB,p2,q9,dJ,if_true,Option.map_some,Bool.and_true,Option.some.injEq];rw [Bool.eq_iff_iff];simp only [beq_iff_eq,decide_eq_true_eq,Bool.and_eq_true];omega
theorem PE (b:Nat):∀ (L:List Nat) (n:Nat),b ∉ L→fD (.agg (p2 (q9 b))) (rE L) n=some none
 | [],n,_=>rfl
 | a::L,n,h=>by
   simp only [sq,not_or] at h;simp only [rE,sG,fD,RM];rw [decide_eq_false h.1];exact PE b L (n+1) h.2
theorem VT (b:Nat):∀ (L:List Nat) (n:Nat),b∈L→L.Nodup→∃ i,fD (.agg (p2 (q9 b))) (rE L) n=some (some (n+i))∧(∃ e:Nat×I×I,(rE L)[i]?=some e∧e.2.2=hU 1)∧(rE L).eraseIdx i=rE (L.filter fun x=>decide (x≠b))
 | [],n,h,_=>absurd h (by simp)
 | a::L,n,h,aN=>by
   obtain ⟨adY,pJ⟩:=uc.1 aN;by_cases e:b=a
   ·subst e;refine ⟨0,?_,⟨_,rfl,rfl⟩,?_⟩
    ·simp only [rE,sG,fD,RM,decide_true];rfl
    ·rw [List.filter_cons_of_neg (by simp)];rw [List.filter_eq_self.2 (fun x ak=>by simp;intro e;subst e;exact adY ak)];rfl
   ·(have ag:b∈L:=by simpa [e] using h);obtain ⟨i,ad,⟨b',aG,a5⟩,af⟩:=VT b L (n+1) ag pJ;refine ⟨i+1,?_,⟨b',by simpa [rE] using aG,a5⟩,?_⟩
    ·simp only [rE,sG,fD,RM];rw [decide_eq_false e];simp only [rE] at ad;rw [ad];rw [show n+1+i=n+(i+1) by omega]
    ·rw [List.filter_cons_of_pos (by simp;intro cW;exact e cW.symm)];simp only [rE,sG,List.eraseIdx_cons_succ] at af ⊢;rw [af]
theorem VN (L:List Nat) (k:Nat):rE L++[(k,.agg (p2 (q9 k)),hU 1)]=rE (L++[k]):=by
 simp [rE]
end Go.Proofs.YtfakoboiahbhaaaGreat.Ab


namespace Go.Proofs.YtfakoboiahbhaaaGreat.Ab
open Go
set_option maxRecDepth 20000
set_option maxHeartbeats 4000000
def T3 (l:List (Int×Int)) (i:Nat):List (Int×Int):=l.take i++(l.drop i).reverse
def Iw (g:List (Int×Int)) (off t:Nat):List (Int×Int):=(List.range g.length).map fun x=>if off≤x∧(x-off<t∨g.length-t≤x) then g.getD (off+g.length-1-x) (0,0) else g.getD x (0,0)
theorem Mj (g:List (Int×Int)) (off t:Nat):(Iw g off t).length=g.length:=by simp [Iw]
theorem Nm (g:List (Int×Int)) (off t x:Nat) (h:x<g.length):(Iw g off t)[x]?=some (if off≤x∧(x-off<t∨g.length-t≤x) then g.getD (off+g.length-1-x) (0,0) else g.getD x (0,0)):=by
 simp [Iw,h]
theorem agQ (g:List (Int×Int)) (off:Nat):Iw g off 0=g:=by
 apply tH;intro x;by_cases h:x<g.length
 ·rw [Nm g off 0 x h,if_neg (by omega)];simp [h,sE]
 ·rw [tx (by rw [Mj];omega),tx (by omega)]
theorem agP (g:List (Int×Int)) (off t:Nat) (ay:off+t<g.length-1-t):((Iw g off t).set (off+t) (g.getD (g.length-1-t) (0,0))).set (g.length-1-t) (g.getD (off+t) (0,0))=Iw g off (t+1):=by
 apply tH;intro x;by_cases h:x<g.length
 ·rw [Nm g off (t+1) x h];by_cases ad:x=g.length-1-t
  ·subst ad;rw [si (by rw [tc,Mj];omega),if_pos (by omega)];congr 2;omega
  ·rw [sj (by omega)];by_cases af:x=off+t
   ·subst af;rw [si (by rw [Mj];omega),if_pos (by omega)];congr 2;omega
   ·rw [sj (by omega),Nm g off t x h];by_cases aG:off≤x∧(x-off<t∨g.length-t≤x)
    ·rw [if_pos aG,if_pos (by omega)]
    ·rw [if_neg aG,if_neg (by omega)]
 ·rw [tx (by simp [Mj];omega),tx (by rw [Mj];omega)]
theorem agO (g:List (Int×Int)) (off t:Nat) (aq:off≤g.length) (ay:g.length-1-t≤off+t):Iw g off t=T3 g off:=by
 apply tH;intro x;unfold T3;by_cases h:x<g.length
 ·rw [Nm g off t x h];by_cases ad:x<off
  ·rw [if_neg (by omega),List.getElem?_append_left (by simp;omega),sR,if_pos ad];simp [h,sE]
  ·rw [List.getElem?_append_right (by simp;omega),ta,tM aq,List.getElem?_reverse (by simp;omega),List.getElem?_drop,List.length_drop];(have e:off+(g.length-off-1-(x-off))=off+g.length-1-x:=by omega);rw [e];(have ao:off+g.length-1-x<g.length:=by omega);by_cases aG:off≤x∧(x-off<t∨g.length-t≤x)
   ·rw [if_pos aG];simp [ao,sE]
   ·rw [if_neg aG]
    have:x=off+g.length-1-x:=by omega
    rw [←this];simp [h,sE]
 ·rw [tx (by rw [Mj];omega),tx (by simp;omega)]
theorem Qa:∀ (l:List (Int×Int)) (i:Nat),i<l.length→(l.flatMap p2)[i*2]?=some (hU (l.getD i (0,0)).1)∧(l.flatMap p2)[i*2+1]?=some (hU (l.getD i (0,0)).2)
 | [],i,h=>absurd h (by simp)
 | p::l,0,_=>⟨rfl,rfl⟩
 | p::l,i+1,h=>by
   have:=Qa l i (by simpa using h);rw [ua,show (i+1)*2=(i*2)+2 by omega];simpa [p2] using this
theorem SR:∀ (l:List (Int×Int)) (i:Nat) (x:Int×Int),i<l.length→((l.flatMap p2).set (i*2) (hU x.1)).set (i*2+1) (hU x.2)=(l.set i x).flatMap p2
 | [],i,_,h=>absurd h (by simp)
 | p::l,0,x,_=>rfl
 | p::l,i+1,x,h=>by
   have:=SR l i x (by simpa using h);rw [ua,show (i+1)*2=(i*2)+2 by omega,show i*2+2+1=(i*2+1)+2 by omega];simp only [p2,uA,tN,List.set_cons_succ,ua];rw [this]
theorem JX (l:List (Int×Int)):(l.flatMap p2).length=l.length*2:=Im p2 2 qy l
theorem agN (g:List (Int×Int)) (aU:0<g.length) (aO:g.length≤1000000) {H:List ar} {id lo RV:Nat} (bB:lo≤id) (ah:H[id]?=some (.grow (g.flatMap p2) RV 2)) :
  Sem Go.Proofs.Tryz.prog (.fn 128) [.ref id 0 g.length none 2] H lo (.tuple []) (H.set id (.grow (g.reverse.flatMap p2) RV 2)):=by
 have aE:=(sb.1 ah).1;refine HC eo aeF rfl ⟨by simp,fun j ad af=>by rw [sj (by omega)]⟩ fun Q bo=>?_;unfold Xo;obtain ⟨RE,I6⟩:∃ c,Ts=c:=⟨_,rfl⟩;rw [I6];conv=>whnf
 rw [show IntKind.i64.wrap ((g.length:Int)-1)=((g.length-1:Nat):Int) by rw [IB _ (by omega) (by omega)];omega];have ag:Nat.ble lo id=true:=Nat.ble_eq_true_of_le bB;have gs:∀ c:ar,(H.set id c)[id]?=some c:=fun c=>by rw [si aE]
 subst I6;unfold Ts;obtain ⟨a_,ca⟩:∃ c,Tq=c:=⟨_,rfl⟩;obtain ⟨ba,b5⟩:∃ c,Tr=c:=⟨_,rfl⟩;rw [ca,b5];refine wp_loop rfl ?_;refine .intro (fun m T H'=>∃ t,2*t≤g.length∧m=g.length-t∧T=Hc 28 [(0,.ref id 0 g.length none 2),(2,hU t),(3,hU (g.length-1-t:Nat))]∧H'=H.set id (.grow ((Iw g 0 t).flatMap p2) RV 2)) g.length ⟨0,by omega,rfl,rfl,?_⟩ ?_
 ·rw [agQ];obtain ⟨ad,af⟩:=sb.1 ah;rw [←af,List.set_getElem_self]
 rintro m T H' ⟨t,ay,rfl,rfl,rfl⟩;conv=>whnf
 refine I4 (fun h=>?_) (fun h=>?_)
 ·have b':0+((g.length-1-t:Nat):Int).toNat*2=(g.length-1-t)*2:=by omega
  have du:0+(t:Int).toNat*2=t*2:=by omega
  have ao:=Mj g 0 t;have RT:=Qa (Iw g 0 t) (g.length-1-t) (by omega);have RU:=Qa (Iw g 0 t) t (by omega);have v1:(Iw g 0 t).getD (g.length-1-t) (0,0)=g.getD (g.length-1-t) (0,0):=by
   rw [sE,Nm g 0 t _ (by omega),if_neg (by omega)];rfl
  have v2:(Iw g 0 t).getD t (0,0)=g.getD t (0,0):=by
   rw [sE,Nm g 0 t _ (by omega),if_neg (by omega)];rfl
  rw [v1] at RT;rw [v2] at RU;conv=>whnf
  subst ca;unfold Tq;refine IW fun m' Hv=>?_;conv=>whnf
  refine ⟨by omega,?_⟩;conv=>whnf
  refine Es (gs _) ?_;conv=>whnf
  refine Es (by rw [b'];exact RT.1) ?_;conv=>whnf
  refine Es (by rw [b'];exact RT.2) ?_;conv=>whnf
  refine ⟨by omega,?_⟩;conv=>whnf
  refine Es (gs _) ?_;conv=>whnf
  refine Es (by rw [du];exact RU.1) ?_;conv=>whnf
  refine Es (by rw [du];exact RU.2) ?_;conv=>whnf
  refine ⟨by omega,?_⟩;conv=>whnf
  rw [ag];conv=>whnf
  refine Es (gs _) ?_;conv=>whnf
  refine Bu (by rw [JX];omega) ?_;conv=>whnf
  refine Bu (by rw [tc,JX];omega) ?_;conv=>whnf
  refine ⟨by omega,?_⟩;conv=>whnf
  rw [ag];conv=>whnf
  rw [sU];refine Es (gs _) ?_;conv=>whnf
  refine Bu (by rw [tc,tc,JX];omega) ?_;conv=>whnf
  refine Bu (by rw [tc,tc,tc,JX];omega) ?_;conv=>whnf
  rw [sU,b',du];refine Hv _ _ _ ?_;conv=>whnf
  subst b5;unfold Tr;conv=>whnf
  refine ⟨g.length-(t+1),by omega,t+1,by omega,rfl,?_,?_⟩
  ·rw [←Ho t (by omega),show ((g.length-1-(t+1):Nat):Int)=IntKind.i64.wrap (((g.length-1-t:Nat):Int)-1) by rw [IB _ (by omega) (by omega)];omega];rfl
  ·have ai:=agP g 0 t (by omega);rw [sS] at ai;rw [←ai,←SR _ _ _ (by rw [tc];omega),←SR _ _ _ (by omega)];rfl
 ·conv=>whnf
  have e:Iw g 0 t=g.reverse:=by
   rw [agO g 0 t (by omega) (by omega),T3];simp
  rw [e];exact bo _ _ _ ⟨.inl rfl,⟨by simp,fun j o aw=>.inr aw⟩,rfl⟩

def r6 (p:Int×Int):Nat:=(2*p.1+p.2).toNat
theorem Xc {p:Int×Int} (ad:0≤p.1) (af:0≤p.2∧p.2≤1):q9 (r6 p)=p:=by
 unfold q9 r6;exact Prod.ext (by simp only;omega) (by simp only;omega)
def M6 (L:List Nat) (p:Int×Int):Bool:=decide (r6 p∈L)
def HW (L:List Nat) (p:Int×Int):List Nat:=L.filter fun x=>decide (x≠r6 p)
def JI (L:List Nat) (p:Int×Int):List Nat:=HW (HW L p) (p.1,1-p.2)
structure rQ (t:p5) (L:List Nat) (way out:List (Int×Int)) (a:Int) (rm v5:I) (x y:Nat) (H:List ar):Prop where
 r5:L.Nodup
 aU:H[0]?=some (IA t)
 ad:∃ HI,H[1]?=some (.map (rE L) HI)
 af:H[2]?=some (.cells [.map 1])
 aG:H[3]?=some (.cells [rm])
 a5:H[4]?=some (.cells [hU a])
 hw:(way=[]∧rm=.ax [] 0 .full)∨(rm=.ck x (x+1) way.length 2∧4<x∧∃ cs,H[x]?=some (.grow cs (x+1) 2)∧way.length*2≤cs.length∧cs.take (way.length*2)=way.flatMap p2)
 aq:(out=[]∧v5=.ax [] 0 .full)∨(v5=.ck y (y+1) out.length 2∧4<y∧H[y]?=some (.grow (out.flatMap p2) (y+1) 2))
 ne:x≠y
 Kh:x<H.length
 Ki:y<H.length
 JJ:x=0∨4<x
 Jq:y=2∨4<y
theorem rQ.len {t:p5} {L:List Nat} {way out:List (Int×Int)} {a:Int} {rm v5:I} {x y:Nat} {H:List ar} (h:rQ t L way out a rm v5 x y H):4<H.length:=(sb.1 h.a5).1
theorem rQ.more {t:p5} {L:List Nat} {way out:List (Int×Int)} {a:Int} {rm v5:I} {x y:Nat} {H:List ar} (h:rQ t L way out a rm v5 x y H) (Z:List ar):rQ t L way out a rm v5 x y (H++Z):=by
 obtain ⟨r5,aU,⟨HI,ad⟩,af,aG,a5,hw,aq,ne,Kh,Ki,JJ,Jq⟩:=h;refine ⟨r5,qU aU,⟨HI,qU ad⟩,qU af,qU aG,qU a5,?_,?_,ne,by simp;omega,by simp;omega,JJ,Jq⟩
 ·rcases hw with hw | ⟨bG,bX,cs,rZ,JB⟩
  ·exact .inl hw
  ·exact .inr ⟨bG,bX,cs,qU rZ,JB⟩
 ·rcases aq with aq | ⟨bG,bX,rZ⟩
  ·exact .inl aq
  ·exact .inr ⟨bG,bX,qU rZ⟩
theorem rQ.ag9 {t:p5} {L:List Nat} {way out:List (Int×Int)} {a:Int} {rm v5:I} {x y j:Nat} {H:List ar} {c:ar} (h:rQ t L way out a rm v5 x y H) (aj8:4<j) (ak:j≠x) (aY:j≠y):rQ t L way out a rm v5 x y (H.set j c):=by
 obtain ⟨r5,aU,⟨HI,ad⟩,af,aG,a5,hw,aq,ne,Kh,Ki,JJ,Jq⟩:=h;refine ⟨r5,qH aU (by omega),⟨HI,qH ad (by omega)⟩,qH af (by omega),qH aG (by omega),qH a5 (by omega),?_,?_,ne,by simpa using Kh,by simpa using Ki,JJ,Jq⟩
 ·rcases hw with hw | ⟨bG,bX,cs,rZ,JB⟩
  ·exact .inl hw
  ·exact .inr ⟨bG,bX,cs,qH rZ ak,JB⟩
 ·rcases aq with aq | ⟨bG,bX,rZ⟩
  ·exact .inl aq
  ·exact .inr ⟨bG,bX,qH rZ aY⟩
theorem KH {H:List ar} {j:Nat} {c:ar} (h:j<H.length):(H.set j c)[j]?=some c:=si h
theorem rQ.map {t:p5} {L ir:List Nat} {way out:List (Int×Int)} {a:Int} {rm v5:I} {x y HI:Nat} {H:List ar} (h:rQ t L way out a rm v5 x y H) (aN:ir.Nodup):rQ t ir way out a rm v5 x y (H.set 1 (.map (rE ir) HI)):=by
 have ao:=h.len;obtain ⟨r5,aU,_,af,aG,a5,hw,aq,ne,Kh,Ki,JJ,Jq⟩:=h;refine ⟨aN,qH aU (by omega),⟨HI,KH (by omega)⟩,qH af (by omega),qH aG (by omega),qH a5 (by omega),?_,?_,ne,by simpa using Kh,by simpa using Ki,JJ,Jq⟩
 ·rcases hw with hw | ⟨bG,bX,cs,rZ,JB⟩
  ·exact .inl hw
  ·exact .inr ⟨bG,bX,cs,qH rZ (by omega),JB⟩
 ·rcases aq with aq | ⟨bG,bX,rZ⟩
  ·exact .inl aq
  ·exact .inr ⟨bG,bX,qH rZ (by omega)⟩
theorem WE {P:Program} {C:b7} {lo id:Nat} {o:Oper} {t e:TypeId} {x:Operand} {H:List ar} {v:I} (aq:o.op=.load t x) (ay:P.underlying t=some (.slice e)) (ah:H[id]?=some (.cells [v])) (ae:v=.ax [] 0 .full∨∃ i g n z,v=.ck i g n z) :
  a4 P C lo o 5 [.ptr id 0] H=some (v,H):=by
 unfold a4;rw [aq];show dM P lo 5 t H [.ptr id 0]=_;unfold dM;simp only [ay,ah];rcases ae with rfl | ⟨i,g,n,z,rfl⟩ <;> rfl

abbrev agL (t:p5) (a:Int) (v5:I):List I:=(Hc 92 [(1,.ptr 0 0),(3,.ptr 2 0),(5,v5),(6,.ptr 3 0),(7,.ptr 4 0),(8,.func 89 [Iz t] []),(38,.func 89 [Iz t] []),(39,hU a),(40,.func 113 [] [.bT [Iz t],.bT [hU a]])]).map I.view
noncomputable abbrev Iv (t:p5) (a:Int) (v5:I) (st:LoopState) (afO:Option Code):ar:=.loop st afO 104 (agL t a v5) [41] (G9 Tryz.prog 104 0) (G_ Tryz.prog 104 0) LU
section
variable {t:p5} {L:List Nat} {way out:List (Int×Int)} {a:Int} {rm v5:I} {x y:Nat} {H:List ar} {p:Int×Int}
theorem acQ (fI:0≤p.1) (jT:0≤p.2∧p.2≤1) (g4:r6 p ∉ L):fD (.agg [hU p.1,hU p.2]) (rE L) 0=some none:=by
 have:=PE (r6 p) L 0 g4;rw [Xc fI jT] at this;exact this
theorem VV (fI:0≤p.1) (jT:0≤p.2∧p.2≤1) (g4:r6 p∈L) (aN:L.Nodup):∃ i,fD (.agg [hU p.1,hU p.2]) (rE L) 0=some (some i)∧(∃ e:Nat×I×I,(rE L)[i]?=some e∧e.2.2=hU 1)∧(rE L).eraseIdx i=rE (HW L p):=by
 obtain ⟨i,ad,af,aG⟩:=VT (r6 p) L 0 g4 aN;rw [Xc fI jT,sS] at ad;exact ⟨i,ad,af,aG⟩
theorem XA (cl:rQ t L way out a rm v5 x y H) (fI:0≤p.1) (jT:0≤p.2∧p.2≤1) (g4:r6 p ∉ L) (Y:List ar) :
  ∃ re,Sem Tryz.prog (.yield H.length) [.agg (p2 p)] ((H++[Iv t a v5 .ready none])++Y) 0 (.bool true) ((H++[Iv t a v5 .ready none])++re):=by
 refine ⟨Y++[.dead],XL eo WJ WK (N' _ _ _) rfl (Oz (by simp)) ?_⟩;obtain ⟨HI,ad⟩:=cl.ad;unfold S2;conv=>whnf
 refine Es (x:=ar.cells [(hU (0:Int)),(hU (0:Int))]) (by first | exact qn.h | rfl | (simp [se,I.settle];done)) ?_
 conv=>whnf
 rw [rK];refine ⟨rfl,KG _ _ _ _,?_⟩;rw [Mk];unfold S3;obtain ⟨br,en⟩:∃ c,Qf=c:=⟨_,rfl⟩;rw [en];conv=>whnf
 refine Es (qU (qU (qU cl.af))) ?_;conv=>whnf
 refine Es (x:=ar.cells [hU p.1,hU p.2]) (by first | exact qn.h | rfl | (simp [se,I.settle];done)) ?_
 conv=>whnf
 refine ⟨rfl,_,_,qU (qU (qU ad)),none,acQ fI jT g4,?_⟩;conv=>whnf
 refine ⟨_,rfl,?_⟩;conv=>whnf
 show _∧(((H++[Iv t a v5 .busy none])++Y)++[_])[H.length]?=_∧lB ((((H++[Iv t a v5 .busy none])++Y)++[_]).set H.length _) _;exact ⟨rfl,KG _ _ _ _,by rw [Mk];exact PB _ _ _ _⟩
theorem Px (aN:L.Nodup):(HW L p).Nodup:=aN.filter _
theorem rQ.push {G:List ar} {cells:List I} (cl:rQ t L way out a rm v5 x y G) (al:cells=(way++[p]).flatMap p2) {b:Int} {D:List ar} (qZ:D=G∨(D=G.set x .dead∧4<x)) :
  rQ t L (way++[p]) out b (.ck G.length (G.length+1) (way.length+1) 2) v5 G.length y (((D++[ar.grow cells (G.length+1) 2,ar.dead]).set 3 (ar.cells [.ck G.length (G.length+1) (way.length+1) 2])).set 4 (ar.cells [hU b])):=by
 subst al;have ao:=cl.len;have PL:D.length=G.length:=by rcases qZ with rfl | ⟨rfl,_⟩ <;> simp
 obtain ⟨r5,aU,⟨HI,ad⟩,af,aG,a5,hw,aq,ne,Kh,Ki,JJ,Jq⟩:=cl;have Oc:∀ (j:Nat) (o:ar),j≠x∨D=G→G[j]?=some o→D[j]?=some o:=fun j o aw h=>by
  rcases qZ with rfl | ⟨rfl,_⟩
  ·exact h
  ·rcases aw with aw | aw
   ·exact qH h (Ne.symm aw)
   ·rw [aw];exact h
 have L4:∀ j:Nat,j≤4→j≠x∨D=G:=fun j aw=>by
  rcases qZ with h | ⟨_,h⟩
  ·exact .inr h
  ·exact .inl (by omega)
 refine ⟨r5,?_,⟨HI,?_⟩,?_,?_,?_,?_,?_,?_,?_,?_,.inr (by omega),Jq⟩
 ·exact qH (qH (qU (Oc 0 _ (L4 0 (by omega)) aU)) (by omega)) (by omega)
 ·exact qH (qH (qU (Oc 1 _ (L4 1 (by omega)) ad)) (by omega)) (by omega)
 ·exact qH (qH (qU (Oc 2 _ (L4 2 (by omega)) af)) (by omega)) (by omega)
 ·exact qH (KH (by simp;omega)) (by omega)
 ·exact KH (by simp;omega)
 ·refine .inr ⟨by simp,by omega,(way++[p]).flatMap p2,?_,by rw [JX];exact sd _,tT (by rw [JX];exact sd _)⟩;rw [←PL];exact qH (qH (MX _ _) (by omega)) (by omega)
 ·rcases aq with aq | ⟨bG,bX,rZ⟩
  ·exact .inl aq
  ·exact .inr ⟨bG,bX,qH (qH (qU (Oc y _ (.inl (Ne.symm ne)) rZ)) (by omega)) (by omega)⟩
 ·omega
 ·simp;omega
 ·simp;omega
theorem agW (cl:rQ t L way out a rm v5 x y H) (fI:0≤p.1∧p.1<(t.2.length:Int)) (jT:0≤p.2∧p.2≤1) (g4:r6 p∈L) (So:r6 (p.1,1-p.2)∈HW L p) (Sv:way.length≤1000) (Y:List ar) :
  ∃ H',Sem Tryz.prog (.yield H.length) [.agg (p2 p)] ((H++[Iv t a v5 .ready none])++Y) 0 (.bool false) H' ∧
    H'[H.length]?=some (Iv t a v5 .done (some (.exit 3)))∧∃ T9 oG,rQ t (JI L p) (way++[p]) out (fin t p) T9 v5 oG y (H'.set H.length .dead):=by
 have adR:=cl.len;have ake:=cl.JJ;have adD:=cl.Jq;have adT:=cl.Kh;have adU:=cl.Ki;obtain ⟨HI,hm⟩:=cl.ad;obtain ⟨i1,f1,⟨e1,b',du⟩,f3⟩:=VV fI.1 jT g4 cl.r5;obtain ⟨i2,f4,_,f5⟩:=VV (p:=(p.1,1-p.2)) fI.1 (by simp only;omega) So (Px cl.r5);have zm:IntKind.i64.wrap (1-p.2)=1-p.2:=IB _ (by omega) (by omega);obtain ⟨J_,MZ⟩:∃ J_,J_=(H++[Iv t a v5 .busy none])++Y++[ar.cells [hU p.1,hU p.2]]:=⟨_,rfl⟩;have JM:rQ t L way out a rm v5 x y J_:=by rw [MZ];exact ((cl.more _).more _).more _
 have akj:J_.length=H.length+1+Y.length+1:=by rw [MZ];simp;omega
 have cM:J_[((H++[Iv t a v5 .ready none])++Y).length]?=some (.cells [hU p.1,hU p.2]):=by rw [MZ];simp [se]
 have ag:J_[H.length]?=some (Iv t a v5 .busy none):=by rw [MZ];exact KG _ _ _ _
 obtain ⟨B8,Sg⟩:∃ B8,B8=((H++[Iv t a v5 .ready none])++Y).length:=⟨_,rfl⟩;have akb:B8=H.length+1+Y.length:=by rw [Sg];simp;omega
 have GX:J_[1]?=some (.map (rE L) HI):=by rw [MZ];exact qU (qU (qU hm))
 rw [←Sg] at cM;obtain ⟨H5,Jt⟩:∃ H5,H5=J_.set 1 (.map (rE (HW L p)) HI):=⟨_,rfl⟩;have pd:rQ t (HW L p) way out a rm v5 x y H5:=by rw [Jt];exact JM.map (Px cl.r5)
 have adV:H5[1]?=some (.map (rE (HW L p)) HI):=by rw [Jt];exact KH (by omega)
 have R3:H5[B8]?=some (.cells [hU p.1,hU p.2]):=by rw [Jt];exact qH cM (by omega)
 have gD:H5[H.length]?=some (Iv t a v5 .busy none):=by rw [Jt];exact qH ag (by omega)
 obtain ⟨rh,Ir⟩:∃ rh,rh=H5.set 1 (.map (rE (JI L p)) HI):=⟨_,rfl⟩;have JN:rQ t (JI L p) way out a rm v5 x y rh:=by rw [Ir];exact pd.map (Px (Px cl.r5))
 have PI:rh[B8]?=some (.cells [hU p.1,hU p.2]):=by rw [Ir];exact qH R3 (by omega)
 have gE:rh[H.length]?=some (Iv t a v5 .busy none):=by rw [Ir];exact qH gD (by omega)
 have gb:rh.length=J_.length:=by rw [Ir,Jt];simp
 obtain ⟨D,qZ,cells,CN,DF⟩:∃ D:List ar,(D=rh∨(D=rh.set x .dead∧4<x))∧∃ cells:List I,cells=(way++[p]).flatMap p2 ∧
   ((rm=.ax [] 0 .full∧way=[]∧D=rh∧cells=p2 p)∨(rm=.ck x (x+1) way.length 2∧D=rh.set x .dead∧∃ cs,rh[x]?=some (.grow cs (x+1) 2)∧((cs.length=way.length*2∧cells=cs++p2 p)∨(way.length*2<cs.length∧cells=cs.take (way.length*2)++p2 p)))):=by
  rcases JN.hw with ⟨bG,bX⟩ | ⟨bG,bX,cs,rZ,JB,Nv⟩
  ·exact ⟨rh,.inl rfl,p2 p,by rw [bG];simp,.inl ⟨bX,bG,rfl,rfl⟩⟩
  ·refine ⟨rh.set x .dead,.inr ⟨rfl,bX⟩,cs.take (way.length*2)++p2 p,by rw [Nv];simp,.inr ⟨bG,rfl,cs,rZ,?_⟩⟩;rcases Nat.lt_or_ge (way.length*2) cs.length with h | h
   ·exact .inr ⟨h,rfl⟩
   ·exact .inl ⟨by omega,by rw [tT (by omega)]⟩
 have We:=JN.push (b:=fin t p) CN qZ;have PL:D.length=rh.length:=by rcases qZ with rfl | ⟨rfl,_⟩ <;> simp
 have Wa:∀ (j:Nat) (o:ar),j≠x→rh[j]?=some o→D[j]?=some o:=fun j o aw h=>by
  rcases qZ with rfl | ⟨rfl,_⟩
  ·exact h
  ·exact qH h (Ne.symm aw)
 have L4:∀ (j:Nat) (o:ar),j≤4→rh[j]?=some o→D[j]?=some o:=fun j o aw h=>by
  rcases qZ with rfl | ⟨rfl,a5⟩
  ·exact h
  ·exact qH h (by omega)
 obtain ⟨NP,HO⟩:∃ NP,NP=D++[ar.grow cells (rh.length+1) 2,ar.dead]:=⟨_,rfl⟩;obtain ⟨Ky,JL⟩:∃ Ky,Ky=NP.set 3 (ar.cells [.ck rh.length (rh.length+1) (way.length+1) 2]):=⟨_,rfl⟩;rw [←HO,←JL] at We;have R4:Ky[B8]?=some (.cells [hU p.1,hU p.2]):=by rw [JL,HO];exact qH (qU (Wa _ _ (by omega) PI)) (by omega)
 have RW:Ky[0]?=some (IA t):=by rw [JL,HO];exact qH (qU (L4 0 _ (by omega) JN.aU)) (by omega)
 have R1:Ky[4]?=some (.cells [hU a]):=by rw [JL,HO];exact qH (qU (L4 4 _ (by omega) JN.a5)) (by omega)
 have aki:4<NP.length:=by rw [HO];simp;omega
 have R0:NP[3]?=some (.cells [rm]):=by rw [HO];exact qU (L4 3 _ (by omega) JN.aG)
 have qS:(Ky.set 4 (ar.cells [hU (fin t p)]))[H.length]?=some (Iv t a v5 .busy none):=by rw [JL,HO];exact qH (qH (qU (Wa _ _ (by omega) gE)) (by omega)) (by omega)
 have adS:H.length<(Ky.set 4 (ar.cells [hU (fin t p)])).length:=by rw [JL,HO];simp;omega
 refine ⟨(Ky.set 4 (ar.cells [hU (fin t p)])).set H.length (Iv t a v5 .done (some (.exit 3))),?_,KH adS,?_⟩
 ·refine ag7 (id:=3) eo WJ WK (N' _ _ _) rfl (Oz ?_) ?_
  ·rw [tc,tc,JL,HO,tc];simp;omega
  unfold S2;conv=>whnf
  refine Es (x:=ar.cells [(hU (0:Int)),(hU (0:Int))]) (by first | exact qn.h | rfl | (simp [se,I.settle];done)) ?_
  conv=>whnf
  rw [rK];refine ⟨rfl,KG _ _ _ _,?_⟩;rw [Mk];unfold S3;obtain ⟨br,en⟩:∃ c,Qf=c:=⟨_,rfl⟩;rw [en,←Sg];erw [←MZ];conv=>whnf
  refine Es JM.af ?_;conv=>whnf
  refine Es cM ?_;conv=>whnf
  refine ⟨rfl,_,_,GX,some i1,f1,?_⟩;conv=>whnf
  refine ⟨e1,b',?_⟩;rw [du];conv=>whnf
  refine Es JM.af ?_;conv=>whnf
  refine Es cM ?_;conv=>whnf
  refine ⟨rfl,_,_,GX,some i1,f1,?_⟩;conv=>whnf
  rw [f3,←Jt];conv=>whnf
  subst en;unfold Qf;obtain ⟨ba,b5⟩:∃ c,S4=c:=⟨_,rfl⟩;rw [b5];conv=>whnf
  refine Es pd.af ?_;conv=>whnf
  refine Es R3 ?_;conv=>whnf
  refine Es R3 ?_;conv=>whnf
  rw [zm];refine ⟨rfl,_,_,adV,some i2,f4,?_⟩;conv=>whnf
  erw [f5,←Ir];conv=>whnf
  subst b5;unfold S4;obtain ⟨a_,ca⟩:∃ c,OH=c:=⟨_,rfl⟩;rw [ca];conv=>whnf
  have aef:rm=.ax [] 0 .full∨∃ i g n z,rm=.ck i g n z:=by
   rcases DF with ⟨h,_⟩ | ⟨h,_⟩
   ·exact .inl h
   ·exact .inr ⟨_,_,_,_,h⟩
  refine ⟨_,_,fun C=>WE rfl (e:=65) (by kernel_rfl) JN.aG aef,?_⟩;rcases DF with ⟨rfl,rfl,rfl,rfl⟩ | ⟨rfl,rfl,cs,ak,⟨ad,rfl⟩ | ⟨ad,rfl⟩⟩
  ·(conv=>whnf);refine Es PI ?_;(conv=>whnf);refine ⟨⟨rfl,by decide⟩,?_⟩;(conv=>whnf);refine ⟨⟨by decide,by decide,rfl⟩,?_⟩;erw [←HO];(conv=>whnf);refine Es R0 ?_;(conv=>whnf);erw [←JL];(conv=>whnf);subst ca;unfold OH;(conv=>whnf);refine Es RW ?_;(conv=>whnf);refine Es R4 ?_;(conv=>whnf);refine ⟨(p1 (rj (p1 rfl (p1 (q8 (fun _=>(p1 rfl (p1 rfl rfl))) _ _ _) rfl))) (p1 (JY (p1 rfl (p1 rfl rfl))) rfl)),_,Ks (Kr fI),?_⟩;(conv=>whnf);refine Es R1 ?_;(conv=>whnf);exact ⟨rfl,qS,lB.refl _⟩
  ·(conv=>whnf);refine Es PI ?_;(conv=>whnf);refine ⟨⟨rfl,by decide⟩,?_⟩;(conv=>whnf);refine Es ak ?_;(conv=>whnf);refine .inl ⟨⟨rfl,rfl,rfl,ad,by decide,by omega⟩,?_⟩;erw [←HO];(conv=>whnf);refine Es R0 ?_;(conv=>whnf);erw [←JL];(conv=>whnf);subst ca;unfold OH;(conv=>whnf);refine Es RW ?_;(conv=>whnf);refine Es R4 ?_;(conv=>whnf);refine ⟨(p1 (rj (p1 rfl (p1 (q8 (fun _=>(p1 rfl (p1 rfl rfl))) _ _ _) rfl))) (p1 (JY (p1 rfl (p1 rfl rfl))) rfl)),_,Ks (Kr fI),?_⟩;(conv=>whnf);refine Es R1 ?_;(conv=>whnf);exact ⟨rfl,qS,lB.refl _⟩
  ·(conv=>whnf);refine Es PI ?_;(conv=>whnf);refine ⟨⟨rfl,by decide⟩,?_⟩;(conv=>whnf);refine Es ak ?_;(conv=>whnf);refine .inr ⟨⟨rfl,rfl,rfl,ad,by decide,by omega⟩,?_⟩;erw [←HO];(conv=>whnf);refine Es R0 ?_;(conv=>whnf);erw [←JL];(conv=>whnf);subst ca;unfold OH;(conv=>whnf);refine Es RW ?_;(conv=>whnf);refine Es R4 ?_;(conv=>whnf);refine ⟨(p1 (rj (p1 rfl (p1 (q8 (fun _=>(p1 rfl (p1 rfl rfl))) _ _ _) rfl))) (p1 (JY (p1 rfl (p1 rfl rfl))) rfl)),_,Ks (Kr fI),?_⟩;(conv=>whnf);refine Es R1 ?_;(conv=>whnf);exact ⟨rfl,qS,lB.refl _⟩
 ·rw [sU];exact ⟨_,_,We.ag9 (by omega) (by omega) (by omega)⟩
end

theorem VU {α:Type} {q:α→Bool}:∀ {l:List α} {p:α},l.find? q=some p→∃ n,∃ h:n<l.length,l[n]=p∧q p=true∧∀ i (hi:i<n),q (l[i]'(by omega))=false
 | [],_,h=>by cases h
 | x::l,p,h=>by
   rw [List.find?_cons] at h;cases ak:q x with
   | true =>
     rw [ak] at h;obtain rfl:=Option.some.inj h;exact ⟨0,by simp,rfl,ak,fun i hi=>absurd hi (by omega)⟩
   | false =>
     rw [ak] at h;obtain ⟨n,ad,af,aG,a5⟩:=VU h;refine ⟨n+1,by simpa using ad,af,aG,fun i hi=>?_⟩;cases i with
     | zero=>exact ak
     | succ i=>exact a5 i (by omega)
theorem SP {b:p5} {f:Int} {p:Int×Int} (h:p∈places b f):0≤p.1∧p.1<(b.2.length:Int)∧0≤p.2∧p.2≤1∧qx b p=f:=by
 unfold places at h;obtain ⟨r,aj,rfl⟩:=sk.1 h;obtain ⟨ad,af⟩:=sP.1 aj;have ad:=sK.1 ad;refine ⟨?_,?_,?_,?_,by simpa [rH] using af⟩ <;> unfold q9 <;> simp only <;> omega
theorem XQ {α:Type} (l:List α):l=[]∨∃ (l':List α) (p:α),l=l'++[p]:=by
 rcases l.eq_nil_or_concat with h | ⟨l',p,h⟩
 ·exact .inl h
 ·exact .inr ⟨l',p,by rw [h,List.concat_eq_append]⟩
def Kg (t:p5):Nat→List Nat→List (Int×Int)→List (Int×Int)→Int→Option (List (Int×Int))
 | 0,_,_,_,_=>none
 | m+1,L,way,out,a=>p9 (way.length≤1000∧out.length≤1000) <|
   match (places t a).find? (M6 L) with
   | some p=>p9 (r6 (p.1,1-p.2)∈HW L p) (Kg t m (JI L p) (way++[p]) out (fin t p))
   | none=>match way.getLast? with
     | none=>some out
     | some p=>p9 (0≤p.1∧p.1<(t.2.length:Int)) (Kg t m L way.dropLast (out++[p]) (qx t p))
def Mn (t:p5):Option (List (Int×Int)) :=
 p9 (0<t.2.length∧t.2.length≤1000) ((Kg t p' (List.range (2*t.2.length)) [] [] (ix t.2 0).1).bind fun out=>p9 (out.length≠0∧out.length≤1000) (some out.reverse))
section
variable {t:p5} {L:List Nat} {way out:List (Int×Int)} {a:Int} {rm v5:I} {x y:Nat} {H:List ar} {p:Int×Int}
theorem rQ.ah0 (cl:rQ t L way out a rm v5 x y H):v5.settle=v5:=by
 rcases cl.aq with ⟨_,h⟩ | ⟨h,_⟩ <;> rw [h] <;> rfl
theorem rQ.pop {b:Int} (cl:rQ t L (way++[p]) out a rm v5 x y H) (hw:rm=.ck x (x+1) (way.length+1) 2) {cells:List I} (al:cells=(out++[p]).flatMap p2) {D:List ar} {G:List ar} (L5:G=H.set 3 (.cells [.ck x (x+1) way.length 2])) (qZ:D=G∨(D=G.set y .dead∧4<y)) :
  rQ t L way (out++[p]) b (.ck x (x+1) way.length 2) (.ck G.length (G.length+1) (out.length+1) 2) x G.length ((D++[ar.grow cells (G.length+1) 2,ar.dead]).set 4 (ar.cells [hU b])):=by
 subst al;have ao:=cl.len;have aj9:G.length=H.length:=by rw [L5];simp
 have PL:D.length=G.length:=by rcases qZ with rfl | ⟨rfl,_⟩ <;> simp
 obtain ⟨r5,aU,⟨HI,ad⟩,af,aG,a5,mv,aq,ne,Kh,Ki,JJ,Jq⟩:=cl;have HO:∀ (j:Nat) (o:ar),j≠3→H[j]?=some o→G[j]?=some o:=fun j o aw h=>by rw [L5];exact qH h (Ne.symm aw)
 have ac5:∀ (j:Nat) (o:ar),j≠y→G[j]?=some o→D[j]?=some o:=fun j o aw h=>by
  rcases qZ with rfl | ⟨rfl,_⟩
  ·exact h
  ·exact qH h (Ne.symm aw)
 have PK:∀ (j:Nat) (o:ar),j≤4→G[j]?=some o→D[j]?=some o:=fun j o aw h=>by
  rcases qZ with rfl | ⟨rfl,aX⟩
  ·exact h
  ·exact qH h (by omega)
 refine ⟨r5,?_,⟨HI,?_⟩,?_,?_,KH (by simp;omega),.inr ?_,.inr ⟨by simp,by omega,?_⟩,by omega,by simp;omega,by simp;omega,JJ,.inr (by omega)⟩
 ·exact qH (qU (PK 0 _ (by omega) (HO 0 _ (by omega) aU))) (by omega)
 ·exact qH (qU (PK 1 _ (by omega) (HO 1 _ (by omega) ad))) (by omega)
 ·exact qH (qU (PK 2 _ (by omega) (HO 2 _ (by omega) af))) (by omega)
 ·refine qH (qU (PK 3 _ (by omega) ?_)) (by omega);rw [L5];exact KH (by omega)
 ·rcases mv with ⟨bG,_⟩ | ⟨bG,bX,cs,rZ,JB,Nv⟩
  ·exact absurd bG (by simp)
  ·refine ⟨rfl,bX,cs,qH (qU (ac5 x _ ne (HO x _ (by omega) rZ))) (by omega),?_,?_⟩
   ·rw [sr] at JB;omega
   ·have:=congrArg (List.take (way.length*2)) Nv;rw [List.take_take,List.flatMap_append] at this;rw [sr,tM (by omega)] at this;rw [this,List.take_append_of_le_length (by rw [JX];exact sd _),tT (by rw [JX];exact sd _)]
 ·rw [←PL];exact qH (MX _ _) (by omega)
theorem aez {cs:List I} (h:(way.length+1)*2≤cs.length) (e:cs.take ((way.length+1)*2)=(way++[p]).flatMap p2):cs[way.length*2]?=some (hU p.1)∧cs[way.length*2+1]?=some (hU p.2):=by
 have g:=Qa (way++[p]) way.length (by simp);have ae:(way++[p]).getD way.length (0,0)=p:=by simp
 rw [ae,←e,sR,sR,if_pos (by omega),if_pos (by omega)] at g;exact g
theorem agV {M9:List (Int×Int)} (pV:t.2.length≤1000) (JM:rQ t L way out a rm v5 x y H) (h:Kg t p' L way out a=some M9)
  {Q:cz→List I→List ar→Prop} (av:∀ L a rm v5 x y H Ie Ig Ih Yx,rQ t L [] M9 a rm v5 x y H→Q (.exit 2) (Hc 92 [(1,.ptr 0 0),(3,.ptr 2 0),(5,v5),(6,.ptr 3 0),(7,.ptr 4 0),(8,.func 89 [Iz t] []),(38,Ie),(39,Ig),(40,Ih),(67,Yx)]) H)
  {T:List I} (bW:eX [false,true,false,true,false,true,true,true,true,false,false,false,false,false,false,false,false,false,false,false,false,false,false,false,false,false,false,false,false,false,false,false,false,false,false,false,false,false,false,false,false,false,false,false,false,false,false,false,false,false,false,false,false,false,false,false,false,false,false,false,false,false,false,false,false,false,false,false,false,false,false,false,false,false,false,false,false,false,false,false,false,false,false,false,false,false,false,false,false,false,false,false] T=Hc 92 [(1,.ptr 0 0),(3,.ptr 2 0),(5,v5),(6,.ptr 3 0),(7,.ptr 4 0),(8,.func 89 [Iz t] [])]):dO Tryz.prog LU 104 0 none Qg T H Q:=by
 unfold Qg;obtain ⟨ni,Io⟩:∃ c,Tb=c:=⟨_,rfl⟩;rw [Io];refine wp_loop bW ?_;refine .intro (fun m T H=>∃ L way out a rm v5 x y,rQ t L way out a rm v5 x y H∧T=Hc 92 [(1,.ptr 0 0),(3,.ptr 2 0),(5,v5),(6,.ptr 3 0),(7,.ptr 4 0),(8,.func 89 [Iz t] [])]∧Kg t m L way out a=some M9) p' ⟨_,_,_,_,_,_,_,_,JM,rfl,h⟩ ?_;clear h bW JM;rintro m T H ⟨L,way,out,a,rm,v5,x,y,cl,rfl,h⟩;cases m
 ·exact ri h
 rename_i m;rw [Kg.eq_2] at h;obtain ⟨⟨Sv,fH⟩,h⟩:=qB h;have Wr:KZ t a=some (places t a):=by rw [KZ,if_pos pV]
 subst Io;unfold Tb;obtain ⟨aj0,V6⟩:∃ c,Te=c:=⟨_,rfl⟩;obtain ⟨fW,HF⟩:∃ c,Ta=c:=⟨_,rfl⟩;rw [V6,HF];refine IW fun m' Hv=>?_;conv=>whnf
 refine Es cl.a5 ?_;conv=>whnf
 refine ⟨(p1 (rj (p1 rfl (p1 (q8 (fun _=>(p1 rfl (p1 rfl rfl))) _ _ _) rfl))) (p1 rfl rfl)),_,ZF (v:=()) rfl,?_⟩;conv=>whnf
 subst V6;unfold Te;have P1:=cl.ah0;cases aZ:(places t a).find? (M6 L) with
 | some p =>
   rw [aZ] at h;obtain ⟨So,ao⟩:=qB h;obtain ⟨n,aN,ad0,g4,eS⟩:=VU aZ;have aB:=SP (List.mem_of_find?_eq_some aZ);refine agR (id:=3) (f:=fun e=>.agg (p2 e)) (ag3 Wr) aN (by exact rfl) (fun i hi Y=>?_) (fun Y=>?_) (by exact rfl)
   ·have zb:=SP (sI (show i<(places t a).length by omega));exact XA cl zb.1 ⟨zb.2.2.1,zb.2.2.2.1⟩ (of_decide_eq_false (eS i hi)) Y
   ·rw [ad0];obtain ⟨H',ad_,adC,T9,oG,pc⟩:=agW cl ⟨aB.1,aB.2.1⟩ ⟨aB.2.2.1,aB.2.2.2.1⟩ (of_decide_eq_true g4) So Sv Y;refine ⟨H',⟨adC,?_⟩,ad_⟩;(conv=>whnf);refine Hv _ _ _ ?_;(conv=>whnf);exact ⟨m,su m,_,_,_,_,T9,v5.settle,oG,y,by rw [P1];exact pc,rfl,ao⟩
 | none =>
   rw [aZ] at h;have eS:=vm.1 aZ;refine Xz (f:=fun e=>.agg (p2 e)) (XJ Wr) (fun _=>H) (by exact rfl) rfl (fun _=>rfl) (fun i hi Y=>?_) (by exact rfl) rfl (fun Y=>?_)
   ·have zb:=SP (sI hi);exact XA cl zb.1 ⟨zb.2.2.1,zb.2.2.2.1⟩ (by have:=eS _ (sI hi);simpa [M6] using this) Y
   have IJ:rQ t L way out a rm v5 x y ((H++[.dead])++Y):=(cl.more _).more _;clear cl;obtain ⟨G,L5⟩:∃ G,G=(H++[ar.dead])++Y:=⟨_,rfl⟩;rw [←L5] at IJ ⊢;(conv=>whnf);refine Es IJ.aG ?_;rcases IJ.hw with ⟨rfl,rfl⟩ | ⟨rfl,akn,cs,ak,cA,CR⟩
   ·obtain rfl:=Option.some.inj h;(conv=>whnf);refine Hv _ _ _ ?_;(conv=>whnf);exact av _ _ _ _ _ _ _ _ _ _ _ (by rw [P1];exact IJ)
   ·(conv=>whnf);rcases XQ way with rfl | ⟨H4,p,rfl⟩
    ·obtain rfl:=Option.some.inj h;(conv=>whnf);refine Hv _ _ _ ?_;(conv=>whnf);exact av _ _ _ _ _ _ _ _ _ _ _ (by rw [P1];exact IJ)
    ·rw [List.getLast?_concat] at h;obtain ⟨fI,ao⟩:=qB h;rw [List.dropLast_concat] at ao;(have hlen:(H4++[p]).length=H4.length+1:=by simp);(have zm:IntKind.i64.wrap ((((H4++[p]).length:Nat):Int)-1)=(H4.length:Int):=by rw [hlen,IB _ (by omega) (by omega)];omega);rw [hlen] at cA CR Sv;obtain ⟨jE,h0⟩:=aez cA CR;have adR:=IJ.len;have Ib:=IJ.ne;have adT:=IJ.Kh;have adU:=IJ.Ki;have adD:=IJ.Jq;rw [decide_eq_false (show ¬ ((((H4++[p]).length:Nat):Int)=0) by omega)];rw [P1];(conv=>whnf);subst HF;unfold Ta;obtain ⟨dV,Cs⟩:∃ c,S_=c:=⟨_,rfl⟩;rw [Cs];(conv=>whnf);refine Es IJ.aG ?_;(conv=>whnf);refine Es IJ.aG ?_;(conv=>whnf);rw [zm];refine ⟨by omega,?_⟩;(conv=>whnf);refine Es ak ?_;(conv=>whnf);refine Es (by rw [show 0+(H4.length:Int).toNat*2=H4.length*2 by omega];exact jE) ?_;(conv=>whnf);refine Es (by rw [show 0+(H4.length:Int).toNat*2+1=H4.length*2+1 by omega];exact h0) ?_;(conv=>whnf);refine Es (I7 _ _) ?_;(conv=>whnf);rw [rK];(conv=>whnf);obtain ⟨H5,Jt⟩:∃ H5,H5=G++[ar.cells [hU p.1,hU p.2]]:=⟨_,rfl⟩;(have pd:rQ t L (H4++[p]) out a (.ck x (x+1) (H4++[p]).length 2) v5 x y H5:=by rw [Jt];exact IJ.more _);(have ac1:H5[G.length]?=some (.cells [hU p.1,hU p.2]):=by rw [Jt];exact I7 _ _);(have jM:H5.length=G.length+1:=by rw [Jt];simp);erw [←Jt];subst Cs;unfold S_;obtain ⟨b8,iD⟩:∃ c,S9=c:=⟨_,rfl⟩;rw [iD];(conv=>whnf);refine ⟨_,_,fun C=>WE rfl (e:=65) (by kernel_rfl) pd.aG (.inr ⟨_,_,_,_,rfl⟩),?_⟩;(conv=>whnf);refine Es pd.aG ?_;(conv=>whnf);rw [zm];refine ⟨⟨by omega,by omega⟩,?_⟩;(conv=>whnf);refine Es pd.aG ?_;(conv=>whnf);obtain ⟨rh,Ir⟩:∃ rh,rh=H5.set 3 (.cells [.ck x (x+1) H4.length 2]):=⟨_,rfl⟩;(have PH:rh[G.length]?=some (.cells [hU p.1,hU p.2]):=by rw [Ir];exact qH ac1 (by omega));(have V9:rh[0]?=some (IA t):=by rw [Ir];exact qH pd.aU (by omega));(have V_:rh[4]?=some (.cells [hU a]):=by rw [Ir];exact qH pd.a5 (by omega));(have gb:rh.length=H5.length:=by rw [Ir];simp);erw [←Ir];subst iD;unfold S9;obtain ⟨br,en⟩:∃ c,Xl=c:=⟨_,rfl⟩;rw [en];rcases pd.aq with ⟨aq,rfl⟩ | ⟨rfl,Wu,aY⟩
     ·have Sr:=pd.pop (b:=qx t p) (by rw [hlen]) (cells:=p2 p) (by rw [aq];simp) Ir (.inl rfl);(conv=>whnf);refine Es PH ?_;(conv=>whnf);refine ⟨⟨rfl,by decide⟩,?_⟩;(conv=>whnf);refine ⟨⟨by decide,by decide,rfl⟩,?_⟩;have RY:(rh++[ar.grow (p2 p) (rh.length+1) 2,ar.dead])[G.length]?=some (.cells [hU p.1,hU p.2]):=qU PH;have RX:(rh++[ar.grow (p2 p) (rh.length+1) 2,ar.dead])[0]?=some (IA t):=qU V9;have R2:(rh++[ar.grow (p2 p) (rh.length+1) 2,ar.dead])[4]?=some (.cells [hU a]):=qU V_;subst en;(conv=>whnf);refine Es RX ?_;(conv=>whnf);refine Es RY ?_;(conv=>whnf);refine ⟨(p1 (rj (p1 rfl (p1 (q8 (fun _=>(p1 rfl (p1 rfl rfl))) _ _ _) rfl))) (p1 (JY (p1 rfl (p1 rfl rfl))) rfl)),_,Ks (Kr fI),?_⟩;(conv=>whnf);refine Es R2 ?_;(conv=>whnf);refine Hv _ _ _ ?_;(conv=>whnf);exact ⟨m,su m,_,H4,_,_,_,_,_,_,Sr,by rw [aq];rfl,ao⟩
     ·(have aei:rh[y]?=some (.grow (out.flatMap p2) (y+1) 2):=by rw [Ir];exact qH aY (by omega));have Sr:=pd.pop (b:=qx t p) (by rw [hlen]) (cells:=out.flatMap p2++p2 p) (by simp) Ir (.inr ⟨rfl,Wu⟩);(conv=>whnf);refine Es PH ?_;(conv=>whnf);refine ⟨⟨rfl,by decide⟩,?_⟩;(conv=>whnf);refine Es aei ?_;(conv=>whnf);refine .inl ⟨⟨rfl,rfl,rfl,JX _,by decide,by omega⟩,?_⟩;have RY:(rh.set y .dead++[ar.grow (out.flatMap p2++p2 p) (rh.length+1) 2,ar.dead])[G.length]?=some (.cells [hU p.1,hU p.2]):=qU (qH PH (by omega));have RX:(rh.set y .dead++[ar.grow (out.flatMap p2++p2 p) (rh.length+1) 2,ar.dead])[0]?=some (IA t):=qU (qH V9 (by omega));have R2:(rh.set y .dead++[ar.grow (out.flatMap p2++p2 p) (rh.length+1) 2,ar.dead])[4]?=some (.cells [hU a]):=qU (qH V_ (by omega));subst en;(conv=>whnf);refine Es RX ?_;(conv=>whnf);refine Es RY ?_;(conv=>whnf);refine ⟨(p1 (rj (p1 rfl (p1 (q8 (fun _=>(p1 rfl (p1 rfl rfl))) _ _ _) rfl))) (p1 (JY (p1 rfl (p1 rfl rfl))) rfl)),_,Ks (Kr fI),?_⟩;(conv=>whnf);refine Es R2 ?_;(conv=>whnf);refine Hv _ _ _ ?_;(conv=>whnf);exact ⟨m,su m,_,H4,_,_,_,_,_,_,Sr,rfl,ao⟩
end

theorem afR (l:List (Int×Int)):(l.flatMap p2).map I.view=l.flatMap p2:=by
 rw [List.map_flatMap];rfl
theorem aen {t:p5} (pV:t.2.length≤1000)
  {Q:cz→List I→List ar→Prop} (av:∀ Gj,Q (.exit 0) (Hc 92 [(1,.ptr 0 0),(3,.ptr 2 0),(4,Gj),(17,hU t.2.length),(18,hU t.2.length),(19,B (decide ((t.2.length:Int)<(t.2.length:Int))))]) [IA t,.map (rE (List.range (2*t.2.length))) (2*t.2.length),.cells [.map 1]])
  {T:List I} (bW:eX [false,true,false,true,false,false,false,false,false,false,false,false,false,false,false,false,false,true,true,false,false,false,false,false,false,false,false,false,false,false,false,false,false,false,false,false,false,false,false,false,false,false,false,false,false,false,false,false,false,false,false,false,false,false,false,false,false,false,false,false,false,false,false,false,false,false,false,false,false,false,false,false,false,false,false,false,false,false,false,false,false,false,false,false,false,false,false,false,false,false,false,false] T=Hc 92 [(1,.ptr 0 0),(3,.ptr 2 0),(17,hU t.2.length),(18,hU (0:Nat))]):dO Tryz.prog LU 104 0 none Qi T [IA t,.map [] 0,.cells [.map 1]] Q:=by
 unfold Qi;obtain ⟨ba,b5⟩:∃ c,S8=c:=⟨_,rfl⟩;rw [b5];refine wp_loop bW ?_;refine .intro (fun m T H=>∃ i:Nat,i≤t.2.length∧m=t.2.length-i∧T=Hc 92 [(1,.ptr 0 0),(3,.ptr 2 0),(17,hU t.2.length),(18,hU i)]∧H=[IA t,.map (rE (List.range (2*i))) (2*i),.cells [.map 1]]) t.2.length ⟨0,by omega,by omega,rfl,rfl⟩ ?_;clear bW;rintro m T H ⟨i,hi,rfl,rfl,rfl⟩;conv=>whnf
 refine I4 (fun aS=>?_) (fun aS=>?_)
 ·have aS:i<t.2.length:=by omega
  have dd:I.agg [hU (i:Int),hU 0]=.agg (p2 (q9 (2*i))):=by
   have:=P' (n:=t.2.length) (i:=i) (b:=0) aS (by omega);rw [show 2*i+0=2*i by omega] at this;rw [this];rfl
  have aJ:I.agg [hU (i:Int),hU 1]=.agg (p2 (q9 (2*i+1))):=by
   rw [P' (n:=t.2.length) (i:=i) (b:=1) aS (by omega)];rfl
  have f0:fD (.agg [hU (i:Int),hU 0]) (rE (List.range (2*i))) 0=some none:=by rw [dd];exact PE _ _ _ (by simp)
  have f1:fD (.agg [hU (i:Int),hU 1]) (rE (List.range (2*i+1))) 0=some none:=by rw [aJ];exact PE _ _ _ (by simp)
  have fY:rE (List.range (2*i))++[(2*i,I.agg [hU (i:Int),hU 0],hU 1)]=rE (List.range (2*i+1)):=by rw [dd,VN,←vj]
  have e1:rE (List.range (2*i+1))++[(2*i+1,I.agg [hU (i:Int),hU 1],hU 1)]=rE (List.range (2*i+1+1)):=by rw [aJ,VN,←vj]
  conv=>whnf
  subst b5;unfold S8;obtain ⟨a_,ca⟩:∃ c,S5=c:=⟨_,rfl⟩;rw [ca];refine IW fun m' Hv=>?_;conv=>whnf
  subst ca;unfold S5;conv=>whnf
  refine ⟨rfl,_,_,rfl,none,f0,?_⟩;conv=>whnf
  refine ⟨rfl,_,_,rfl,none,(by erw [fY];exact f1),?_⟩;conv=>whnf
  erw [fY,e1];refine Hv _ _ _ ?_;conv=>whnf
  exact ⟨t.2.length-(i+1),by omega,i+1,by omega,rfl,by rw [←Ho i (by omega)] <;> rfl,rfl⟩
 ·obtain rfl:i=t.2.length:=by omega
  conv=>whnf
  exact av _
theorem Ua {t:p5} {v:List (Int×Int)} (h:Mn t=some v):qw 104 [Iz t] (.ax (v.flatMap p2) v.length .shared):=by
 obtain ⟨⟨Dg,pV⟩,h⟩:=qB h;obtain ⟨out,ao,h⟩:=qj h;obtain ⟨⟨ad2,jR⟩,h⟩:=qB h;obtain rfl:=Option.some.inj h;refine q7 eo aeC rfl (q8 (fun _=>(p1 rfl (p1 rfl rfl))) _ _ _) fun Q bo=>?_;have jB:∀ T H,ID [.tmp 2] (.ax (out.reverse.flatMap p2) out.reverse.length .shared) .ret T H→Q .ret T H:=fun T H bH=>bo _ T H bH;unfold Xk;obtain ⟨abS,N3⟩:∃ c,S7=c:=⟨_,rfl⟩;rw [N3];conv=>whnf
 subst N3;unfold S7;obtain ⟨RE,I6⟩:∃ c,Qi=c:=⟨_,rfl⟩;obtain ⟨abR,MW⟩:∃ c,S6=c:=⟨_,rfl⟩;rw [I6,MW];conv=>whnf
 subst I6;refine aen (t:=t) pV ?_ (by exact rfl);intro Gj;conv=>whnf
 subst MW;unfold S6;obtain ⟨nj,Hl⟩:∃ c,Tc=c:=⟨_,rfl⟩;obtain ⟨B8,Kc⟩:∃ c,Td=c:=⟨_,rfl⟩;rw [Hl,Kc];conv=>whnf
 refine ⟨by omega,?_⟩;conv=>whnf
 refine agK p2 2 qy t.2 0 ⟨by omega,by omega⟩ rfl ?_;conv=>whnf
 subst Hl;unfold Tc;obtain ⟨ajZ,V5⟩:∃ c,Qg=c:=⟨_,rfl⟩;rw [V5];conv=>whnf
 subst V5;have cl:rQ t (List.range (2*t.2.length)) [] [] (ix t.2 0).1 (.ax [] 0 .full) (.ax [] 0 .full) 0 2 [IA t,.map (rE (List.range (2*t.2.length))) (2*t.2.length),.cells [.map 1],.cells [.ax [] 0 .full],.cells [hU (ix t.2 0).1]] :=
  ⟨t_,rfl,⟨_,rfl⟩,rfl,rfl,rfl,.inl ⟨rfl,rfl⟩,.inl ⟨rfl,rfl⟩,by decide,by simp,by simp,.inl rfl,.inl rfl⟩
 refine agV pV cl ao ?_ (by exact rfl);intro L a rm v5 x y H Ie Ig Ih Yx HG;conv=>whnf
 subst Kc;unfold Td;rcases HG.aq with ⟨rfl,_⟩ | ⟨rfl,Wu,aY⟩
 ·exact absurd rfl ad2
 conv=>whnf
 refine ⟨_,_,HB (agN out (by omega) (by omega) (sC _) aY),?_⟩;conv=>whnf
 refine ⟨_,_,fun C=>V2 rfl (sC _) (KH (sb.1 aY).1) (by rw [JX,List.length_reverse]),?_⟩;rw [afR];conv=>whnf
 rw [List.length_reverse] at jB;exact jB _ _ ⟨.inr rfl,_,rfl,_,o9 (q8 (fun _=>(p1 rfl (p1 rfl rfl))) _ _ _),rfl⟩
end Go.Proofs.YtfakoboiahbhaaaGreat.Ab


namespace Go.Proofs.YtfakoboiahbhaaaGreat.Ab
open Go
def Il (e:Int×Int) (v:Int):Nat:=(if e.1=v then 1 else 0)+(if e.2=v then 1 else 0)
def qQ (b:p5) (S:List Int) (v:Int):Nat:=(S.map fun i=>Il (ix b.2 i) v).sum
section
variable {b t:p5}
theorem acy (p:Int×Int) (v:Int):Il (ix b.2 p.1) v=(if qx b p=v then 1 else 0)+(if fin b p=v then 1 else 0):=by
 unfold Il qx fin;by_cases h:0<p.2
 ·rw [if_pos h,if_pos h,Nat.add_comm]
 ·rw [if_neg h,if_neg h]
theorem L1 (v:Int):qQ b [] v=0:=rfl
theorem NW (i:Int) (S:List Int) (v:Int):qQ b (i::S) v=Il (ix b.2 i) v+qQ b S v:=by simp [qQ]
theorem Py (S S':List Int) (v:Int):qQ b (S++S') v=qQ b S v+qQ b S' v:=by simp [qQ]
theorem Pz {S S':List Int} (h:S.Perm S') (v:Int):qQ b S v=qQ b S' v:=by
 unfold qQ;exact (h.map _).sum_nat
theorem NY {S:List Int} {v:Int}:qQ b S v=0↔∀ i∈S,¬ qC b i v:=by
 induction S with
 | nil=>simp [L1]
 | cons i S a9 =>
   rw [NW,Nat.add_eq_zero_iff,a9];simp only [sq,forall_eq_or_imp];refine and_congr ?_ Iff.rfl;unfold Il qC;split <;> split <;> simp [*]
theorem Jz:∀ (l l':Row) (a:Int),qD b a (l++l')=(qD b a l).bind fun c=>qD b c l'
 | [],_,_=>rfl
 | p::l,l',a=>by
   rw [uA,qD,qD];split
   ·exact Jz l l' _
   ·rfl
theorem Kn {a c:Int} {p:Int×Int}:qD b a [p]=some c↔qx b p=a∧fin b p=c:=by
 rw [qD,qD];split
 ·rename_i h;simp [h]
 ·rename_i h;simp [h]
theorem Je {a c:Int} {p:Int×Int} {l:Row}:qD b a (p::l)=some c↔qx b p=a∧qD b (fin b p) l=some c:=by
 rw [qD];split
 ·rename_i h;simp [h]
 ·rename_i h;simp [h]
theorem OO:∀ (l:Row) (a c v:Int),qD b a l=some c→(qQ b (l.map (·.1)) v+(if a=v then 1 else 0)+(if c=v then 1 else 0)) % 2=0
 | [],a,c,v,h=>by
   have:a=c:=by simpa [qD] using h
   subst this;rw [ui,L1];split <;> rfl
 | p::l,a,c,v,h=>by
   obtain ⟨ad,af⟩:=Je.1 h;have a9:=OO l _ c v af;rw [sG,NW,acy,ad];omega
def H0 (t:p5) (p:Int×Int):Prop:=0≤p.1∧p.1<(t.2.length:Int)∧0≤p.2∧p.2≤1
theorem J' (p:Int×Int) (v:Int):qC b p.1 v↔qx b p=v∨fin b p=v:=by
 unfold qC qx fin;split
 ·exact Or.comm
 ·exact Iff.rfl
theorem acN {i:Nat} (hi:i<t.2.length) {v:Int} (h:qC t i v):∃ p∈places t v,p.1=(i:Int):=by
 rcases h with h | h
 ·exact ⟨((i:Int),0),KT.2 ⟨by simp only;omega,by simp only;omega,by simp only;omega,by simp only;omega,h⟩,rfl⟩
 ·exact ⟨((i:Int),1),KT.2 ⟨by simp only;omega,by simp only;omega,by simp only;omega,by simp only;omega,h⟩,rfl⟩
structure HM (t:p5) (s:Int) (L:List Nat) (way out:Row) (a h:Int):Prop where
 jm:∀ x∈L,x<2*t.2.length
 sym:∀ i:Nat,2*i∈L↔2*i+1∈L
 ok:∀ p∈way++out,H0 t p
 Qt:((way++out).map (·.1)).Nodup
 Mg:∀ i:Nat,i<t.2.length→(2*i∈L↔(i:Int) ∉ (way++out).map (·.1))
 go:qD t s way=some a
 back:qD t h out.reverse=some s
 P6:∀ p∈out,∀ i:Nat,i<t.2.length→2*i∈L→¬ qC t i (fin t p)
theorem Wy {p:Int×Int} (h:H0 t p):∃ i:Nat,p.1=(i:Int)∧i<t.2.length∧((p.2=0∧r6 p=2*i∧r6 (p.1,1-p.2)=2*i+1)∨(p.2=1∧r6 p=2*i+1∧r6 (p.1,1-p.2)=2*i)):=by
 obtain ⟨ad,af,aG,a5⟩:=h;refine ⟨p.1.toNat,by omega,by omega,?_⟩;unfold r6;simp only;rcases show p.2=0∨p.2=1 by omega with h | h
 ·left;omega
 ·right;omega
theorem aft {L:List Nat} {p:Int×Int} {x:Nat}:x∈JI L p↔x∈L∧x≠r6 p∧x≠r6 (p.1,1-p.2):=by
 unfold JI HW;simp only [sP,decide_eq_true_eq,and_assoc]
theorem SA {α:Type} (q:α→Bool):∀ (l:List α) (x:α),x∈l→q x=false→(l.filter q).length<l.length
 | [],_,h,_=>by simp at h
 | y::l,x,h,aZ=>by
   have hle:=tQ q l;rw [tP];rcases sq.1 h with rfl | h
   ·rw [aZ];simp only [Bool.false_eq_true,if_false,sM];omega
   ·have a9:=SA q l x h aZ;split <;> simp only [sM] <;> omega
theorem acF {L:List Nat} {p:Int×Int} (h:r6 p∈L) (af:r6 (p.1,1-p.2)∈HW L p):(JI L p).length+2≤L.length:=by
 have aC:=SA (fun x=>decide (x≠r6 p)) L _ h (by simp);have aI:=SA (fun x=>decide (x≠r6 (p.1,1-p.2))) (HW L p) _ af (by simp);unfold JI;unfold HW at aC aI ⊢;omega
theorem HM.step {s a h:Int} {L:List Nat} {way out:Row} {p:Int×Int} (kv:HM t s L way out a h) (aB:p∈places t a) (fp:r6 p∈L):HM t s (JI L p) (way++[p]) out (fin t p) h∧r6 (p.1,1-p.2)∈HW L p:=by
 have aZ:=KT.1 aB;have bP:H0 t p:=⟨aZ.1,aZ.2.1,aZ.2.2.1,aZ.2.2.2.1⟩;obtain ⟨i,hi,qX,ak⟩:=Wy bP;have RZ:2*i∈L:=by
  rcases ak with ak | ak
  ·rw [←ak.2.1];exact fp
  ·rw [kv.sym,←ak.2.1];exact fp
 have ac2:=(kv.sym i).1 RZ;have a2:∀ x,x∈JI L p↔x∈L∧x≠2*i∧x≠2*i+1:=fun x=>by
  rw [aft];rcases ak with ak | ak <;> rw [ak.2.1,ak.2.2] <;> constructor <;> rintro ⟨ad,af,aG⟩ <;> exact ⟨ad,by omega,by omega⟩
 have adZ:=(kv.Mg i qX).1 RZ;have IM:((way++[p]++out).map (·.1)).Perm (p.1::(way++out).map (·.1)):=by
  rw [←sG];refine List.Perm.map _ ?_;rw [sD];exact List.perm_middle
 refine ⟨⟨fun x ak=>kv.jm x ((a2 x).1 ak).1,fun j=>?_,fun q aZ=>?_,?_,fun j aw=>?_,?_,kv.back,fun q aZ j aw adK=>kv.P6 q aZ j aw ((a2 _).1 adK).1⟩,?_⟩
 ·rw [a2,a2,kv.sym j];constructor <;> rintro ⟨ad,af,aG⟩ <;> exact ⟨ad,by omega,by omega⟩
 ·rcases sN.1 aZ with aZ | aZ
  ·rcases sN.1 aZ with aZ | aZ
   ·exact kv.ok q (uW _ aZ)
   ·rw [sO.1 aZ];exact bP
  ·exact kv.ok q (List.mem_append_right _ aZ)
 ·rw [IM.nodup_iff,uc];exact ⟨by rw [hi];exact adZ,kv.Qt⟩
 ·rw [a2,kv.Mg j aw,IM.mem_iff,sq,hi];constructor
  ·rintro ⟨ad,af,_⟩ (aG | aG)
   ·omega
   ·exact ad aG
  ·intro ad;refine ⟨fun af=>ad (.inr af),fun e=>ad (.inl (by omega)),by omega⟩
 ·rw [Jz,kv.go];exact Kn.2 ⟨aZ.2.2.2.2,rfl⟩
 ·unfold HW;rw [sP];rcases ak with ak | ak <;> rw [ak.2.1,ak.2.2]
  ·exact ⟨ac2,by simp⟩
  ·exact ⟨RZ,by simp⟩
def P5 (t:p5) (L:List Nat):List Int:=(upto t.2.length).filter fun i=>decide (2*i.toNat∈L)
theorem SF {L:List Nat} {x:Int}:x∈P5 t L↔∃ i:Nat,i<t.2.length∧x=(i:Int)∧2*i∈L:=by
 unfold P5;rw [sP,rq,decide_eq_true_eq];constructor
 ·rintro ⟨⟨ad,af⟩,aG⟩;exact ⟨x.toNat,by omega,by omega,aG⟩
 ·rintro ⟨i,ad,rfl,aG⟩;exact ⟨⟨by omega,by omega⟩,by simpa using aG⟩
theorem HM.perm {s a h:Int} {L:List Nat} {way out:Row} (kv:HM t s L way out a h):(upto t.2.length).Perm (P5 t L++(way++out).map (·.1)):=by
 refine (uK (J4 _) ?_).2 fun x=>?_
 ·rw [tX];refine ⟨(J4 _).filter _,kv.Qt,fun x ak y aY e=>?_⟩;subst e;obtain ⟨i,hi,rfl,fp⟩:=SF.1 ak;exact (kv.Mg i hi).1 fp aY
 ·rw [sN,SF,rq];constructor
  ·rintro ⟨ad,af⟩;obtain ⟨i,rfl⟩:∃ i:Nat,x=(i:Int):=⟨x.toNat,by omega⟩;by_cases hm:(i:Int)∈(way++out).map (·.1)
   ·exact .inr hm
   ·exact .inl ⟨i,by omega,rfl,(kv.Mg i (by omega)).2 hm⟩
  ·rintro (⟨i,hi,rfl,_⟩ | hm)
   ·omega
   ·obtain ⟨p,aB,rfl⟩:=sk.1 hm;have:=kv.ok p aB;exact ⟨this.1,this.2.1⟩
theorem HM.len {s a h:Int} {L:List Nat} {way out:Row} (kv:HM t s L way out a h):way.length+out.length≤t.2.length:=by
 have:=kv.perm.length_eq;rw [Hx] at this;simp at this;omega
theorem HM.stuck {s a h:Int} {L:List Nat} {way out:Row} (kv:HM t s L way out a h) (aA:∀ v,qQ t (upto t.2.length) v % 2=0) (ai:∀ i:Nat,i<t.2.length→2*i∈L→¬ qC t i a):h=a:=by
 have aU:qQ t (P5 t L) a=0:=NY.2 fun x ak=>by
  obtain ⟨i,hi,rfl,fp⟩:=SF.1 ak;exact ai i hi fp
 have ad:=aA a;rw [Pz kv.perm,Py,aU,s_,Py] at ad;have af:=OO _ _ _ a kv.go;have aG:=OO _ _ _ a kv.back;have a5:qQ t (out.reverse.map (·.1)) a=qQ t (out.map (·.1)) a:=Pz ((vS out).map _) a;rw [a5] at aG;rw [if_pos rfl] at af;by_cases e:h=a
 ·exact e
 ·rw [if_neg e] at aG;omega
theorem HM.pop {s a:Int} {L:List Nat} {way out:Row} {p:Int×Int} (kv:HM t s L (way++[p]) out a a) (ai:∀ i:Nat,i<t.2.length→2*i∈L→¬ qC t i a):HM t s L way (out++[p]) (qx t p) (qx t p):=by
 have IM:(way++(out++[p])).Perm (way++[p]++out):=by
  rw [sD];exact List.Perm.append_left way wq
 have HJ:=kv.go;rw [Jz] at HJ;obtain ⟨c,ad,af⟩:=qj HJ;obtain ⟨aG,a5⟩:=Kn.1 af;refine ⟨kv.jm,kv.sym,fun q aZ=>kv.ok q (IM.mem_iff.1 aZ),(IM.map _).nodup_iff.2 kv.Qt,fun i hi=>?_,by rw [aG];exact ad,?_,fun q aZ i hi fp=>?_⟩
 ·rw [kv.Mg i hi,(IM.map (·.1)).mem_iff]
 ·rw [List.reverse_append];exact Je.2 ⟨rfl,by rw [a5];exact kv.back⟩
 ·rcases sN.1 aZ with aZ | aZ
  ·exact kv.P6 q aZ i hi fp
  ·rw [sO.1 aZ,a5];exact ai i hi fp
theorem SD (aA:∀ v,qQ t (upto t.2.length) v % 2=0) (aN:t.2.length≤1000) {s:Int}:∀ (m:Nat) (L:List Nat) (way out:Row) (a h:Int),HM t s L way out a h→L.length+way.length<m →
  ∃ ir r_,Kg t m L way out a=some r_∧HM t s ir [] r_ s s∧∀ i:Nat,i<t.2.length→2*i∈ir→¬ qC t i s
 | 0,_,_,_,_,_,_,hm=>absurd hm (by omega)
 | m+1,L,way,out,a,h,kv,hm=>by
   have hlen:=kv.len;rw [Kg,qg ⟨by omega,by omega⟩];cases aP:(places t a).find? (M6 L) with
   | some p =>
     have aB:=List.mem_of_find?_eq_some aP;(have fp:r6 p∈L:=by simpa [M6] using List.find?_some aP);obtain ⟨ad,af⟩:=kv.step aB fp;have aG:=acF fp af;show ∃ ir r_,p9 (r6 (p.1,1-p.2)∈HW L p) _=some r_∧_;rw [qg af];exact SD aA aN m _ _ _ _ _ ad (by simp only [sr,tZ];omega)
   | none =>
     have ai:∀ i:Nat,i<t.2.length→2*i∈L→¬ qC t i a:=fun i hi fp nC=>by
      obtain ⟨p,aB,e⟩:=acN hi nC;have aZ:=KT.1 aB;obtain ⟨j,aw,_,ak⟩:=Wy (t:=t) (p:=p) ⟨aZ.1,aZ.2.1,aZ.2.2.1,aZ.2.2.2.1⟩;(have g3:i=j:=by omega);subst g3;have eS:=vm.1 aP p aB;refine eS ?_;simp only [M6,decide_eq_true_eq];rcases ak with ak | ak
      ·rw [ak.2.1];exact fp
      ·rw [ak.2.1];exact (kv.sym i).1 fp
     have adh:=kv.stuck aA ai;subst adh;rcases XQ way with rfl | ⟨H4,p,rfl⟩
     ·show ∃ ir r_,some out=some r_∧_;(have e:s=h:=by simpa [qD] using kv.go);subst e;exact ⟨L,out,rfl,kv,ai⟩
     ·rw [List.getLast?_concat];have bP:=kv.ok p (by simp);show ∃ ir r_,p9 (0≤p.1∧p.1<(t.2.length:Int)) (Kg t m L (H4++[p]).dropLast (out++[p]) (qx t p))=some r_∧_;rw [qg ⟨bP.1,bP.2.1⟩,List.dropLast_concat];exact SD aA aN m _ _ _ _ _ (kv.pop ai) (by simp only [sr,tZ] at hm;omega)
structure Full (t:p5) (l:Row):Prop where
 ok:∀ p∈l,H0 t p
 r5:(l.map (·.1)).Nodup
 all:∀ i:Nat,i<t.2.length→(i:Int)∈l.map (·.1)
theorem HM.all {s:Int} {L:List Nat} {out:Row} (kv:HM t s L [] out s s) (ai:∀ i:Nat,i<t.2.length→2*i∈L→¬ qC t i s) (al:∀ i:Nat,i<t.2.length→∃ v,qC t i v∧qT t (upto t.2.length) s v):∀ i:Nat,i<t.2.length→(i:Int)∈out.map (·.1):=by
 have adw:∀ (l:Row) (a c:Int),qD t a l=some c→∀ p∈l,qx t p=a∨∃ q∈l,fin t q=qx t p:=by
  intro l
  induction l with
  | nil=>intro a c _ p aB;simp at aB
  | cons q l a9 =>
    intro a c h p aB;obtain ⟨ad,af⟩:=Je.1 h;rcases sq.1 aB with rfl | aB
    ·exact .inl ad
    ·rcases a9 _ c af p aB with aG | ⟨fQ,Dn,aG⟩
     ·exact .inr ⟨q,by simp,aG.symm⟩
     ·exact .inr ⟨fQ,by simp [Dn],aG⟩
 have key:∀ v,qT t (upto t.2.length) s v→∀ i:Nat,i<t.2.length→2*i∈L→¬ qC t i v:=fun v ae=>by
  induction ae with
  | refl=>exact ai
  | step j _ aw aC aI a9 =>
    rename_i g GJ;have ed:=rq.1 aw;obtain ⟨k,rfl⟩:∃ k:Nat,j=(k:Int):=⟨j.toNat,by omega⟩;(have av:k<t.2.length:=by omega);have mf:2*k ∉ L:=fun h=>a9 k av h aC;have hm:(k:Int)∈out.map (·.1):=Classical.byContradiction fun aN=>mf ((kv.Mg k av).2 (by simpa using aN));obtain ⟨p,aB,e⟩:=sk.1 hm;rw [←e] at aI;rcases (J' p _).1 aI with h | h
    ·rcases adw _ _ _ kv.back p (wu.2 aB) with aX | ⟨q,aZ,aX⟩
     ·rw [←h,aX];exact ai
     ·intro i hi fp;rw [←h,←aX];exact kv.P6 q (wu.1 aZ) i hi fp
    ·intro i hi fp;rw [←h];exact kv.P6 p aB i hi fp
 intro i hi;refine Classical.byContradiction fun aN=>?_;obtain ⟨v,ad,af⟩:=al i hi;exact key v af i hi ((kv.Mg i hi).2 (by simpa using aN)) ad
theorem aiA (aA:∀ v,qQ t (upto t.2.length) v % 2=0) (aN:t.2.length≤1000) (aU:0<t.2.length) (al:∀ i:Nat,i<t.2.length→∃ v,qC t i v∧qT t (upto t.2.length) (ix t.2 0).1 v) :
  ∃ l,Mn t=some l∧Full t l∧qD t (ix t.2 0).1 l=some (ix t.2 0).1:=by
 have kv:HM t (ix t.2 0).1 (List.range (2*t.2.length)) [] [] (ix t.2 0).1 (ix t.2 0).1:=by
  refine ⟨fun x ak=>sK.1 ak,fun i=>?_,fun p aB=>absurd aB (by simp),by simp,fun i hi=>?_,rfl,rfl,fun p aB=>absurd aB (by simp)⟩
  ·rw [sK,sK];omega
  ·rw [sK];simp;omega
 obtain ⟨L,out,ad,af,aG⟩:=SD aA aN p' _ _ _ _ _ kv (rL (by simp;omega));have cT:=af.all aG al;have hlen:=af.len;have bN:out.length≠0:=fun e=>by
  have:=cT 0 aU;rw [tA.1 e] at this;simp at this
 refine ⟨out.reverse,?_,⟨fun p aB=>af.ok p (by simpa using aB),?_,fun i hi=>?_⟩,af.back⟩
 ·rw [Mn,qg ⟨aU,aN⟩,ad,sc,qg ⟨bN,by omega⟩]
 ·exact ((vS out).map _).nodup_iff.2 (by simpa using af.Qt)
 ·exact ((vS out).map (·.1)).mem_iff.2 (cT i hi)
end
end Go.Proofs.YtfakoboiahbhaaaGreat.Ab


namespace Go.Proofs.YtfakoboiahbhaaaGreat.Ab
open Go
set_option maxRecDepth 20000
set_option maxHeartbeats 4000000
noncomputable def Q':fT :=
 .loop (some (p_ false [0,1,4,1,5,3,52])) (pY [GC 14 [.sl 13,.sl 12] (.bin .lss)] (.seq (.cond (.sl 14) .skip (.exit 0)) (.seq (.block 1 (pY [GC 15 [.sl 11,.sl 13] (.kQ 1),qc 16 15,pX 7 16] (pY [pZ 17 0,GC 18 [.Bs 17] .zX,qF 19 18 0,qF 20 19 1,qc 21 20,pZ 22 7,qL 23 21 22 2,qF 24 23 0,qc 25 24,GC 26 [.sl 5,.sl 25] (.zn 6 1),qc 27 26,qE 28 27 1,GC 29 [.sl 5,.Bs 25] (.zn 6 1),⟨none,[.jf 29,.jf 28],none,none,.st 1⟩] (qv [pZ 30 0,GC 31 [.Bs 30] .zX,qF 32 31 0,qF 33 32 1,qc 34 33,pX 35 7,qL 36 34 35 2,qF 37 36 1,qc 38 37,GC 39 [.sl 5,.sl 38] (.zn 6 1),qc 40 39,qE 41 40 1,GC 42 [.sl 5,.Bs 38] (.zn 6 1),⟨none,[.jf 42,.jf 41],none,none,.st 1⟩])))) (qv [qE 43 13 1,pX 13 43]))))
noncomputable def Ra:fT :=
 .loop (some (p_ false [8, 1, 38, 2, 17])) (pY [GC 49 [.sl 48, .lR (.int .i64 6)] (.bin .lss)] (.seq (.cond (.sl 49) .skip (.exit 2)) (.seq (.block 3 (pY [pZ 50 48, GC 51 [.sl 47, .sl 48] (.other (Oper.mk (some 51) (Op.index 101 (Operand.tmp 47) (Operand.tmp 48)) 3 "table.go:64" (Array.mk []) none) 0), pX 9 50, pX 10 51] (pY [pX 52 10, qq 53 52 2 .rem, qq 54 53 1 .eql] (.cond (.sl 54) (qv [pZ 55 8, pZ 56 8, qM 57 56, pX 58 8, qM 59 58, GC 60 [.jf 55, .jf 57, .jf 59] (.Bg 1 false true true), pX 61 9, GC 62 [.Bs 61] (.yu 1 1 [.int .i64 0] [0]), GC 63 [.jf 60, .jf 62] (.app 1 8), pX 8 63]) .skip)))) (qv [qE 64 48 1, pX 48 64]))))
noncomputable def aaf:fT :=
 pY [GC 4 [.lR (.ax [] 0 .full)] (.nil 1)] (pY [GC 5 [] (.alloc [.int .i64 0, .int .i64 0, .int .i64 0, .int .i64 0, .int .i64 0, .int .i64 0])] (.seq (pY [pX 11 1, GC 12 [.sl 11] .zC, qa 13 0] (.block 0 Q')) (.seq (pY [GC 44 [.sl 5] (.zx (.arr 6)), GC 45 [] (.build [.int .i64 0, .int .i64 0, .int .i64 0, .int .i64 0, .int .i64 0, .int .i64 0] []), GC 46 [.Bs 44, .Bs 45] (.other (Oper.mk (some 46) (Op.binOp .eql 101 (Operand.tmp 44) (Operand.tmp 45) 101) 4 "table.go:60" (Array.mk [Edge.mk 0 Ground.data, Edge.mk 1 Ground.data]) none) 0)] (.cond (.sl 46) (pY [GC 4 [.lR (.ax [] 0 .full)] (.nil 1)] .ret) .skip)) (pY [GC 8 [.lR (.ax [] 0 .full)] (.nil 1)] (.seq (pY [GC 47 [.Bs 5] (.zx (.arr 6)), qa 48 0] (.block 2 Ra)) (pY [pX 65 8, pX 4 65] .ret))))))
theorem afd:zD Tryz.prog Pp 76=some (aaf,66,[.tmp 4]):=by kernel_rfl
def MD (t:qe) (qf:p7) (qb:p7→Option p7):Nat→Int→p7→Option p7
 | 0,_,_=>none
 | m+1,s1,s2 =>
   if (decide (s1<(qf.length:Int)))=true then
    p9 (0≤s1∧s1<(qf.length:Int)) <|
    p9 (0≤(ix qf s1)∧(ix qf s1)<(t.2.length:Int)) <|
    p9 (0≤(ix t.2 (ix qf s1)).1∧(ix t.2 (ix qf s1)).1<(6:Int)∧6=s2.length) <|
    p9 (0≤(ix t.2 (ix qf s1)).1∧(ix t.2 (ix qf s1)).1<(6:Int)∧6=s2.length) <|
    p9 (0≤(ix qf s1)∧(ix qf s1)<(t.2.length:Int)) <|
    p9 (0≤(ix t.2 (ix qf s1)).2∧(ix t.2 (ix qf s1)).2<(6:Int)∧6=(s2.set ((ix t.2 (ix qf s1)).1).toNat (w ((ix s2 ((ix t.2 (ix qf s1)).1))+(1:Int)))).length) <|
    p9 (0≤(ix t.2 (ix qf s1)).2∧(ix t.2 (ix qf s1)).2<(6:Int)∧6=(s2.set ((ix t.2 (ix qf s1)).1).toNat (w ((ix s2 ((ix t.2 (ix qf s1)).1))+(1:Int)))).length) <|
    MD t qf qb m (w (s1+(1:Int))) ((s2.set ((ix t.2 (ix qf s1)).1).toNat (w ((ix s2 ((ix t.2 (ix qf s1)).1))+(1:Int)))).set ((ix t.2 (ix qf s1)).2).toNat (w ((ix (s2.set ((ix t.2 (ix qf s1)).1).toNat (w ((ix s2 ((ix t.2 (ix qf s1)).1))+(1:Int)))) ((ix t.2 (ix qf s1)).2))+(1:Int))))
   else
    qb s2
def Kt (yg:p7) (qt:p7→Option p7):Nat→p7→Int→Option p7
 | 0,_,_=>none
 | m+1,s3,G' =>
   if (decide (G'<(6:Int)))=true then
    p9 (0≤G'∧G'<(6:Int)∧yg.length=6) <|
    p9 ((2:Int)≠0) <|
    if (decide (((ix yg G').tmod (2:Int))=(1:Int)))=true then
     p9 ((s3.length:Int)=(s3.length:Int)∧0≤(s3.length:Int)∧(s3.length:Int)≤(s3.length:Int)) <|
     p9 (((s3.take (s3.length:Int).toNat).length+1)*8≤140737488355328) <|
     Kt yg qt m ((s3.take (s3.length:Int).toNat)++[G']) (w (G'+(1:Int)))
    else
     Kt yg qt m s3 (w (G'+(1:Int)))
   else
    qt s3
def MC (t:qe) (qf:p7):Option p7 :=
 MD t qf (fun yg =>
   p9 (yg.length=6) <|
   p9 (yg.length=6) <|
   if (decide (yg=[(0:Int),(0:Int),(0:Int),(0:Int),(0:Int),(0:Int)]))=true then
    some []
   else
    p9 (yg.length=6) <|
    Kt yg (fun oH =>
      some oH) p' ([]:List Int) (0:Int)) p' (0:Int) (List.replicate 6 (0:Int))
theorem ajq {t:qe} {qf:p7} {qb:p7→Option p7} {s1:Int} {s2:p7} {v:p7} {Q:rM}   (rI:∀ (yg:p7) (p8:List I),qb yg=some v→rn 66 [(5,(.ptr 0 0))] p8→Q (.exit 0) p8 [ar.cells (yg.map hU)]) {T:List I} (bW:eX (p_ false [0,1,4,1,5,3,52]) T=Hc 66 [(0,(.bT [(hU t.1),(p6 t.2 .shared)])),(5,(.ptr 0 0)),(11,(qi qf .shared)),(12,(hU (qf.length:Int))),(13,(hU s1))]) (h:MD t qf qb p' s1 s2=some v) :
  dO Tryz.prog Pp 76 0 none Q' T [ar.cells (s2.map hU)] Q:=by
 unfold Q';refine wp_loop bW ?_;refine .intro (fun m T H=>∃ (s1:Int) (s2:p7),T=Hc 66 [(0,(.bT [(hU t.1),(p6 t.2 .shared)])),(5,(.ptr 0 0)),(11,(qi qf .shared)),(12,(hU (qf.length:Int))),(13,(hU s1))]∧H=[ar.cells (s2.map hU)]∧MD t qf qb m s1 s2=some v) p' ⟨s1,s2,rfl,rfl,h⟩ ?_;clear h bW;rintro m T H ⟨s1,s2,rfl,rfl,h⟩;cases m
 ·exact ri h
 rename_i m;rw [MD.eq_2] at h;conv=>whnf
 refine bs h (fun gD h=>?_) fun gD h=>?_
 ·rw [gD];conv=>whnf
  refine qs h id fun gE h=>?_;rw [Hh hU qf s1 gE];conv=>whnf
  refine qs h id fun qo h=>?_;rw [q' p2 2 qy t.2 (ix qf s1) qo];conv=>whnf
  obtain ⟨qS,h⟩:=qB h;refine ⟨⟨qS.1,qS.2.1⟩,?_⟩;replace qS:0≤(ix t.2 (ix qf s1)).1∧(ix t.2 (ix qf s1)).1<(s2.length:Int):=⟨qS.1,by have:=qS.2;omega⟩;conv=>whnf
  refine KW hU s2 ((ix t.2 (ix qf s1)).1) qS ?_;conv=>whnf
  obtain ⟨qY,h⟩:=qB h;refine ⟨⟨qY.1,qY.2.1⟩,?_⟩;replace qY:0≤(ix t.2 (ix qf s1)).1∧(ix t.2 (ix qf s1)).1<(s2.length:Int):=⟨qY.1,by have:=qY.2;omega⟩;conv=>whnf
  refine LH hU s2 ((ix t.2 (ix qf s1)).1) (w ((ix s2 ((ix t.2 (ix qf s1)).1))+(1:Int))) qY ?_;conv=>whnf
  refine qs h id fun rJ h=>?_;rw [q' p2 2 qy t.2 (ix qf s1) rJ];conv=>whnf
  obtain ⟨ra,h⟩:=qB h;refine ⟨⟨ra.1,ra.2.1⟩,?_⟩;replace ra:0≤(ix t.2 (ix qf s1)).2∧(ix t.2 (ix qf s1)).2<((s2.set ((ix t.2 (ix qf s1)).1).toNat (w ((ix s2 ((ix t.2 (ix qf s1)).1))+(1:Int)))).length:Int):=⟨ra.1,by have:=ra.2;omega⟩;conv=>whnf
  refine KW hU (s2.set ((ix t.2 (ix qf s1)).1).toNat (w ((ix s2 ((ix t.2 (ix qf s1)).1))+(1:Int)))) ((ix t.2 (ix qf s1)).2) ra ?_;conv=>whnf
  obtain ⟨q_,h⟩:=qB h;refine ⟨⟨q_.1,q_.2.1⟩,?_⟩;replace q_:0≤(ix t.2 (ix qf s1)).2∧(ix t.2 (ix qf s1)).2<((s2.set ((ix t.2 (ix qf s1)).1).toNat (w ((ix s2 ((ix t.2 (ix qf s1)).1))+(1:Int)))).length:Int):=⟨q_.1,by have:=q_.2;omega⟩;conv=>whnf
  refine LH hU (s2.set ((ix t.2 (ix qf s1)).1).toNat (w ((ix s2 ((ix t.2 (ix qf s1)).1))+(1:Int)))) ((ix t.2 (ix qf s1)).2) (w ((ix (s2.set ((ix t.2 (ix qf s1)).1).toNat (w ((ix s2 ((ix t.2 (ix qf s1)).1))+(1:Int)))) ((ix t.2 (ix qf s1)).2))+(1:Int))) q_ ?_;conv=>whnf
  exact ⟨m,su m,(w (s1+(1:Int))),((s2.set ((ix t.2 (ix qf s1)).1).toNat (w ((ix s2 ((ix t.2 (ix qf s1)).1))+(1:Int)))).set ((ix t.2 (ix qf s1)).2).toNat (w ((ix (s2.set ((ix t.2 (ix qf s1)).1).toNat (w ((ix s2 ((ix t.2 (ix qf s1)).1))+(1:Int)))) ((ix t.2 (ix qf s1)).2))+(1:Int)))),rfl,rfl,h⟩
 ·rw [gD];conv=>whnf
  exact rI _ _ h ⟨rfl,rfl⟩
theorem ajr {yg:p7} {qt:p7→Option p7} {s3:p7} {G':Int} {v:p7} {Q:rM} {bD:ar}  (HK:∀ (oH:p7) (p8:List I),qt oH=some v→rn 66 [(8,(qi oH (.uniq 1)))] p8→Q (.exit 2) p8 [bD]) {T:List I} (bW:eX (p_ false [8,1,38,2,17]) T=Hc 66 [(8,(qi s3 (.uniq 1))),(47,(.agg ((yg.map hU)))),(48,(hU G'))]) (h:Kt yg qt p' s3 G'=some v) :
  dO Tryz.prog Pp 76 0 none Ra T [bD] Q:=by
 unfold Ra;refine wp_loop bW ?_;refine .intro (fun m T H=>∃ (s3:p7) (G':Int),T=Hc 66 [(8,(qi s3 (.uniq 1))),(47,(.agg ((yg.map hU)))),(48,(hU G'))]∧H=[bD]∧Kt yg qt m s3 G'=some v) p' ⟨s3,G',rfl,rfl,h⟩ ?_;clear h bW;rintro m T H ⟨s3,G',rfl,rfl,h⟩;cases m
 ·exact ri h
 rename_i m;rw [Kt.eq_2] at h;conv=>whnf
 refine bs h (fun rC h=>?_) fun rC h=>?_
 ·rw [rC];conv=>whnf
  obtain ⟨r4,h⟩:=qB h;refine ⟨_,_,fun C=>afD rfl (aax (e:=3) (len:=6) (kd:=.i64) (by kernel_rfl) (by kernel_rfl) (by kernel_rfl) (by kernel_rfl) r4.2.2 ⟨r4.1,r4.2.1⟩),?_⟩;conv=>whnf
  refine qs h id fun I8 h=>?_;conv=>whnf
  refine bs h (fun Hz h=>?_) fun Hz h=>?_
  ·rw [Hz];(conv=>whnf);refine qs h id fun I9 h=>?_;erw [XO hU s3 (s3.length:Int) I9.2];(conv=>whnf);obtain ⟨Hr,h⟩:=qB h;refine ⟨by first | rfl | simp,by have:=Hr;omega,by decide,Hr,by first | rfl | simp,?_⟩
   erw [LV hU (s3.take (s3.length:Int).toNat) G'];(conv=>whnf);exact ⟨m,su m,((s3.take (s3.length:Int).toNat)++[G']),(w (G'+(1:Int))),rfl,rfl,h⟩
  ·rw [Hz];(conv=>whnf);exact ⟨m,su m,s3,(w (G'+(1:Int))),rfl,rfl,h⟩
 ·rw [rC];conv=>whnf
  exact HK _ _ h ⟨rfl,rfl⟩
theorem Zr {t:qe} {qf:p7} {v:p7} (h:MC t qf=some v):qw 76 [(.bT [(hU t.1),(.ax (t.2.flatMap p2) t.2.length .shared)]),(.ax (qf.map hU) qf.length .shared)] (.ax (v.map hU) v.length .shared):=by
 refine q7 eo afd rfl (rX (fun _=>rfl) _ _ _) fun Q bo=>?_;have jB:qK [.tmp 4] Q (fun v=>(qi v .shared)) v:=fun T H bH=>bo _ T H bH;unfold MC at h;unfold aaf;obtain ⟨HV,qO⟩:∃ c,Q'=c:=⟨_,rfl⟩;rw [qO];obtain ⟨KD,r0⟩:∃ c,Ra=c:=⟨_,rfl⟩;rw [r0];conv=>whnf
 subst qO;refine ajq ?_ (by exact rfl) h;intro yg p8 h qm;obtain ⟨rf,rfl⟩:=qm.ex;conv=>whnf
 obtain ⟨rp,h⟩:=qB h;refine ⟨by simp [rp],?_⟩;rw [Sz hU yg (fun _=>rfl) rp];conv=>whnf
 obtain ⟨qP,h⟩:=qB h;refine ⟨_,_,fun C=>afC rfl rfl (aaw .i64 (e:=3) (len:=6) (kd:=.i64) (xs:=yg) (ys:=[(0:Int),(0:Int),(0:Int),(0:Int),(0:Int),(0:Int)]) (by kernel_rfl) (by kernel_rfl) (by kernel_rfl) (by kernel_rfl) qP rfl),?_⟩;conv=>whnf
 refine bs h (fun rO h=>?_) fun rO h=>?_
 ·rw [rO];conv=>whnf
  exact qd h jB rfl rfl
 ·rw [rO];conv=>whnf
  obtain ⟨rz,h⟩:=qB h;refine ⟨by simp [rz],?_⟩;rw [Sz hU yg (fun _=>rfl) rz];conv=>whnf
  subst r0;refine ajr ?_ (by exact rfl) h;intro oH p8 h qm;obtain ⟨rf,rfl⟩:=qm.ex;conv=>whnf
  exact qd h jB rfl rfl

end Go.Proofs.YtfakoboiahbhaaaGreat.Ab


namespace Go.Proofs.YtfakoboiahbhaaaGreat.Ab
open Go
set_option maxRecDepth 20000
set_option maxHeartbeats 4000000
end Go.Proofs.YtfakoboiahbhaaaGreat.Ab


namespace Go.Proofs.YtfakoboiahbhaaaGreat.Ab
open Go
theorem ahZ (n:Nat):(upto n).Pairwise (·<·):=by
 unfold upto;exact tW.2 (List.pairwise_lt_range.imp fun h=>Int.ofNat_lt.2 h)
section
variable {b t:p5}
def rr (b:p5) (S:List Int):List Int:=(upto 6).filter fun f=>decide (qQ b S f % 2=1)
theorem Kj {S:List Int} {f:Int}:f∈rr b S↔(0≤f∧f<6)∧qQ b S f % 2=1:=by
 unfold rr;rw [sP,rq,decide_eq_true_eq];rfl
theorem OA (S:List Int):(rr b S).Pairwise (·<·):=(ahZ 6).filter _
theorem acz (e:Int×Int) (v:Int):Il e v≤2:=by unfold Il;split <;> split <;> omega
theorem VL (S:List Int) (v:Int):qQ b S v≤2*S.length:=by
 induction S with
 | nil=>simp [L1]
 | cons i S a9=>rw [NW,sM];have:=acz (ix b.2 i) v;omega
def LY (S:List Int) (x:Int):List Int:=S.set x.toNat (w (ix S x+1))
theorem Pr (S:List Int) (x:Int):(LY S x).length=S.length:=by simp [LY]
theorem WA {S:List Int} {x f:Int} (ak:0≤x∧x<(S.length:Int)) (aP:0≤f∧f<(S.length:Int)) (ai:0≤ix S x∧ix S x≤100000):ix (LY S x) f=ix S f+if x=f then 1 else 0:=by
 obtain ⟨a,rfl⟩:∃ a:Nat,x=(a:Int):=⟨x.toNat,by omega⟩;obtain ⟨c,rfl⟩:∃ c:Nat,f=(c:Int):=⟨f.toNat,by omega⟩;unfold LY;rw [HT (by omega),th];by_cases h:a=c
 ·subst h;rw [Md (by omega),if_pos rfl]
 ·rw [Ke (Ne.symm h),if_neg (by omega),Int.add_zero]
structure J9 (b:p5) (n:Nat) (HE S:List Int):Prop where
 len:S.length=n
 val:∀ f:Int,0≤f→f<(n:Int)→ix S f=(qQ b HE f:Int)
theorem J9.step {n:Nat} {HE S:List Int} {i:Int} (h:J9 b n HE S) (a2:HE.length≤1000) (ad:0≤(ix b.2 i).1∧(ix b.2 i).1<(n:Int)) (af:0≤(ix b.2 i).2∧(ix b.2 i).2<(n:Int)):J9 b n (HE++[i]) (LY (LY S (ix b.2 i).1) (ix b.2 i).2):=by
 have ao:=h.len;have dX:=h.val _ ad.1 ad.2;have akc:=VL (b:=b) HE (ix b.2 i).1;have c_:=h.val _ af.1 af.2;have akd:=VL (b:=b) HE (ix b.2 i).2;refine ⟨by rw [Pr,Pr,ao],fun f CV pt=>?_⟩;have e1:∀ f:Int,0≤f→f<(n:Int)→ix (LY S (ix b.2 i).1) f=ix S f+if (ix b.2 i).1=f then 1 else 0:=fun f aC aI=>WA ⟨ad.1,by omega⟩ ⟨aC,by omega⟩ ⟨by omega,by omega⟩;rw [WA ⟨af.1,by rw [Pr];omega⟩ ⟨CV,by rw [Pr];omega⟩ (by rw [e1 _ af.1 af.2,c_];split <;> omega),e1 f CV pt,h.val f CV pt,Py,NW,L1];unfold Il;split <;> split <;> omega
theorem J9.zero (n:Nat):J9 b n [] (List.replicate n 0):=⟨by simp,fun f ad af=>by rw [Sy];rfl⟩
theorem Zq (p3:qA t) {S:List Int} (cl:rD t S) (ao:S.length≤1000) {k:List Int→Option (List Int)}:∀ (m i:Nat) (z:Int) (C:List Int),z=i→i≤S.length→S.length-i<m→J9 t 6 (S.take i) C →
  ∃ Uz,J9 t 6 S Uz∧MD t S k m z C=k Uz
 | 0,_,_,_,_,_,h,_=>absurd h (by omega)
 | m+1,i,_,C,rfl,hi,hm,HG=>by
   rw [MD];have bu:=HG.len;have bS:=p3.f6;by_cases h:(i:Int)<(S.length:Int)
   ·(have qX:i<S.length:=by omega);have nG:=cl _ (sI qX);have nC:=P2 (l:=t.2) (i:=S[i]) ⟨nG.1,nG.2⟩;have ad:=p3.left _ nC;have af:=p3.right _ nC;have cB:=HG.step (i:=S[i]) (by simp;omega) ⟨ad.1,by omega⟩ ⟨af.1,by omega⟩;rw [←K2 qX] at cB;rw [if_pos (decide_eq_true h),qg ⟨by omega,h⟩,q3 qX,qg nG,qg ⟨ad.1,by omega,bu.symm⟩,qg ⟨ad.1,by omega,bu.symm⟩,qg nG,qg ⟨af.1,by omega,by simp [bu]⟩,qg ⟨af.1,by omega,by simp [bu]⟩,rG i (by omega)];exact Zq p3 cl ao m (i+1) _ _ rfl (by omega) (by omega) cB
   ·rw [if_neg (by simpa using h)]
    have:i=S.length:=by omega
    subst this;rw [tC] at HG;exact ⟨C,HG,rfl⟩
theorem Yv (n:Nat):((n:Int).tmod 2=1)↔n % 2=1:=by
 rw [Int.tmod_eq_emod_of_nonneg (by omega)];omega
theorem T6 (q:Int→Bool) (i:Nat):(upto (i+1)).filter q=(upto i).filter q++if q (i:Int) then [(i:Int)] else []:=by
 rw [QA,uG,tP,List.filter_nil]
theorem Uq {S C:List Int} (HG:J9 t 6 S C) {k:List Int→Option (List Int)}:∀ (m i:Nat) (z:Int),z=i→i≤6→6-i<m →
  Kt C k m ((upto i).filter fun f=>decide (qQ t S f % 2=1)) z=k (rr t S)
 | 0,_,_,_,_,h=>absurd h (by omega)
 | m+1,i,_,rfl,hi,hm=>by
   rw [Kt];have ao:((upto i).filter fun f=>decide (qQ t S f % 2=1)).length≤6:=sL (tQ _ _) (by rw [Hx];exact hi);by_cases h:(i:Int)<6
   ·rw [if_pos (decide_eq_true h),qg ⟨by omega,h,HG.len⟩,qg (by decide),HG.val i (by omega) h];by_cases aq:qQ t S (i:Int) % 2=1
    ·rw [if_pos (decide_eq_true ((Yv _).2 aq)),qg ⟨rfl,by omega,by omega⟩,th,tC,qg (by omega),rG i (by omega)];have ai:=T6 (fun f=>decide (qQ t S f % 2=1)) i;rw [if_pos (decide_eq_true aq)] at ai;rw [←ai];exact Uq HG m (i+1) _ rfl (by omega) (by omega)
    ·rw [if_neg (by simpa [Yv] using aq),rG i (by omega)];have ai:=T6 (fun f=>decide (qQ t S f % 2=1)) i;rw [if_neg (by simpa using aq),sW] at ai;rw [←ai];exact Uq HG m (i+1) _ rfl (by omega) (by omega)
   ·rw [if_neg (by simpa using h)]
    have:i=6:=by omega
    subst this;rfl
theorem Zp (p3:qA t) {S:List Int} (cl:rD t S) (ao:S.length≤1000):MC t S=some (rr t S):=by
 rw [MC]
 obtain ⟨C,HG,aj⟩:=Zq p3 cl ao (k:=fun yg =>
   p9 (yg.length=6) <|
   p9 (yg.length=6) <|
   if (decide (yg=[(0:Int),(0:Int),(0:Int),(0:Int),(0:Int),(0:Int)]))=true then
    some []
   else
    p9 (yg.length=6) <|
    Kt yg (fun oH =>
      some oH) p' ([]:List Int) (0:Int)) p' 0 0 _ rfl (by omega) (rL (by omega)) (by rw [tj];exact J9.zero 6)
 rw [aj,qg HG.len,qg HG.len];split
 ·rename_i h;have h:=of_decide_eq_true h;congr 1
  symm
  refine List.filter_eq_nil_iff.2 fun f aP=>?_;have aP:=rq.1 aP;have ae:=HG.val f aP.1 aP.2;have e:C=List.replicate 6 (0:Int):=h;rw [e,Sy] at ae
  have:qQ t S f=0:=by omega
  simp [this]
 ·rw [qg HG.len];exact Uq HG p' 0 0 rfl (by omega) (rL (by omega))
theorem Zt (ag:t.2.length≤1000) {k:List Int→Option (List Int)}:∀ (m i:Nat) (z:Int),z=i→i≤t.2.length→t.2.length-i<m→ME t k m (upto i) z=k (upto t.2.length)
 | 0,_,_,_,_,h=>absurd h (by omega)
 | m+1,i,_,rfl,hi,hm=>by
   rw [ME];by_cases h:(i:Int)<(t.2.length:Int)
   ·rw [if_pos (decide_eq_true h),qg (by rw [Hx];omega),rG i (by omega),←QA];exact Zt ag m (i+1) _ rfl (by omega) (by omega)
   ·rw [if_neg (by simpa using h),show i=t.2.length by omega]
theorem Zs (ag:t.2.length≤1000):O5 t=some (upto t.2.length):=Zt ag p' 0 0 rfl (by omega) (rL (by omega))
end
end Go.Proofs.YtfakoboiahbhaaaGreat.Ab


namespace Go.Proofs.YtfakoboiahbhaaaGreat.Ab
open Go
theorem XW {α:Type} [BEq α] [LawfulBEq α]:∀ (a b:List α),a.Nodup→(∀ x∈a,x∈b)→a.length≤b.length
 | [],_,_,_=>sC _
 | x::a,b,aN,h=>by
   obtain ⟨ad,af⟩:=uc.1 aN;have ak:=h x (by simp);have:=XW a (b.erase x) af fun y aY=>by
    have bN:y≠x:=fun e=>ad (e ▸ aY);exact (List.mem_erase_of_ne bN).2 (h y (by simp [aY]))
   rw [List.length_erase_of_mem ak] at this;have:=List.length_pos_of_mem ak;simp only [sM];omega
section
variable {b t:p5}
structure RowsOf (b:p5) (S:List Int) (R:List Row):Prop where
 ok:∀ r∈R,∀ p∈r,H0 b p
 go:∀ r∈R,∃ a c,qD b a r=some c
 all:((R.flatten).map (·.1)).Perm S
theorem RowsOf.app {S S':List Int} {R UE:List Row} (h:RowsOf b S R) (aX:RowsOf b S' UE):RowsOf b (S++S') (R++UE):=by
 refine ⟨fun r aj=>?_,fun r aj=>?_,?_⟩
 ·rcases sN.1 aj with aj | aj
  ·exact h.ok r aj
  ·exact aX.ok r aj
 ·rcases sN.1 aj with aj | aj
  ·exact h.go r aj
  ·exact aX.go r aj
 ·rw [vn,s_];exact h.all.append aX.all
theorem RowsOf.nil:RowsOf b [] []:=⟨fun r aj=>absurd aj (by simp),fun r aj=>absurd aj (by simp),by simp⟩
def NZ (b:p5):Row→List Int
 | []=>[]
 | p::r=>[qx b p,(qD b (qx b p) (p::r)).getD 0]
theorem acH {r:Row} {a c v:Int} (h:qD b a r=some c) (aq:qQ b (r.map (·.1)) v % 2=1):v∈NZ b r:=by
 cases r with
 | nil=>simp [L1] at aq
 | cons p r =>
   have ag:=(Je.1 h).1;have aB:=OO _ _ _ v h;show v∈[qx b p,(qD b (qx b p) (p::r)).getD 0];rw [ag,h];simp only [Option.getD_some,sq,List.not_mem_nil,or_false];by_cases ad:a=v
   ·exact .inl ad.symm
   ·by_cases af:c=v
    ·exact .inr af.symm
    ·rw [if_neg ad,if_neg af] at aB;omega
theorem VK (v:Int):∀ (R:List Row),qQ b ((R.flatten).map (·.1)) v % 2=1→∃ r∈R,qQ b (r.map (·.1)) v % 2=1
 | [],h=>by simp [L1] at h
 | r::R,h=>by
   rw [ub,s_,Py] at h;by_cases ad:qQ b (r.map (·.1)) v % 2=1
   ·exact ⟨r,by simp,ad⟩
   ·obtain ⟨q,aZ,af⟩:=VK v R (by omega);exact ⟨q,by simp [aZ],af⟩
theorem VM:∀ (R:List Row),(R.flatMap (NZ b)).length≤2*(R.filter fun r=>!r.isEmpty).length
 | []=>by simp
 | r::R=>by
   have a9:=VM R;rw [ua,sr,tP];cases r with
   | nil=>simpa [NZ] using a9
   | cons p r =>
     rw [if_pos (by simp)];simp only [NZ,sM,uS] at *;omega
theorem RowsOf.few {S:List Int} {R:List Row} (h:RowsOf b S R):(rr b S).length≤2*(R.filter fun r=>!r.isEmpty).length:=by
 refine sL (XW _ (R.flatMap (NZ b)) ((OA S).imp fun h e=>by omega) fun v ae=>?_) (VM R);have ae:=(Kj.1 ae).2;rw [←Pz h.all] at ae;obtain ⟨r,aj,ad⟩:=VK v R ae;obtain ⟨a,c,HJ⟩:=h.go r aj;exact List.mem_flatMap.2 ⟨r,aj,acH HJ ad⟩
def IG (l:List (Int×Int)) (v:Int):Nat:=(l.map fun e=>Il e v).sum
theorem acB (e:Int×Int) (l:List (Int×Int)) (v:Int):IG (e::l) v=Il e v+IG l v:=by simp [IG]
theorem acA (l l':List (Int×Int)) (v:Int):IG (l++l') v=IG l v+IG l' v:=by simp [IG]
theorem VJ (S:List Int) (v:Int):qQ b S v=IG (S.map (ix b.2)) v:=by
 unfold qQ IG;rw [tp];rfl
theorem WX {α:Type} [Inhabited α] (l:List α):(upto l.length).map (ix l)=l:=by
 refine List.ext_getElem (by simp [Hx]) fun i ad af=>?_;simp only [upto,uF,List.getElem_range];exact q3 af
theorem acC (v:Int):qQ b (upto b.2.length) v=IG b.2 v:=by rw [VJ,WX]
def Hw:List Int→List (Int×Int)
 | x::y::r=>(x,y)::Hw r
 | _=>[]
theorem Yt:∀ (l:List Int),(Hw l).length=l.length / 2
 | []=>rfl
 | [_]=>by simp [Hw]
 | x::y::r=>by simp only [Hw,sM,Yt r];omega
theorem Ys:∀ (l:List Int) (v:Int),l.Nodup→l.length % 2=0→IG (Hw l) v=if v∈l then 1 else 0
 | [],v,_,_=>by simp [Hw,IG]
 | [_],_,_,h=>by simp at h
 | x::y::r,v,aN,h=>by
   obtain ⟨ad,af⟩:=uc.1 aN;obtain ⟨aG,a5⟩:=uc.1 af;have a9:=Ys r v a5 (by simp only [sM] at h;omega);rw [Hw,acB,a9];unfold Il;have Ib:x≠y:=fun e=>ad (by simp [e]);by_cases e1:v=x
   ·subst e1
    have:v ∉ r:=fun hm=>ad (by simp [hm])
    simp [this,Ne.symm Ib]
   ·by_cases b':v=y
    ·subst b';simp [aG,Ib]
    ·simp [e1,b',Ne.symm e1,Ne.symm b']
theorem Yu:∀ (l:List Int) (e:Int×Int),e∈Hw l→e.1∈l∧e.2∈l
 | [],e,h=>by simp [Hw] at h
 | [_],e,h=>by simp [Hw] at h
 | x::y::r,e,h=>by
   rw [Hw] at h;rcases sq.1 h with rfl | h
   ·simp
   ·have:=Yu r e h;exact ⟨by simp [this.1],by simp [this.2]⟩
theorem ahn:∀ (n:Nat) (S:List Int),(∀ i∈S,0≤(ix b.2 i).1∧(ix b.2 i).1<(n:Int)∧0≤(ix b.2 i).2∧(ix b.2 i).2<(n:Int))→((upto n).map fun v=>qQ b S v).sum=2*S.length:=by
 have one:∀ (x:Int) (n:Nat),((upto n).map fun v=>if x=v then 1 else 0).sum=if 0≤x∧x<(n:Int) then 1 else 0:=by
  intro x n
  induction n with
  | zero=>rw [if_neg (by omega)];rfl
  | succ n a9 =>
    rw [QA,s_,wx,a9];simp only [sG,ui,vo,List.sum_nil];split <;> split <;> split <;> omega
 have add:∀ (l:List Int) (f g:Int→Nat),(l.map fun v=>f v+g v).sum=(l.map f).sum+(l.map g).sum:=by
  intro l f g
  induction l with
  | nil=>rfl
  | cons x l a9=>simp only [sG,vo,a9];omega
 intro n S h
 induction S with
 | nil =>
   have:∀ l:List Int,(l.map fun v=>qQ b [] v).sum=0:=fun l=>by
    induction l with
    | nil=>rfl
    | cons x l a9=>rw [sG,vo,a9,L1]
   exact this _
 | cons i S a9 =>
   have hi:=h i (by simp);simp only [NW];rw [add,a9 fun j aw=>h j (by simp [aw])];unfold Il;rw [add,one,one,if_pos ⟨hi.1,hi.2.1⟩,if_pos ⟨hi.2.2.1,hi.2.2.2⟩,sM];omega
theorem SH (p3:qA b) {S:List Int} (cl:rD b S):(rr b S).length % 2=0:=by
 have bS:=p3.f6;have ai:=ahn (b:=b) 6 S fun i hi=>by
  have hm:=P2 (l:=b.2) (i:=i) (cl i hi);have ad:=p3.left _ hm;have af:=p3.right _ hm;exact ⟨ad.1,by omega,af.1,by omega⟩
 have key:∀ l:List Int,(l.filter fun f=>decide (qQ b S f % 2=1)).length % 2=(l.map fun v=>qQ b S v).sum % 2:=by
  intro l
  induction l with
  | nil=>rfl
  | cons x l a9 =>
    rw [tP,sG,vo];split
    ·rename_i h;have h:=of_decide_eq_true h;rw [sM];omega
    ·rename_i h;(have h:¬ qQ b S x % 2=1:=by simpa using h);omega
 unfold rr;rw [key,ai];omega
def rU (b:p5) (S:List Int):p5:=(b.1,S.map (ix b.2)++Hw (rr b S))
theorem Ns (S:List Int):(rU b S).2.length=S.length+(rr b S).length / 2:=by
 unfold rU;simp [Yt]
theorem OS {S:List Int} {i:Nat} (h:i<S.length):ix (rU b S).2 (i:Int)=ix b.2 S[i]:=by
 have aG:i<(S.map (ix b.2)++Hw (rr b S)).length:=by simp;omega
 show ix (S.map (ix b.2)++Hw (rr b S)) (i:Int)=_;rw [q3 aG,vO (by simpa using h),uF]
theorem ahH {S:List Int} {i:Nat} (h:S.length≤i) (af:i<(rU b S).2.length):ix (rU b S).2 (i:Int)∈Hw (rr b S):=by
 have aG:i<(S.map (ix b.2)++Hw (rr b S)).length:=af;show ix (S.map (ix b.2)++Hw (rr b S)) (i:Int)∈_;rw [q3 aG,vQ (by simpa using h)];exact sI _
theorem ahG (p3:qA b) {S:List Int} (cl:rD b S) (v:Int):qQ (rU b S) (upto (rU b S).2.length) v % 2=0:=by
 rw [acC];show IG (S.map (ix b.2)++Hw (rr b S)) v % 2=0;rw [acA,←VJ,Ys _ _ ((OA S).imp fun h e=>by omega) (SH p3 cl)];split
 ·rename_i h;have:=(Kj.1 h).2;omega
 ·rename_i h;have bS:=p3.f6;refine Classical.byContradiction fun aN=>h (Kj.2 ⟨?_,by omega⟩)
  have:qQ b S v≠0:=fun e=>by rw [e] at aN;exact aN rfl
  refine Classical.byContradiction fun ae=>this (NY.2 fun i hi nC=>?_);have:=PA p3 (rq.2 (cl i hi)) nC;omega
theorem Yd {S:List Int} {f g:Int} (h:qT b S f g):qT (rU b S) (upto (rU b S).2.length) f g:=by
 induction h with
 | refl=>exact .refl
 | step i _ hi aC aI a9 =>
   obtain ⟨k,av,e⟩:=tY hi;have ao:=Ns (b:=b) S;refine .step (k:Int) a9 (rq.2 ⟨by omega,by omega⟩) ?_ ?_
   ·unfold qC at aC ⊢;rw [OS av,e];exact aC
   ·unfold qC at aI ⊢;rw [OS av,e];exact aI
theorem round_part (p3:qA b) {S:List Int} (cl:rD b S) (ao:S.length≤990) (aU:S≠[]) (al:∀ x∈S,∀ y∈S,∀ f g,qC b x f→qC b y g→qT b S f g) :
  ∃ l a,Mn (rU b S)=some l∧Full (rU b S) l∧qD (rU b S) a l=some a:=by
 have hlen:=Ns (b:=b) S;have Ss:0<S.length:=uH.2 aU;have aq:(rr b S).length≤6:=sL (tQ _ _) (by rw [Hx];omega);have fY:ix (rU b S).2 0=ix b.2 S[0]:=OS (i:=0) Ss;obtain ⟨l,ad,af,aG⟩:=aiA (t:=rU b S) (ahG p3 cl) (by omega) (by omega) fun i hi=>by
  by_cases Wm:i<S.length
  ·refine ⟨(ix b.2 S[i]).1,.inl (by rw [OS Wm]),?_⟩;rw [fY];exact Yd (al _ (sI _) _ (sI Wm) _ _ (.inl rfl) (.inl rfl))
  ·have hm:=ahH (b:=b) (S:=S) (by omega) hi;refine ⟨(ix (rU b S).2 (i:Int)).1,.inl rfl,?_⟩;have JS:=(Kj.1 (Yu _ _ hm).1).2
   have:¬ ∀ x∈S,¬ qC b x (ix (rU b S).2 (i:Int)).1:=fun aN=>by
    rw [NY.2 aN] at JS;simp at JS
   have:∃ x∈S,qC b x (ix (rU b S).2 (i:Int)).1:=Classical.byContradiction fun aN=>this fun x ak aP=>aN ⟨x,ak,aP⟩
   obtain ⟨x,ak,aP⟩:=this;rw [fY];exact Yd (al _ (sI Ss) x ak _ _ (.inl rfl) aP)
 exact ⟨l,_,ad,af,aG⟩
theorem rb.acu {S:List Int} {out:List (List Int)} (h:rb b S out) {r:List Int} (aj:r∈out):∀ x∈r,∀ y∈r,∀ f g,qC b x f→qC b y g→qT b r f g:=by
 intro x ak y aY f g aP aO;have al:=h.H8 r aj x ak y aY f g aP aO;clear aO
 induction al with
 | refl=>exact .refl
 | step i pv hi aC aI a9=>exact .step i a9 (h.closed aj ak aP pv i hi aC) aC aI
end
end Go.Proofs.YtfakoboiahbhaaaGreat.Ab


namespace Go.Proofs.YtfakoboiahbhaaaGreat.Ab
open Go
def rR (S:List Int):Row→Row→List Row
 | own,[]=>if 0<own.length then [own] else []
 | own,p::r=>if p.1<(S.length:Int) then rR S (own++[(ix S p.1,p.2)]) r else own::rR S [] r
section
variable {b:p5} {S:List Int}
theorem XT:∀ (m l:Row) (own:Row),(∀ p∈m,p.1<(S.length:Int))→rR S own (m++l)=rR S (own++m.map fun p=>(ix S p.1,p.2)) l
 | [],l,own,_=>by simp
 | p::m,l,own,h=>by
   rw [uA,rR,if_pos (h p (by simp)),XT m l _ fun q aZ=>h q (by simp [aZ])];simp
theorem abQ {p:Int×Int} (ad:0≤p.1) (af:p.1<(S.length:Int)):qx (rU b S) p=qx b (ix S p.1,p.2)∧fin (rU b S) p=fin b (ix S p.1,p.2):=by
 obtain ⟨i,hi⟩:∃ i:Nat,p.1=(i:Int):=⟨p.1.toNat,by omega⟩;unfold qx fin;rw [hi,OS (by omega),q3 (by omega)];exact ⟨rfl,rfl⟩
theorem Qx (cl:rD b S):∀ (l own:Row),(∀ p∈own,H0 b p)→(∀ p∈l,H0 (rU b S) p)→∀ r∈rR S own l,∀ p∈r,H0 b p
 | [],own,ad,_=>by
   rw [rR];split
   ·intro r aj;rw [sO.1 aj];exact ad
   ·intro r aj;simp at aj
 | q::l,own,ad,af=>by
   rw [rR];have aZ:=af q (by simp);split
   ·rename_i aS;refine Qx cl l _ (fun p aB=>?_) fun p aB=>af p (by simp [aB]);rcases sN.1 aB with aB | aB
    ·exact ad p aB
    ·rw [sO.1 aB];have hm:ix S q.1∈S:=by
      obtain ⟨i,hi⟩:∃ i:Nat,q.1=(i:Int):=⟨q.1.toNat,by have:=aZ.1;omega⟩;rw [hi,q3 (by omega)];exact sI _
     exact ⟨(cl _ hm).1,(cl _ hm).2,aZ.2.2.1,aZ.2.2.2⟩
   ·intro r aj;rcases sq.1 aj with rfl | aj
    ·exact ad
    ·exact Qx cl l [] (fun p aB=>absurd aB (by simp)) (fun p aB=>af p (by simp [aB])) r aj
theorem Qw:∀ (l own:Row) (js a e:Int),qD b js own=some a→qD (rU b S) a l=some e→(∀ p∈l,H0 (rU b S) p)→∀ r∈rR S own l,∃ a c,qD b a r=some c
 | [],own,js,a,e,ad,_,_=>by
   rw [rR];split
   ·intro r aj;rw [sO.1 aj];exact ⟨_,_,ad⟩
   ·intro r aj;simp at aj
 | q::l,own,js,a,e,ad,af,aG=>by
   rw [rR];obtain ⟨ca,b5⟩:=Je.1 af;have aZ:=aG q (by simp);split
   ·rename_i aS;obtain ⟨bp,cH⟩:=abQ (b:=b) aZ.1 aS;refine Qw l _ js (fin (rU b S) q) e ?_ b5 fun p aB=>aG p (by simp [aB]);rw [Jz,ad,sc];exact Kn.2 ⟨by rw [←bp];exact ca,cH.symm⟩
   ·intro r aj;rcases sq.1 aj with rfl | aj
    ·exact ⟨_,_,ad⟩
    ·exact Qw l [] _ _ e rfl b5 (fun p aB=>aG p (by simp [aB])) r aj
def Hm (S:List Int) (p:Int×Int):Bool:=decide (p.1<(S.length:Int))
theorem Qv:∀ (l own:Row),(rR S own l).flatten.map (·.1)=own.map (·.1)++(l.filter (Hm S)).map fun p=>ix S p.1
 | [],own=>by
   rw [rR];split
   ·simp
   ·have:own=[]:=tA.1 (by omega)
    simp [this]
 | q::l,own=>by
   rw [rR,tP];split
   ·rename_i h;have aX:Hm S q=true:=decide_eq_true h;rw [Qv l,if_pos aX];simp
   ·rename_i h;(have aX:¬ Hm S q=true:=by simpa [Hm] using h);rw [ub,s_,Qv l,if_neg aX];simp
theorem T1 {q:Int×Int} (aZ:Hm S q=false):∀ (m own:Row),(rR S own (m++[q])).length=(m.filter fun p=>!Hm S p).length+1
 | [],own=>by
   have:¬ q.1<(S.length:Int):=by simpa [Hm] using aZ
   rw [tN,rR,if_neg this];simp [rR]
 | p::m,own=>by
   rw [uA,rR,tP];split
   ·rename_i h;have aX:Hm S p=true:=decide_eq_true h;rw [T1 aZ m,aX];simp
   ·rename_i h;(have aX:Hm S p=false:=by simpa [Hm] using h);rw [sM,T1 aZ m,aX];simp
theorem SQ {α:Type} (p:α→Bool):∀ (l:List α) (i:Nat),(posOf p l i=-1∧∀ x∈l,p x=false)∨∃ dI q kU,l=dI++q::kU∧p q=true∧posOf p l i=((i+dI.length:Nat):Int)
 | [],i=>.inl ⟨rfl,fun x ak=>by simp at ak⟩
 | x::l,i=>by
   rw [posOf];by_cases h:p x=true
   ·rw [if_pos h];exact .inr ⟨[],x,l,rfl,h,rfl⟩
   ·rw [if_neg h];rcases SQ p l (i+1) with ⟨ad,af⟩ | ⟨dI,q,kU,rfl,af,aG⟩
    ·refine .inl ⟨ad,fun y aY=>?_⟩;rcases sq.1 aY with rfl | aY
     ·simpa using h
     ·exact af y aY
    ·refine .inr ⟨x::dI,q,kU,rfl,af,?_⟩;rw [aG,sM];congr 1;omega
theorem Full.perm {t:p5} {l l':Row} (h:Full t l) (aB:l'.Perm l):Full t l' :=
 ⟨fun p ad4=>h.ok p (aB.mem_iff.1 ad4),(aB.map _).nodup_iff.2 h.r5,fun i hi=>(aB.map (·.1)).mem_iff.2 (h.all i hi)⟩
theorem Full.upto {t:p5} {l:Row} (h:Full t l):(l.map (·.1)).Perm (upto t.2.length):=by
 refine (uK h.r5 (J4 _)).2 fun x=>?_;rw [rq];constructor
 ·intro ak;obtain ⟨p,aB,rfl⟩:=sk.1 ak;have:=h.ok p aB;exact ⟨this.1,this.2.1⟩
 ·rintro ⟨ad,af⟩;obtain ⟨i,rfl⟩:∃ i:Nat,x=(i:Int):=⟨x.toNat,by omega⟩;exact h.all i (by omega)
theorem Full.own {l:Row} (h:Full (rU b S) l):((l.filter (Hm S)).map fun p=>ix S p.1).Perm S:=by
 have ad:((l.filter (Hm S)).map (·.1)).Perm (Ab.upto S.length):=by
  refine (uK ((List.filter_sublist.map _).nodup h.r5) (J4 _)).2 fun x=>?_;rw [rq,sk];constructor
  ·rintro ⟨p,aB,rfl⟩;rw [sP] at aB;exact ⟨(h.ok p aB.1).1,by simpa [Hm] using aB.2⟩
  ·rintro ⟨ad,af⟩;have hm:x∈l.map (·.1):=h.upto.mem_iff.2 (rq.2 ⟨ad,by rw [Ns];omega⟩);obtain ⟨p,aB,rfl⟩:=sk.1 hm;exact ⟨p,sP.2 ⟨aB,decide_eq_true af⟩,rfl⟩
 have af:=ad.map (ix S);rw [WX,tp] at af;exact af
theorem VS {α:Type} (q:α→Bool):∀ l:List α,l.length=(l.filter q).length+(l.filter fun x=>!q x).length
 | []=>rfl
 | x::l=>by
   rw [tP,tP,sM,VS q l];cases q x <;> simp <;> omega
theorem Full.threads {l:Row} (h:Full (rU b S) l):(l.filter fun p=>!Hm S p).length=(rr b S).length / 2:=by
 have ad:=h.upto.length_eq;have af:=h.own.length_eq;rw [sX] at ad af;rw [Hx,Ns] at ad;have aG:=VS (Hm S) l;omega
def J1 (S:List Int) (l:Row):Row:=let c:=posOf (fun p=>!Hm S p) l 0;if 0≤c then l.drop (c+1).toNat++l.take (c+1).toNat else l
theorem agU (l:Row):(J1 S l=l∧∀ p∈l,Hm S p=true)∨∃ dI q kU,l=dI++q::kU∧Hm S q=false∧J1 S l=(kU++dI)++[q]:=by
 unfold J1;rcases SQ (fun p=>!Hm S p) l 0 with ⟨ad,af⟩ | ⟨dI,q,kU,rfl,af,aG⟩
 ·left;rw [ad];exact ⟨rfl,fun p aB=>by simpa using af p aB⟩
 ·right;refine ⟨dI,q,kU,rfl,by simpa using af,?_⟩;rw [aG];simp only [sS];rw [if_pos (by omega),show ((dI.length:Int)+1).toNat=dI.length+1 by omega];have e:dI++q::kU=(dI++[q])++kU:=by simp
  rw [e,List.drop_left' (by simp),List.take_left' (by simp),sD]
structure UC (b:p5) (S:List Int) (R:List Row):Prop extends RowsOf b S R where
 ne:∀ r∈R,r≠[]
 len:R.length=max 1 ((rr b S).length / 2)
theorem W7 (p3:qA b) (cl:rD b S) (aU:S≠[]) {l:Row} {a:Int} (bE:Full (rU b S) l) (aO:qD (rU b S) a l=some a):UC b S (rR S [] (J1 S l)):=by
 have Ss:0<S.length:=uH.2 aU;have St:=bE.threads;have ma:=SH p3 cl;rcases agU (S:=S) l with ⟨ad,af⟩ | ⟨dI,q,kU,rfl,af,aG⟩
 ·rw [ad];have jB:RowsOf b S (rR S [] l):=⟨Qx cl l [] (fun p aB=>absurd aB (by simp)) bE.ok,Qw l [] a a a rfl aO bE.ok,by rw [Qv];simpa using bE.own⟩;have e:(l.filter fun p=>!Hm S p)=[]:=List.filter_eq_nil_iff.2 fun p aB=>by simp [af p aB]
  rw [e] at St;simp only [uS] at St;have ao:0<l.length:=by
   have:=bE.upto.length_eq;rw [sX,Hx,Ns] at this;omega
  have ai:rR S [] l=[l.map fun p=>(ix S p.1,p.2)]:=by
   have:=XT (S:=S) l [] [] fun p aB=>of_decide_eq_true (af p aB);rw [sW,tN] at this;rw [this,rR,if_pos (by simpa using ao)]
  refine ⟨jB,fun r aj=>?_,?_⟩
  ·rw [ai] at aj;rw [sO.1 aj];intro e;have:=congrArg List.length e;simp at this;rw [this] at ao;simp at ao
  ·rw [ai,←St];rfl
 ·rw [aG];have IM:(kU++dI++[q]).Perm (dI++q::kU):=by
   rw [show dI++q::kU=(dI++[q])++kU by simp,sD];exact wq
  have PM:=bE.perm IM;have Sn:∃ aM,qD (rU b S) aM (kU++dI++[q])=some aM:=by
   rw [show dI++q::kU=(dI++[q])++kU by simp,Jz] at aO;obtain ⟨c,ca,b5⟩:=qj aO;refine ⟨c,?_⟩;rw [sD,Jz,b5];exact ca
  obtain ⟨aM,Sn⟩:=Sn;have jB:RowsOf b S (rR S [] (kU++dI++[q])):=⟨Qx cl _ [] (fun p aB=>absurd aB (by simp)) PM.ok,Qw _ [] aM aM aM rfl Sn PM.ok,by rw [Qv];simpa using PM.own⟩;have aec:=PM.threads;rw [uG,sr] at aec;have ad7:([q].filter fun p=>!Hm S p).length=1:=by simp [af]
  have hlen:=T1 af (kU++dI) [];have Sl:=jB.few;have hle:=tQ (fun r:Row=>!r.isEmpty) (rR S [] (kU++dI++[q]));refine ⟨jB,fun r aj=>?_,by omega⟩;have heq:((rR S [] (kU++dI++[q])).filter fun r=>!r.isEmpty).length=(rR S [] (kU++dI++[q])).length:=by omega
  have:=List.length_filter_eq_length_iff.1 heq r aj;intro e;rw [e] at this;simp at this
end
end Go.Proofs.YtfakoboiahbhaaaGreat.Ab


namespace Go.Proofs.YtfakoboiahbhaaaGreat.Ab
open Go
set_option maxRecDepth 20000
set_option maxHeartbeats 4000000
theorem Rel.SE {J:List Nat} {S:Nat→Nat→Prop} {w:World} {cells:List I} {v:Value} (h:Rel J S w (.bT cells) v):Rel J S w (.bT (cells.map I.gY)) v:=by
 cases h with
 | bT _ b o f k eU =>
   refine .bT _ b o f (fun j u aw=>?_) (fun j u aw=>?_)
   ·rw [ss] at aw;simp only [sa] at aw;obtain ⟨x,ak,rfl⟩:=aw;obtain ⟨aC,aI,aR,bk⟩:=k j x ak;exact ⟨aC,aI,yz aR,bk⟩
   ·rw [ss] at aw;simp only [sa] at aw;obtain ⟨x,ak,rfl⟩:=aw;exact (eU j x ak).gY
theorem lC.SE {P:Program} {k:FuncId} {cs:List I} {v:I} (h:lC P k [.bT (cs.map I.gY)] v):lC P k [.bT cs] v :=
 ⟨⟨h.1.1,h.1.2.1,fun B U J S w vs ah aN ae=>h.1.2.2 B U J S w vs ah aN ⟨by simpa using ae.len,fun i u x hu ak=>by
   cases i with
   | zero =>
     obtain rfl:=Option.some.inj hu;exact (ae.rel 0 _ x rfl ak).SE
   | succ i=>simp at hu,fun i u x hu ak=>by
   cases i with
   | zero=>obtain rfl:=Option.some.inj hu;exact aV.b3 rfl
   | succ i=>simp at hu⟩⟩,h.2⟩
theorem call7 {P:Program} {k:FuncId} {H:List ar} {lo id:Nat} {l cs:List I} {v:I} (bB:lo≤id) (ah:H[id]?=some (.cells l)) (al:l.map I.view=cs) (aB:ch 8 (.bT cs)=true) {ds:List I} (a2:cs.map I.gY=ds) (h:lC P k [.bT ds] v):oJ P 7 lo (.fn k) [.ptr id 0] H v.cq (H.set id .dead):=by
 have h:lC P k [.bT cs] v:=lC.SE (by rw [a2];exact h);refine ⟨_,Ew (XK (by simp [aB]) h []),?_⟩;simp only [eZ,bB,if_true,ah,al,aB];show ((k1 (.fn k) [.bT cs] [] 0 v []) (.fn k) [.bT cs] [] 0).bind _=_;rw [Ev,sc];show (bI [] 0 0 0 8 v).map _=_;rw [o9 h.2];rfl
theorem ac0:((List.range 24).all fun n=>match Qq [] 129 [.ax [] 0 .full,.int .i64 ((n+1:Nat):Int)] with | some v=>Ik 3 v (.ax [] 0 (.own 2)) | none=>false)=true:=by kernel_rfl
def Ud (s:List (Int×Int)) (n:Int):Option (List (Int×Int)):=p9 (s=[]∧0<n∧n≤24) (some s)
theorem aiH {s v:List (Int×Int)} {n:Int} (h:Ud s n=some v):qw 129 [.ax [] 0 .full,hU n] (.ax (v.flatMap p2) v.length (.own 2)):=by
 obtain ⟨⟨rfl,aU,ad⟩,h⟩:=qB h;obtain rfl:=Option.some.inj h;obtain ⟨k,rfl⟩:∃ k:Nat,n=((k+1:Nat):Int):=⟨n.toNat-1,by omega⟩;have:=sv.1 ac0 k (sK.2 (by omega));split at this
 ·rename_i v ae;rw [MU _ _ _ this] at ae;exact r8 (l:=[]) (by simp) ae
 ·cases this

noncomputable def ZO:fT :=
 pY [GC 2 [.jf 0] .box,GC 3 [.lR (.bool false)] .mN] (pY [qF 4 2 0,qc 5 4,qc 6 1,qM 7 6,qI 8 5 7 .geq,pX 3 8] .ret)
theorem aeM:zD Tryz.prog UR 105=some (ZO,9,[.tmp 3]):=by kernel_rfl
def OT (p:(Int×Int)) (gV:p7):Option Bool :=
 some (decide ((gV.length:Int)≤p.1))
theorem Ub {p:(Int×Int)} {gV:p7} {v:Bool} (h:OT p gV=some v):qw 105 [(.agg [(hU p.1),(hU p.2)]),(.bT [(.ax (gV.map hU) gV.length .shared)])] (B v):=by
 refine q7 eo aeM rfl rfl fun Q bo=>?_;have jB:qK [.tmp 3] Q (fun v=>(B v)) v:=fun T H bH=>bo _ T H bH;unfold OT at h;unfold ZO;conv=>whnf
 exact qd h jB rfl rfl

noncomputable def QT:fT :=
 .loop (some (p_ false [0, 1, 2, 1, 5, 3, 24])) (pY [GC 12 [.sl 11, .sl 10] (.bin .lss)] (.seq (.cond (.sl 12) .skip (.exit 0)) (.seq (.block 1 (pY [GC 13 [.sl 9, .sl 11] (.kQ 1), qc 14 13, pX 5 14] (pY [pX 15 3, pX 16 5, qM 17 16, qI 18 15 17 .add, pX 3 18] (pY [pZ 19 3, qq 20 19 0 .lss] (.cond (.sl 20) (qv [GC 21 [.lR (.str (ByteArray.mk (Array.mk [108, 101, 110, 32, 111, 117, 116, 32, 111, 102, 32, 114, 97, 110, 103, 101])))] (.other (Oper.mk (some 21) (Op.makeInterface 9 (Operand.const (Value.string (ByteArray.mk (Array.mk [108, 101, 110, 32, 111, 117, 116, 32, 111, 102, 32, 114, 97, 110, 103, 101]))))) 20 "slices.go:496" (Array.mk []) none) 0), ⟨none, [.Bs 21], none, none, .other (Oper.mk none (Op.panic (Operand.tmp 21)) 0 "slices.go:496" (Array.mk [Edge.mk 0 Ground.data]) none) 0⟩]) .skip))))) (qv [qE 22 11 1, pX 11 22]))))
noncomputable def QU:fT :=
 .loop (some (p_ false [6,1,18,3,8])) (pY [GC 28 [.sl 27,.sl 26] (.bin .lss)] (.seq (.cond (.sl 28) .skip (.exit 2)) (.seq (.block 3 (pY [GC 29 [.sl 25,.sl 27] (.kQ 1),qc 30 29,pX 8 30] (qv [pX 31 6,pX 32 8,GC 33 [.jf 31,.jf 32] (.app 2 16),pX 6 33]))) (qv [qE 34 27 1,pX 27 34]))))
noncomputable def ZP:fT :=
 pY [GC 2 [.lR (.ax [] 0 .full)] (.nil 2)] (pY [qa 3 0] (.seq (pY [pZ 9 0,GC 10 [.sl 9] .zC,qa 11 0] (.block 0 QT)) (pY [pX 23 3,GC 24 [.lR (.func 129 [] []),.lR (.ax [] 0 .full),.sl 23] (.call 0),pX 6 24] (.seq (pY [pX 25 0,GC 26 [.sl 25] .zC,qa 27 0] (.block 2 QU)) (pY [pX 35 6,pX 2 35] .ret)))))
theorem aeN:zD Tryz.prog Pl 106=some (ZP,36,[.tmp 2]):=by kernel_rfl
def LI (slices:qz) (qb:Int→Option qk):Nat→Int→Int→Option qk
 | 0,_,_=>none
 | m+1,s1,s2 =>
   if (decide (s2<(slices.length:Int)))=true then
    p9 (0≤s2∧s2<(slices.length:Int)) <|
    if (decide ((w (s1+((ix slices s2).length:Int)))<(0:Int)))=true then
     none
    else
     LI slices qb m (w (s1+((ix slices s2).length:Int))) (w (s2+(1:Int)))
   else
    qb s1
def LJ (slices:qz) (qt:qk→Option qk):Nat→qk→Int→Option qk
 | 0,_,_=>none
 | m+1,s3,G' =>
   if (decide (G'<(slices.length:Int)))=true then
    p9 (0≤G'∧G'<(slices.length:Int)) <|
    p9 ((s3.length+(ix slices G').length)*16≤140737488355328) <|
    LJ slices qt m (s3++(ix slices G')) (w (G'+(1:Int)))
   else
    qt s3
def Nw (slices:qz):Option qk :=
 LI slices (fun yg =>
   (Ud [] yg).bind fun r1 =>
   LJ slices (fun oH =>
     some oH) p' r1 (0:Int)) p' (0:Int) (0:Int)
theorem aiB {slices:qz} {qb:Int→Option qk} {s1:Int} {s2:Int} {v:qk} {Q:rM}   (rI:∀ (yg:Int) (p8:List I),qb yg=some v→rn 36 [(0,(.ax (slices.map (qJ p2)) slices.length .shared)),(3,(hU yg))] p8→Q (.exit 0) p8 []) {T:List I} (bW:eX (p_ false [0,1,2,1,5,3,24]) T=Hc 36 [(0,(.ax (slices.map (qJ p2)) slices.length .shared)),(3,(hU s1)),(9,(.ax (slices.map (qJ p2)) slices.length .shared)),(10,(hU (slices.length:Int))),(11,(hU s2))]) (h:LI slices qb p' s1 s2=some v) :
  dO Tryz.prog Pl 106 0 none QT T [] Q:=by
 unfold QT;refine wp_loop bW ?_;refine .intro (fun m T H=>∃ (s1 s2:Int),T=Hc 36 [(0,(.ax (slices.map (qJ p2)) slices.length .shared)),(3,(hU s1)),(9,(.ax (slices.map (qJ p2)) slices.length .shared)),(10,(hU (slices.length:Int))),(11,(hU s2))]∧H=[]∧LI slices qb m s1 s2=some v) p' ⟨s1,s2,rfl,rfl,h⟩ ?_;clear h bW;rintro m T H ⟨s1,s2,rfl,rfl,h⟩;cases m
 ·exact ri h
 rename_i m;rw [LI.eq_2] at h;conv=>whnf
 refine bs h (fun gD h=>?_) fun gD h=>?_
 ·rw [gD];conv=>whnf
  refine qs h id fun gE h=>?_;rw [Hh (qJ p2) slices s2 gE];conv=>whnf
  refine bs h (fun qo h=>?_) fun qo h=>?_
  ·rw [qo];(conv=>whnf);exact ri h
  ·rw [qo];(conv=>whnf);exact ⟨m,su m,(w (s1+((ix slices s2).length:Int))),(w (s2+(1:Int))),rfl,rfl,h⟩
 ·rw [gD];conv=>whnf
  exact rI _ _ h ⟨rfl,rfl⟩
theorem aiC {slices:qz} {qt:qk→Option qk} {s3:qk} {G':Int} {v:qk} {Q:rM}   (HK:∀ (oH:qk) (p8:List I),qt oH=some v→rn 36 [(6,(p6 oH (.own 2)))] p8→Q (.exit 2) p8 []) {T:List I} (bW:eX (p_ false [6,1,18,3,8]) T=Hc 36 [(6,(p6 s3 (.own 2))),(25,(.ax (slices.map (qJ p2)) slices.length .shared)),(26,(hU (slices.length:Int))),(27,(hU G'))]) (h:LJ slices qt p' s3 G'=some v) :
  dO Tryz.prog Pl 106 0 none QU T [] Q:=by
 unfold QU;refine wp_loop bW ?_;refine .intro (fun m T H=>∃ (s3:qk) (G':Int),T=Hc 36 [(6,(p6 s3 (.own 2))),(25,(.ax (slices.map (qJ p2)) slices.length .shared)),(26,(hU (slices.length:Int))),(27,(hU G'))]∧H=[]∧LJ slices qt m s3 G'=some v) p' ⟨s3,G',rfl,rfl,h⟩ ?_;clear h bW;rintro m T H ⟨s3,G',rfl,rfl,h⟩;cases m
 ·exact ri h
 rename_i m;rw [LJ.eq_2] at h;conv=>whnf
 refine bs h (fun qY h=>?_) fun qY h=>?_
 ·rw [qY];conv=>whnf
  refine qs h id fun rJ h=>?_;rw [Hh (qJ p2) slices G' rJ];conv=>whnf
  obtain ⟨ra,h⟩:=qB h;refine ⟨by first | rfl | (simp;done) | exact Im p2 _ qy _,by have:=ra;omega,rfl,ra,?_⟩
  erw [RA p2 s3 (ix slices G')];conv=>whnf
  exact ⟨m,su m,(s3++(ix slices G')),(w (G'+(1:Int))),rfl,rfl,h⟩
 ·rw [qY];conv=>whnf
  exact HK _ _ h ⟨rfl,rfl⟩
theorem Uc {slices:qz} {v:qk} (h:Nw slices=some v):qw 106 [(.ax (slices.map (qJ p2)) slices.length .shared)] (.ax (v.flatMap p2) v.length .shared):=by
 refine q7 eo aeN rfl (q8 (fun _=>(p1 rfl (p1 rfl rfl))) _ _ _) fun Q bo=>?_;have jB:qK [.tmp 2] Q (fun v=>(p6 v .shared)) v:=fun T H bH=>bo _ T H bH;unfold Nw at h;unfold ZP;obtain ⟨HV,qO⟩:∃ c,QT=c:=⟨_,rfl⟩;rw [qO];obtain ⟨KD,r0⟩:∃ c,QU=c:=⟨_,rfl⟩;rw [r0];conv=>whnf
 subst qO;refine aiB ?_ (by exact rfl) h;intro yg p8 h qm;obtain ⟨rf,rfl⟩:=qm.ex;conv=>whnf
 obtain ⟨r1,qS,h⟩:=qj h;refine ⟨_,_,ab1 (p1 rfl (p1 rfl rfl)) (aiH qS) _ _,?_⟩;conv=>whnf
 subst r0;refine aiC ?_ (by exact rfl) h;intro oH p8 h qm;obtain ⟨rf,rfl⟩:=qm.ex;conv=>whnf
 exact qd h jB rfl rfl

noncomputable def Re:fT :=
 .loop (some (p_ false [0,1,2,1,1,2,12,3,10,3,98])) (pY [GC 35 [.sl 34,.sl 33] (.bin .lss)] (.seq (.cond (.sl 35) .skip (.exit 2)) (.seq (.block 3 (pY [GC 36 [.sl 32,.sl 34] (.kQ 1),qc 37 36,pX 8 37] (Hi [GC 38 [.sl 6] (.yG 0),qF 39 38 1,GC 40 [.Bs 39] .take,pZ 41 0,GC 42 [.Bs 41] .zX,qF 43 42 0,qF 44 43 1,qc 45 44,pX 46 8,qL 47 45 46 2,GC 48 [.Bs 47] (.zx (.str 2)),GC 49 [.Bs 48] (.yu 1 2 [.int .i64 0,.int .i64 0] [0]),GC 50 [.jf 40,.jf 49] (.app 2 16),GC 51 [.sl 6] (.yG 0),qF 52 51 1,⟨none,[.jf 52,.jf 50],none,none,.st 1⟩]))) (qv [qE 53 34 1,pX 34 53]))))
noncomputable def NL:fT :=
 .loop (some (p_ false [0,1,2,1,1,2,2,2,8,3,111])) (.seq (pY [pZ 57 10,qE 58 57 1,pZ 59 9,qM 60 59,qI 61 58 60 .lss] (.cond (.sl 61) .skip (.exit 4))) (.seq (.block 5 (Hi [GC 64 [.sl 6] (.yG 0),qF 65 64 1,GC 66 [.Bs 65] .take,pZ 67 9,pZ 68 10,qL 69 67 68 1,qc 70 69,pZ 71 9,pZ 72 10,qE 73 72 1,qL 74 71 73 1,qc 75 74,GC 76 [.Bs 70,.Bs 75] (.build [.int .i64 0,.int .i64 0] [(0,1),(1,1)]),GC 77 [.Bs 76] (.yu 1 2 [.int .i64 0,.int .i64 0] [0]),GC 78 [.jf 66,.jf 77] (.app 2 16),GC 79 [.sl 6] (.yG 0),qF 80 79 1,⟨none,[.jf 80,.jf 78],none,none,.st 1⟩])) (qv [pX 62 10,qE 63 62 2,pX 10 63])))
noncomputable def Rf:fT :=
 .loop (some (p_ false [0,1,2,1,1,1,7,1,5,3,75,3,33])) (pY [GC 100 [.sl 99,.sl 98] (.bin .lss)] (.seq (.cond (.sl 100) .skip (.exit 6)) (.seq (.block 7 (pY [GC 101 [.sl 97,.sl 99] (.kQ 2),GC 102 [.Bs 101] (.zx (.str 2)),GC 15 [] (.alloc [.int .i64 0,.int .i64 0]),⟨none,[.sl 15,.jf 102],none,none,.st 2⟩] (.seq (pY [GC 103 [.sl 15] (.yG 0),qc 104 103,GC 105 [.sl 5] (.zx .one),qM 106 105,qI 107 104 106 .lss] (.cond (.sl 107) (.seq (Hi [pX 108 13,GC 109 [.sl 5] (.zx .one),GC 110 [.sl 15] (.yG 0),qc 111 110,qL 112 109 111 1,qc 113 112,GC 114 [.sl 15] (.yG 1),qc 115 114,GC 116 [.Bs 113,.Bs 115] (.build [.int .i64 0,.int .i64 0] [(0,1),(1,1)]),GC 117 [.Bs 116] (.yu 1 2 [.int .i64 0,.int .i64 0] [0]),GC 118 [.jf 108,.jf 117] (.app 2 16),pX 13 118]) (.exit 7)) .skip)) (qv [pX 119 3,pX 120 13,GC 121 [.Bs 120] (.yu 1 1 [.ax [] 0 .full] [0]),GC 122 [.jf 119,.jf 121] (.app 1 24),pX 3 122,GC 13 [.lR (.ax [] 0 .full)] (.nil 2)])))) (qv [qE 123 99 1,pX 99 123]))))
noncomputable def Rg:fT :=
 pY [GC 13 [.lR (.ax [] 0 .full)] (.nil 2)] (.seq (pY [pX 97 11,GC 98 [.sl 97] .zC,qa 99 0] (.block 6 Rf)) (pY [pZ 124 13,qM 125 124,qq 126 125 0 .gtr] (.cond (.sl 126) (qv [pX 127 3,pX 128 13,GC 129 [.Bs 128] (.yu 1 1 [.ax [] 0 .full] [0]),GC 130 [.jf 127,.jf 129] (.app 1 24),pX 3 130]) .skip)))
noncomputable def Rh:fT :=
 .loop (some (p_ false [0,1,2,1,15,3,111])) (pY [GC 22 [.sl 21,.sl 20] (.bin .lss)] (.seq (.cond (.sl 22) .skip (.exit 0)) (.seq (.block 1 (pY [GC 23 [.sl 19,.sl 21] (.kQ 1),qc 24 23,GC 5 [] (.alloc [.ax [] 0 .full]),⟨none,[.sl 5,.jf 24],none,none,.st 1⟩] (pY [pZ 25 0,GC 26 [.Bs 25] .zX,qF 27 26 0,qF 28 27 0,qc 29 28,GC 30 [.Bs 29] (.build [.int .i64 0,.ax [] 0 .full] [(0,1)]),GC 31 [.Bs 30] (.build [.int .i64 0,.ax [] 0 .full] [(0,2)]),GC 6 [] (.alloc [.int .i64 0,.ax [] 0 .full]),⟨none,[.sl 6,.jf 31],none,none,.st 2⟩] (.seq (pY [GC 32 [.sl 5] (.zx .one),GC 33 [.sl 32] .zC,qa 34 0] (.block 2 Re)) (pY [pZ 54 0,GC 55 [.sl 5] (.zx .one),GC 56 [.lR (.func 76 [] []),.sl 54,.sl 55] (.call 3),pX 9 56] (.seq (pY [qa 10 0] (.block 4 NL)) (pY [GC 81 [.lR (.func 104 [] []),.sl 6] (.call 7),pX 11 81] (.seq (pY [pZ 82 11,GC 83 [.sl 5] (.zR 105 0 1),GC 84 [.lR (.func 94 [] []),.sl 82,.sl 83] (.call 6),pX 12 84] (pY [pZ 85 12,qq 86 85 0 .geq] (.cond (.sl 86) (Hi [pZ 87 11,pZ 88 12,qE 89 88 1,GC 90 [.jf 87,.jf 89] (.Bg 2 true false false),pZ 91 11,pZ 92 12,qE 93 92 1,GC 94 [.jf 91,.jf 93] (.Bg 2 false true false),GC 95 [.Bs 90,.Bs 94] (.yu 2 1 [.ax [] 0 .full] [0,1]),GC 96 [.lR (.func 106 [] []),.sl 95] (.call 3),pX 11 96]) .skip))) Rg)))))))) (qv [qE 131 21 1,pX 21 131]))))
noncomputable def aak:fT :=
 pY [GC 2 [.lR (.ax [] 0 .full)] (.nil 1)] (pY [GC 3 [.lR (.ax [] 0 .full)] (.nil 1)] (.seq (pY [pZ 16 0,pZ 17 0,GC 18 [.lR (.func 77 [] []),.sl 17] (.call 3),GC 19 [.lR (.func 79 [] []),.sl 16,.sl 18] (.call 3),GC 20 [.sl 19] .zC,qa 21 0] (.block 0 Rh)) (pY [pX 132 3,pX 2 132] .ret)))
theorem afi:zD Tryz.prog KC 83=some (aak,133,[.tmp 2]):=by kernel_rfl
def MI (t:qe) (r2:r7) (s2:Int) (qt:qk→Option qz):Nat→Int→qk→Option qz
 | 0,_,_=>none
 | m+1,s3,G' =>
   if (decide (s3<((ix r2 s2).length:Int)))=true then
    p9 (0≤s3∧s3<((ix r2 s2).length:Int)) <|
    p9 (0≤(ix (ix r2 s2) s3)∧(ix (ix r2 s2) s3)<(t.2.length:Int)) <|
    p9 ((G'.length+1)*16≤140737488355328) <|
    MI t r2 s2 qt m (w (s3+(1:Int))) (G'++[(ix t.2 (ix (ix r2 s2) s3))])
   else
    qt G'
def JD (eI:p7) (rW:qk→Option qz):Nat→Int→qk→Option qz
 | 0,_,_=>none
 | m+1,qh,qp =>
   if (decide ((w (qh+(1:Int)))<(eI.length:Int)))=true then
    p9 (0≤qh∧qh<(eI.length:Int)) <|
    p9 (0≤(w (qh+(1:Int)))∧(w (qh+(1:Int)))<(eI.length:Int)) <|
    p9 ((qp.length+1)*16≤140737488355328) <|
    JD eI rW m (w (qh+(2:Int))) (qp++[((ix eI qh),(ix eI (w (qh+(1:Int)))))])
   else
    rW qp
def LP (r2:r7) (s2:Int) (dy:qk) (Mf:qz→qk→Option qz):Nat→qz→qk→Int→Option qz
 | 0,_,_,_=>none
 | m+1,HS,H2,rP =>
   if (decide (rP<(dy.length:Int)))=true then
    p9 (0≤rP∧rP<(dy.length:Int)) <|
    if (decide ((ix dy rP).1<((ix r2 s2).length:Int)))=true then
     p9 (0≤(ix dy rP).1∧(ix dy rP).1<((ix r2 s2).length:Int)) <|
     p9 ((H2.length+1)*16≤140737488355328) <|
     LP r2 s2 dy Mf m HS (H2++[((ix (ix r2 s2) ((ix dy rP).1)),(ix dy rP).2)]) (w (rP+(1:Int)))
    else
     p9 ((HS.length+1)*24≤140737488355328) <|
     LP r2 s2 dy Mf m (HS++[H2]) [] (w (rP+(1:Int)))
   else
    Mf HS H2
def LO (r2:r7) (s1:qz) (s2:Int) (Oy:qz→Option qz) (dy:qk):Option qz :=
 LP r2 s2 dy (fun yg oH =>
   if (decide ((0:Int)<(oH.length:Int)))=true then
    p9 ((yg.length+1)*24≤140737488355328) <|
    Oy (yg++[oH])
   else
    Oy yg) p' s1 ([]:List (Int×Int)) (0:Int)
def IC (t:qe) (r2:r7) (qb:qz→Option qz):Nat→qz→Int→Option qz
 | 0,_,_=>none
 | m+1,s1,s2 =>
   if (decide (s2<(r2.length:Int)))=true then
    p9 (0≤s2∧s2<(r2.length:Int)) <|
    MI t r2 s2 (fun yg =>
      (MC t (ix r2 s2)).bind fun eI =>
      JD eI (fun yg =>
        (Mn (t.1,yg)).bind fun qR =>
        (LQ qR (fun qN=>OT qN (ix r2 s2))).bind fun q6 =>
        if (decide ((0:Int)≤q6))=true then
         p9 (0≤(w (q6+(1:Int)))∧(w (q6+(1:Int)))≤(qR.length:Int)) <|
         p9 (0≤(w (q6+(1:Int)))∧(w (q6+(1:Int)))≤(qR.length:Int)) <|
         (Nw [(qR.drop (w (q6+(1:Int))).toNat),(qR.take (w (q6+(1:Int))).toNat)]).bind fun HH =>
         LO r2 s1 s2 (fun Gx =>
           IC t r2 qb m Gx (w (s2+(1:Int)))) HH
        else
         LO r2 s1 s2 (fun Gx =>
           IC t r2 qb m Gx (w (s2+(1:Int)))) qR) p' (0:Int) yg) p' (0:Int) ([]:List (Int×Int))
   else
    qb s1
def Kv (t:qe):Option qz :=
 (O5 t).bind fun r1 =>
 (Ku t r1).bind fun r2 =>
 IC t r2 (fun LR =>
   some LR) p' ([]:List qk) (0:Int)
theorem ajz {t:qe} {r2:r7} {s2:Int} {qt:qk→Option qz} {s3:Int} {G':qk} {s1:qz} {v:qz} {Q:rM}  {q2:List ar} {HN:hs} (HK:∀ (yg:qk) (p8:List I),qt yg=some v→rn 133 [(0,(.bT [(hU t.1),(p6 t.2 .shared)])),(3,(.ax (s1.map (qJ p2)) s1.length (.uniq 1))),(5,(.ptr (q2).length 0)),(6,(.ptr ((q2)++[ar.cells [(qi (ix r2 s2) .shared)]]).length 0)),(19,(.ax (r2.map oL) r2.length .shared)),(20,(hU (r2.length:Int))),(21,(hU s2))] p8→Q (.exit 2) p8 (((q2)++[ar.cells [(qi (ix r2 s2) .shared)]])++[ar.cells [(hU t.1),(p6 yg .full)]])) (adN:∀ (yg:qk) (p8:List I),qt yg=some v→rn 133 [(0,(.bT [(hU t.1),(p6 t.2 .shared)])),(3,(.ax (s1.map (qJ p2)) s1.length (.uniq 1))),(5,(.ptr (q2).length 0)),(6,(.ptr ((q2)++[ar.cells [(qi (ix r2 s2) .shared)]]).length 0)),(19,(.ax (r2.map oL) r2.length .shared)),(20,(hU (r2.length:Int))),(21,(hU s2))] p8→Q (.exit 2) p8 (((q2)++[ar.cells [(qi (ix r2 s2) .shared)]])++[ar.cells [(hU t.1),(p6 yg (.own 2))]])) (L8:(HN=hs.full∨HN=(.own 2))) {T:List I} (bW:eX (p_ false [0,1,2,1,1,2,12,3,10,3,98]) T=Hc 133 [(0,(.bT [(hU t.1),(p6 t.2 .shared)])),(3,(.ax (s1.map (qJ p2)) s1.length (.uniq 1))),(5,(.ptr (q2).length 0)),(6,(.ptr ((q2)++[ar.cells [(qi (ix r2 s2) .shared)]]).length 0)),(19,(.ax (r2.map oL) r2.length .shared)),(20,(hU (r2.length:Int))),(21,(hU s2)),(32,(qi (ix r2 s2) .shared)),(33,(hU ((ix r2 s2).length:Int))),(34,(hU s3))]) (h:MI t r2 s2 qt p' s3 G'=some v) :
  dO Tryz.prog KC 83 0 none Re T (((q2)++[ar.cells [(qi (ix r2 s2) .shared)]])++[ar.cells [(hU t.1),(.ax (G'.flatMap p2) G'.length HN)]]) Q:=by
 unfold Re;refine wp_loop bW ?_;refine .intro (fun m T H=>∃ (s3:Int) (G':qk) (HN:hs),(HN=hs.full∨HN=(.own 2))∧T=Hc 133 [(0,(.bT [(hU t.1),(p6 t.2 .shared)])),(3,(.ax (s1.map (qJ p2)) s1.length (.uniq 1))),(5,(.ptr (q2).length 0)),(6,(.ptr ((q2)++[ar.cells [(qi (ix r2 s2) .shared)]]).length 0)),(19,(.ax (r2.map oL) r2.length .shared)),(20,(hU (r2.length:Int))),(21,(hU s2)),(32,(qi (ix r2 s2) .shared)),(33,(hU ((ix r2 s2).length:Int))),(34,(hU s3))]∧H=(((q2)++[ar.cells [(qi (ix r2 s2) .shared)]])++[ar.cells [(hU t.1),(.ax (G'.flatMap p2) G'.length HN)]])∧MI t r2 s2 qt m s3 G'=some v) p' ⟨s3,G',_,L8,rfl,rfl,h⟩ ?_;clear h bW;rintro m T H ⟨s3,G',HN,L8,rfl,rfl,h⟩;cases m
 ·exact ri h
 rename_i m;rw [MI.eq_2] at h;rcases L8 with rfl | rfl
 ·conv=>whnf
  refine bs h (fun qY h=>?_) fun qY h=>?_
  ·rw [qY];(conv=>whnf);refine qs h id fun rJ h=>?_;rw [Hh hU (ix r2 s2) s3 rJ];(conv=>whnf);refine Es (x:=ar.cells [(hU t.1),(p6 G' .full)]) (by first | exact qn.h | rfl | (simp [se,I.settle];done)) ?_
   (conv=>whnf);refine qs h id fun ra h=>?_;rw [q' p2 2 qy t.2 (ix (ix r2 s2) s3) ra];(conv=>whnf);obtain ⟨q_,h⟩:=qB h;refine ⟨by first | rfl | (simp;done) | exact Im p2 _ qy _,by have:=q_;omega,by decide,q_,by first | rfl | (simp;done) | exact Im p2 _ qy _,?_⟩
   erw [LW p2 G' (ix t.2 (ix (ix r2 s2) s3))];(conv=>whnf);refine Es (x:=ar.cells [(hU t.1),(p6 G' .full)]) (by first | exact qn.h | rfl | (simp [se,I.settle];done)) ?_
   (conv=>whnf);rw [rK];exact ⟨m,su m,(w (s3+(1:Int))),(G'++[(ix t.2 (ix (ix r2 s2) s3))]),_,(.inr rfl),rfl,rfl,h⟩
  ·rw [qY];(conv=>whnf);exact HK _ _ h ⟨rfl,rfl⟩
 ·conv=>whnf
  refine bs h (fun qY h=>?_) fun qY h=>?_
  ·rw [qY];(conv=>whnf);refine qs h id fun rJ h=>?_;rw [Hh hU (ix r2 s2) s3 rJ];(conv=>whnf);refine Es (x:=ar.cells [(hU t.1),(p6 G' (.own 2))]) (by first | exact qn.h | rfl | (simp [se,I.settle];done)) ?_
   (conv=>whnf);rw [rK];refine qs h id fun ra h=>?_;rw [q' p2 2 qy t.2 (ix (ix r2 s2) s3) ra];(conv=>whnf);obtain ⟨q_,h⟩:=qB h;refine ⟨by first | rfl | (simp;done) | exact Im p2 _ qy _,by have:=q_;omega,rfl,q_,?_⟩
   erw [LW p2 G' (ix t.2 (ix (ix r2 s2) s3))];(conv=>whnf);refine Es (x:=ar.cells [(hU t.1),(p6 G' .shared)]) (by first | exact qn.h | rfl | (simp [se,I.settle];done)) ?_
   (conv=>whnf);rw [rK];exact ⟨m,su m,(w (s3+(1:Int))),(G'++[(ix t.2 (ix (ix r2 s2) s3))]),_,(.inr rfl),rfl,rfl,h⟩
  ·rw [qY];(conv=>whnf);exact adN _ _ h ⟨rfl,rfl⟩
theorem ajA {eI:p7} {rW:qk→Option qz} {qh:Int} {qp:qk} {t:qe} {r2:r7} {s1:qz} {s2:Int} {v:qz} {Q:rM}  {q2:List ar} {HN:hs} (Ma:∀ (yg:qk) (p8:List I),rW yg=some v→rn 133 [(0,(.bT [(hU t.1),(p6 t.2 .shared)])),(3,(.ax (s1.map (qJ p2)) s1.length (.uniq 1))),(5,(.ptr (q2).length 0)),(6,(.ptr ((q2)++[ar.cells [(qi (ix r2 s2) .shared)]]).length 0)),(19,(.ax (r2.map oL) r2.length .shared)),(20,(hU (r2.length:Int))),(21,(hU s2))] p8→Q (.exit 4) p8 (((q2)++[ar.cells [(qi (ix r2 s2) .shared)]])++[ar.cells [(hU t.1),(p6 yg .full)]])) (adO:∀ (yg:qk) (p8:List I),rW yg=some v→rn 133 [(0,(.bT [(hU t.1),(p6 t.2 .shared)])),(3,(.ax (s1.map (qJ p2)) s1.length (.uniq 1))),(5,(.ptr (q2).length 0)),(6,(.ptr ((q2)++[ar.cells [(qi (ix r2 s2) .shared)]]).length 0)),(19,(.ax (r2.map oL) r2.length .shared)),(20,(hU (r2.length:Int))),(21,(hU s2))] p8→Q (.exit 4) p8 (((q2)++[ar.cells [(qi (ix r2 s2) .shared)]])++[ar.cells [(hU t.1),(p6 yg (.own 2))]])) (L8:(HN=hs.full∨HN=(.own 2))) {T:List I} (bW:eX (p_ false [0,1,2,1,1,2,2,2,8,3,111]) T=Hc 133 [(0,(.bT [(hU t.1),(p6 t.2 .shared)])),(3,(.ax (s1.map (qJ p2)) s1.length (.uniq 1))),(5,(.ptr (q2).length 0)),(6,(.ptr ((q2)++[ar.cells [(qi (ix r2 s2) .shared)]]).length 0)),(9,(qi eI .shared)),(10,(hU qh)),(19,(.ax (r2.map oL) r2.length .shared)),(20,(hU (r2.length:Int))),(21,(hU s2))]) (h:JD eI rW p' qh qp=some v) :
  dO Tryz.prog KC 83 0 none NL T (((q2)++[ar.cells [(qi (ix r2 s2) .shared)]])++[ar.cells [(hU t.1),(.ax (qp.flatMap p2) qp.length HN)]]) Q:=by
 unfold NL;refine wp_loop bW ?_;refine .intro (fun m T H=>∃ (qh:Int) (qp:qk) (HN:hs),(HN=hs.full∨HN=(.own 2))∧T=Hc 133 [(0,(.bT [(hU t.1),(p6 t.2 .shared)])),(3,(.ax (s1.map (qJ p2)) s1.length (.uniq 1))),(5,(.ptr (q2).length 0)),(6,(.ptr ((q2)++[ar.cells [(qi (ix r2 s2) .shared)]]).length 0)),(9,(qi eI .shared)),(10,(hU qh)),(19,(.ax (r2.map oL) r2.length .shared)),(20,(hU (r2.length:Int))),(21,(hU s2))]∧H=(((q2)++[ar.cells [(qi (ix r2 s2) .shared)]])++[ar.cells [(hU t.1),(.ax (qp.flatMap p2) qp.length HN)]])∧JD eI rW m qh qp=some v) p' ⟨qh,qp,_,L8,rfl,rfl,h⟩ ?_;clear h bW;rintro m T H ⟨qh,qp,HN,L8,rfl,rfl,h⟩;cases m
 ·exact ri h
 rename_i m;rw [JD.eq_2] at h;rcases L8 with rfl | rfl
 ·conv=>whnf
  refine bs h (fun qP h=>?_) fun qP h=>?_
  ·rw [qP];(conv=>whnf);refine Es (x:=ar.cells [(hU t.1),(p6 qp .full)]) (by first | exact qn.h | rfl | (simp [se,I.settle];done)) ?_
   (conv=>whnf);refine qs h id fun rO h=>?_;rw [Hh hU eI qh rO];(conv=>whnf);refine qs h id fun rz h=>?_;rw [Hh hU eI (w (qh+(1:Int))) rz];(conv=>whnf);obtain ⟨rC,h⟩:=qB h;refine ⟨by first | rfl | (simp;done) | exact Im p2 _ qy _,by have:=rC;omega,by decide,rC,by first | rfl | (simp;done) | exact Im p2 _ qy _,?_⟩
   erw [LW p2 qp ((ix eI qh),(ix eI (w (qh+(1:Int)))))];(conv=>whnf);refine Es (x:=ar.cells [(hU t.1),(p6 qp .full)]) (by first | exact qn.h | rfl | (simp [se,I.settle];done)) ?_
   (conv=>whnf);rw [rK];exact ⟨m,su m,(w (qh+(2:Int))),(qp++[((ix eI qh),(ix eI (w (qh+(1:Int)))))]),_,(.inr rfl),rfl,rfl,h⟩
  ·rw [qP];(conv=>whnf);exact Ma _ _ h ⟨rfl,rfl⟩
 ·conv=>whnf
  refine bs h (fun qP h=>?_) fun qP h=>?_
  ·rw [qP];(conv=>whnf);refine Es (x:=ar.cells [(hU t.1),(p6 qp (.own 2))]) (by first | exact qn.h | rfl | (simp [se,I.settle];done)) ?_
   (conv=>whnf);rw [rK];refine qs h id fun rO h=>?_;rw [Hh hU eI qh rO];(conv=>whnf);refine qs h id fun rz h=>?_;rw [Hh hU eI (w (qh+(1:Int))) rz];(conv=>whnf);obtain ⟨rC,h⟩:=qB h;refine ⟨by first | rfl | (simp;done) | exact Im p2 _ qy _,by have:=rC;omega,rfl,rC,?_⟩
   erw [LW p2 qp ((ix eI qh),(ix eI (w (qh+(1:Int)))))];(conv=>whnf);refine Es (x:=ar.cells [(hU t.1),(p6 qp .shared)]) (by first | exact qn.h | rfl | (simp [se,I.settle];done)) ?_
   (conv=>whnf);rw [rK];exact ⟨m,su m,(w (qh+(2:Int))),(qp++[((ix eI qh),(ix eI (w (qh+(1:Int)))))]),_,(.inr rfl),rfl,rfl,h⟩
  ·rw [qP];(conv=>whnf);exact adO _ _ h ⟨rfl,rfl⟩
theorem ajC {r2:r7} {s2:Int} {dy:qk} {Mf:qz→qk→Option qz} {HS:qz} {H2:qk} {rP:Int} {t:qe} {v:qz} {Q:rM} {bQ:ar} {q2:List ar} {NT:List ar} (adP:∀ (yg:qz) (oH:qk) (rB:List ar) (p8:List I),Mf yg oH=some v→rn 133 [(0,(.bT [(hU t.1),(p6 t.2 .shared)])),(3,(.ax (yg.map (qJ p2)) yg.length (.uniq 1))),(13,(p6 oH (.uniq 2))),(19,(.ax (r2.map oL) r2.length .shared)),(20,(hU (r2.length:Int))),(21,(hU s2))] p8→Q (.exit 6) p8 (rB)) {T:List I} (bW:eX (p_ false [0,1,2,1,1,1,7,1,5,3,75,3,33]) T=Hc 133 [(0,(.bT [(hU t.1),(p6 t.2 .shared)])),(3,(.ax (HS.map (qJ p2)) HS.length (.uniq 1))),(5,(.ptr (q2).length 0)),(13,(p6 H2 (.uniq 2))),(19,(.ax (r2.map oL) r2.length .shared)),(20,(hU (r2.length:Int))),(21,(hU s2)),(97,(p6 dy .shared)),(98,(hU (dy.length:Int))),(99,(hU rP))]) (h:LP r2 s2 dy Mf p' HS H2 rP=some v) :
  dO Tryz.prog KC 83 0 none Rf T ((((q2)++[ar.cells [(qi (ix r2 s2) .shared)]])++[bQ])++NT) Q:=by
 unfold Rf;refine wp_loop bW ?_;refine .intro (fun m T H=>∃ (HS:qz) (H2:qk) (rP:Int) (NT:List ar),T=Hc 133 [(0,(.bT [(hU t.1),(p6 t.2 .shared)])),(3,(.ax (HS.map (qJ p2)) HS.length (.uniq 1))),(5,(.ptr (q2).length 0)),(13,(p6 H2 (.uniq 2))),(19,(.ax (r2.map oL) r2.length .shared)),(20,(hU (r2.length:Int))),(21,(hU s2)),(97,(p6 dy .shared)),(98,(hU (dy.length:Int))),(99,(hU rP))]∧H=((((q2)++[ar.cells [(qi (ix r2 s2) .shared)]])++[bQ])++NT)∧LP r2 s2 dy Mf m HS H2 rP=some v) p' ⟨HS,H2,rP,NT,rfl,rfl,h⟩ ?_;clear h bW;rintro m T H ⟨HS,H2,rP,NT,rfl,rfl,h⟩;cases m
 ·exact ri h
 rename_i m;rw [LP.eq_2] at h;conv=>whnf
 refine bs h (fun Is h=>?_) fun Is h=>?_
 ·rw [Is];conv=>whnf
  refine qs h id fun Kd h=>?_;rw [q' p2 2 qy dy rP Kd];conv=>whnf
  refine Es (x:=ar.cells [(hU (0:Int)),(hU (0:Int))]) (by first | exact qn.h | rfl | (simp [se,I.settle];done)) ?_
  conv=>whnf
  rw [rK];refine Es (x:=ar.cells [(hU (ix dy rP).1),(hU (ix dy rP).2)]) (by first | exact qn.h | rfl | (simp [se,I.settle];done)) ?_
  conv=>whnf
  refine Es (x:=ar.cells [(qi (ix r2 s2) .shared)]) (by first | exact qn.h | rfl | (simp [se,I.settle];done)) ?_
  conv=>whnf
  refine bs h (fun Jw h=>?_) fun Jw h=>?_
  ·rw [Jw];(conv=>whnf);refine Es (x:=ar.cells [(qi (ix r2 s2) .shared)]) (by first | exact qn.h | rfl | (simp [se,I.settle];done)) ?_
   (conv=>whnf);refine Es (x:=ar.cells [(hU (ix dy rP).1),(hU (ix dy rP).2)]) (by first | exact qn.h | rfl | (simp [se,I.settle];done)) ?_
   (conv=>whnf);refine qs h id fun IK h=>?_;rw [Hh hU (ix r2 s2) ((ix dy rP).1) IK];(conv=>whnf);refine Es (x:=ar.cells [(hU (ix dy rP).1),(hU (ix dy rP).2)]) (by first | exact qn.h | rfl | (simp [se,I.settle];done)) ?_
   (conv=>whnf);obtain ⟨JO,h⟩:=qB h;refine ⟨by first | rfl | (simp;done) | exact Im p2 _ qy _,by have:=JO;omega,rfl,JO,?_⟩
   erw [LW p2 H2 ((ix (ix r2 s2) ((ix dy rP).1)),(ix dy rP).2)];(conv=>whnf);exact ⟨m,su m,HS,(H2++[((ix (ix r2 s2) ((ix dy rP).1)),(ix dy rP).2)]),(w (rP+(1:Int))),_,rfl,(Vo _ _ _),h⟩
  ·rw [Jw];(conv=>whnf);obtain ⟨JP,h⟩:=qB h;refine ⟨by first | rfl | simp,by have:=JP;omega,rfl,JP,?_⟩
   erw [LV (qJ p2) HS H2];(conv=>whnf);exact ⟨m,su m,(HS++[H2]),[],(w (rP+(1:Int))),_,rfl,(Vo _ _ _),h⟩
 ·rw [Is];conv=>whnf
  exact adP _ _ _ _ h ⟨rfl,rfl⟩
theorem NJ {r2:r7} {s1:qz} {s2:Int} {Oy:qz→Option qz} {dy:qk} {t:qe} {v:qz} {Q:rM} {bQ:ar} {p8:List I} {q2:List ar} (Wo:∀ (Gx:qz) (rB:List ar) (p8:List I),Oy Gx=some v→rn 133 [(0,(.bT [(hU t.1),(p6 t.2 .shared)])),(3,(.ax (Gx.map (qJ p2)) Gx.length (.uniq 1))),(19,(.ax (r2.map oL) r2.length .shared)),(20,(hU (r2.length:Int))),(21,(hU s2))] p8→Q .normal p8 (rB)) (qm:rn 133 [(0,(.bT [(hU t.1),(p6 t.2 .shared)])),(3,(.ax (s1.map (qJ p2)) s1.length (.uniq 1))),(5,(.ptr (q2).length 0)),(11,(p6 dy .shared)),(19,(.ax (r2.map oL) r2.length .shared)),(20,(hU (r2.length:Int))),(21,(hU s2))] p8) (h:LO r2 s1 s2 Oy dy=some v) :
  dO Tryz.prog KC 83 0 none Rg p8 (((q2)++[ar.cells [(qi (ix r2 s2) .shared)]])++[bQ]) Q:=by
 obtain ⟨rf,rfl⟩:=qm.ex;unfold LO at h;unfold Rg;obtain ⟨Ps,Ip⟩:∃ c,Rf=c:=⟨_,rfl⟩;rw [Ip];conv=>whnf
 subst Ip;refine aix ?_;refine ajC ?_ (by exact rfl) h;intro yg oH rB p8 h qm;obtain ⟨rf,rfl⟩:=qm.ex;conv=>whnf
 refine bs h (fun IL h=>?_) fun IL h=>?_
 ·rw [IL];conv=>whnf
  obtain ⟨KL,h⟩:=qB h;refine ⟨by first | rfl | simp,by have:=KL;omega,rfl,KL,?_⟩
  erw [LV (qJ p2) yg oH];conv=>whnf
  exact Wo _ _ _ h ⟨rfl,rfl⟩
 ·rw [IL];conv=>whnf
  exact Wo _ _ _ h ⟨rfl,rfl⟩
theorem ajB {HA:p7} {rW:qk→Option qz} {Ix:Int} {JA:qk} {t:qe} {r2:r7} {s1:qz} {s2:Int} {v:qz} {Q:rM}  {q2:List ar} (Ma:∀ (NM:qk) (p8:List I),rW NM=some v→rn 133 [(0,(.bT [(hU t.1),(p6 t.2 .shared)])),(3,(.ax (s1.map (qJ p2)) s1.length (.uniq 1))),(5,(.ptr (q2).length 0)),(6,(.ptr ((q2)++[ar.cells [(qi (ix r2 s2) .shared)]]).length 0)),(19,(.ax (r2.map oL) r2.length .shared)),(20,(hU (r2.length:Int))),(21,(hU s2))] p8→Q (.exit 4) p8 (((q2)++[ar.cells [(qi (ix r2 s2) .shared)]])++[ar.cells [(hU t.1),(p6 NM (.own 2))]])) {T:List I} (bW:eX (p_ false [0,1,2,1,1,2,2,2,8,3,111]) T=Hc 133 [(0,(.bT [(hU t.1),(p6 t.2 .shared)])),(3,(.ax (s1.map (qJ p2)) s1.length (.uniq 1))),(5,(.ptr (q2).length 0)),(6,(.ptr ((q2)++[ar.cells [(qi (ix r2 s2) .shared)]]).length 0)),(9,(qi HA .shared)),(10,(hU Ix)),(19,(.ax (r2.map oL) r2.length .shared)),(20,(hU (r2.length:Int))),(21,(hU s2))]) (h:JD HA rW p' Ix JA=some v) :
  dO Tryz.prog KC 83 0 none NL T (((q2)++[ar.cells [(qi (ix r2 s2) .shared)]])++[ar.cells [(hU t.1),(p6 JA (.own 2))]]) Q:=by
 unfold NL;refine wp_loop bW ?_;refine .intro (fun m T H=>∃ (Ix:Int) (JA:qk),T=Hc 133 [(0,(.bT [(hU t.1),(p6 t.2 .shared)])),(3,(.ax (s1.map (qJ p2)) s1.length (.uniq 1))),(5,(.ptr (q2).length 0)),(6,(.ptr ((q2)++[ar.cells [(qi (ix r2 s2) .shared)]]).length 0)),(9,(qi HA .shared)),(10,(hU Ix)),(19,(.ax (r2.map oL) r2.length .shared)),(20,(hU (r2.length:Int))),(21,(hU s2))]∧H=(((q2)++[ar.cells [(qi (ix r2 s2) .shared)]])++[ar.cells [(hU t.1),(p6 JA (.own 2))]])∧JD HA rW m Ix JA=some v) p' ⟨Ix,JA,rfl,rfl,h⟩ ?_;clear h bW;rintro m T H ⟨Ix,JA,rfl,rfl,h⟩;cases m
 ·exact ri h
 rename_i m;rw [JD.eq_2] at h;conv=>whnf
 refine bs h (fun Sd h=>?_) fun Sd h=>?_
 ·rw [Sd];conv=>whnf
  refine Es (x:=ar.cells [(hU t.1),(p6 JA (.own 2))]) (by first | exact qn.h | rfl | (simp [se,I.settle];done)) ?_
  conv=>whnf
  rw [rK];refine qs h id fun adp h=>?_;rw [Hh hU HA Ix adp];conv=>whnf
  refine qs h id fun adq h=>?_;rw [Hh hU HA (w (Ix+(1:Int))) adq];conv=>whnf
  obtain ⟨Wg,h⟩:=qB h;refine ⟨by first | rfl | (simp;done) | exact Im p2 _ qy _,by have:=Wg;omega,rfl,Wg,?_⟩
  erw [LW p2 JA ((ix HA Ix),(ix HA (w (Ix+(1:Int)))))];conv=>whnf
  refine Es (x:=ar.cells [(hU t.1),(p6 JA .shared)]) (by first | exact qn.h | rfl | (simp [se,I.settle];done)) ?_
  conv=>whnf
  rw [rK];exact ⟨m,su m,(w (Ix+(2:Int))),(JA++[((ix HA Ix),(ix HA (w (Ix+(1:Int)))))]),rfl,rfl,h⟩
 ·rw [Sd];conv=>whnf
  exact Ma _ _ h ⟨rfl,rfl⟩
theorem ajy {t:qe} {r2:r7} {qb:qz→Option qz} {s1:qz} {s2:Int} {v:qz} {Q:rM}   (rI:∀ (LR:qz) (rB:List ar) (p8:List I),qb LR=some v→rn 133 [(3,(.ax (LR.map (qJ p2)) LR.length (.uniq 1)))] p8→Q (.exit 0) p8 (rB)) {T:List I} (bW:eX (p_ false [0,1,2,1,15,3,111]) T=Hc 133 [(0,(.bT [(hU t.1),(p6 t.2 .shared)])),(3,(.ax (s1.map (qJ p2)) s1.length (.uniq 1))),(19,(.ax (r2.map oL) r2.length .shared)),(20,(hU (r2.length:Int))),(21,(hU s2))]) (h:IC t r2 qb p' s1 s2=some v) :
  dO Tryz.prog KC 83 0 none Rh T [] Q:=by
 unfold Rh;obtain ⟨HV,qO⟩:∃ c,Re=c:=⟨_,rfl⟩;rw [qO];obtain ⟨KD,r0⟩:∃ c,NL=c:=⟨_,rfl⟩;rw [r0];obtain ⟨Vv,II⟩:∃ c,Rg=c:=⟨_,rfl⟩;rw [II];refine wp_loop bW ?_;refine .intro (fun m T H=>∃ (s1:qz) (s2:Int) (q2:List ar),T=Hc 133 [(0,(.bT [(hU t.1),(p6 t.2 .shared)])),(3,(.ax (s1.map (qJ p2)) s1.length (.uniq 1))),(19,(.ax (r2.map oL) r2.length .shared)),(20,(hU (r2.length:Int))),(21,(hU s2))]∧H=(q2)∧IC t r2 qb m s1 s2=some v) p' ⟨s1,s2,[],rfl,rfl,h⟩ ?_;clear h bW;rintro m T H ⟨s1,s2,q2,rfl,rfl,h⟩;cases m
 ·exact ri h
 rename_i m;rw [IC.eq_2] at h;conv=>whnf
 refine bs h (fun qo h=>?_) fun qo h=>?_
 ·rw [qo];conv=>whnf
  refine qs h id fun qS h=>?_;rw [Hh oL r2 s2 qS];conv=>whnf
  refine Es (x:=ar.cells [(.ax [] 0 .full)]) (by first | exact qn.h | rfl | (simp [se,I.settle];done)) ?_
  conv=>whnf
  rw [rK];refine Es (x:=ar.cells [(hU (0:Int)),(.ax [] 0 .full)]) (by first | exact qn.h | rfl | (simp [se,I.settle];done)) ?_
  conv=>whnf
  rw [rK];refine Es (x:=ar.cells [(qi (ix r2 s2) .shared)]) (by first | exact qn.h | rfl | (simp [se,I.settle];done)) ?_
  conv=>whnf
  subst qO;refine ajz ?_ ?_ (.inl rfl) (by exact rfl) h
  ·intro yg p8 h qm;obtain ⟨rf,rfl⟩:=qm.ex;(conv=>whnf);refine Es (x:=ar.cells [(qi (ix r2 s2) .shared)]) (by first | exact qn.h | rfl | (simp [se,I.settle];done)) ?_
   (conv=>whnf);obtain ⟨eI,rp,h⟩:=qj h;refine ⟨ql.pl,_,Zr rp,?_⟩;(conv=>whnf);subst r0;refine ajA ?_ ?_ (.inl rfl) (by exact rfl) h
   ·intro yg p8 h qm;obtain ⟨rf,rfl⟩:=qm.ex;(conv=>whnf);obtain ⟨qR,r4,h⟩:=qj h;refine ⟨_,_,call7 (l:=[(hU t.1),(p6 yg .full)]) (cs:=[(hU t.1),(p6 yg .full)]) (sC _) (by first | exact qn.h | rfl | (simp [se,I.settle];done)) rfl (rj (p1 rfl (p1 (q8 (fun _=>(p1 rfl (p1 rfl rfl))) _ _ _) rfl))) (ds:=[(hU t.1),(p6 yg .shared)]) rfl (Ua r4),?_⟩
    rw [rK];(conv=>whnf);obtain ⟨q6,I8,h⟩:=qj h;refine ⟨_,_,I2 (cs:=[(p6 qR .shared),(.func 105 [] [(.bT [(qi (ix r2 s2) .shared)])])]) (bs:=[(p6 qR .shared),(.func 105 [] [(.bT [(qi (ix r2 s2) .shared)])])]) (ru rfl (ru (K0 rY (ru (J3 (cs:=[(qi (ix r2 s2) .shared)]) (by first | exact qn.h | rfl | (simp [se,I.settle];done)) rfl) rY)) rY)) (by rfl) (by exact (p1 (q8 (fun _=>(p1 rfl (p1 rfl rfl))) _ _ _) (p1 (Kl rfl (p1 (rj (p1 (rX (fun _=>rfl) _ _ _) rfl)) rfl)) rfl))) (QQ ⟨(p1 (rj (p1 (rX (fun _=>rfl) _ _ _) rfl)) rfl),by simp⟩ (fun _ _ aY=>Ub aY) I8) rfl,?_⟩
    (conv=>whnf);refine bs h (fun Hz h=>?_) fun Hz h=>?_
    ·rw [Hz];(conv=>whnf);refine qs h id fun I9 h=>?_;erw [TZ p2 2 qy qR (w (q6+(1:Int))) I9];(conv=>whnf);refine qs h id fun Hr h=>?_;erw [Nr p2 2 qy qR (w (q6+(1:Int))) Hr];(conv=>whnf);obtain ⟨HH,Jv,h⟩:=qj h;refine ⟨(p1 (SS (p1 (q8 (fun _=>(p1 rfl (p1 rfl rfl))) _ _ _) (p1 (q8 (fun _=>(p1 rfl (p1 rfl rfl))) _ _ _) rfl))) rfl),_,Uc Jv,Jo,?_⟩;(conv=>whnf);subst II;refine NJ ?_ (by exact ⟨rfl,rfl⟩) h;intro Gx rB p8 h qm;obtain ⟨rf,rfl⟩:=qm.ex;(conv=>whnf);exact ⟨m,su m,Gx,(w (s2+(1:Int))),_,rfl,rfl,h⟩
    ·rw [Hz];(conv=>whnf);subst II;refine NJ ?_ (by exact ⟨rfl,rfl⟩) h;intro Gx rB p8 h qm;obtain ⟨rf,rfl⟩:=qm.ex;(conv=>whnf);exact ⟨m,su m,Gx,(w (s2+(1:Int))),_,rfl,rfl,h⟩
   ·intro yg p8 h qm;obtain ⟨rf,rfl⟩:=qm.ex;(conv=>whnf);obtain ⟨HR,Og,h⟩:=qj h;refine ⟨_,_,call7 (l:=[(hU t.1),(p6 yg (.own 2))]) (cs:=[(hU t.1),(p6 yg .shared)]) (sC _) (by first | exact qn.h | rfl | (simp [se,I.settle];done)) rfl (rj (p1 rfl (p1 (q8 (fun _=>(p1 rfl (p1 rfl rfl))) _ _ _) rfl))) (ds:=[(hU t.1),(p6 yg .shared)]) rfl (Ua Og),?_⟩
    rw [rK];(conv=>whnf);obtain ⟨Jd,Oh,h⟩:=qj h;refine ⟨_,_,I2 (cs:=[(p6 HR .shared),(.func 105 [] [(.bT [(qi (ix r2 s2) .shared)])])]) (bs:=[(p6 HR .shared),(.func 105 [] [(.bT [(qi (ix r2 s2) .shared)])])]) (ru rfl (ru (K0 rY (ru (J3 (cs:=[(qi (ix r2 s2) .shared)]) (by first | exact qn.h | rfl | (simp [se,I.settle];done)) rfl) rY)) rY)) (by rfl) (by exact (p1 (q8 (fun _=>(p1 rfl (p1 rfl rfl))) _ _ _) (p1 (Kl rfl (p1 (rj (p1 (rX (fun _=>rfl) _ _ _) rfl)) rfl)) rfl))) (QQ ⟨(p1 (rj (p1 (rX (fun _=>rfl) _ _ _) rfl)) rfl),by simp⟩ (fun _ _ aY=>Ub aY) Oh) rfl,?_⟩
    (conv=>whnf);refine bs h (fun L7 h=>?_) fun L7 h=>?_
    ·rw [L7];(conv=>whnf);refine qs h id fun Oi h=>?_;erw [TZ p2 2 qy HR (w (Jd+(1:Int))) Oi];(conv=>whnf);refine qs h id fun Oj h=>?_;erw [Nr p2 2 qy HR (w (Jd+(1:Int))) Oj];(conv=>whnf);obtain ⟨J0,Sc,h⟩:=qj h;refine ⟨(p1 (SS (p1 (q8 (fun _=>(p1 rfl (p1 rfl rfl))) _ _ _) (p1 (q8 (fun _=>(p1 rfl (p1 rfl rfl))) _ _ _) rfl))) rfl),_,Uc Sc,Jo,?_⟩;(conv=>whnf);subst II;refine NJ ?_ (by exact ⟨rfl,rfl⟩) h;intro Uy rB p8 h qm;obtain ⟨rf,rfl⟩:=qm.ex;(conv=>whnf);exact ⟨m,su m,Uy,(w (s2+(1:Int))),_,rfl,rfl,h⟩
    ·rw [L7];(conv=>whnf);subst II;refine NJ ?_ (by exact ⟨rfl,rfl⟩) h;intro Uy rB p8 h qm;obtain ⟨rf,rfl⟩:=qm.ex;(conv=>whnf);exact ⟨m,su m,Uy,(w (s2+(1:Int))),_,rfl,rfl,h⟩
  ·intro yg p8 h qm;obtain ⟨rf,rfl⟩:=qm.ex;(conv=>whnf);refine Es (x:=ar.cells [(qi (ix r2 s2) .shared)]) (by first | exact qn.h | rfl | (simp [se,I.settle];done)) ?_
   (conv=>whnf);obtain ⟨HA,ado,h⟩:=qj h;refine ⟨ql.pl,_,Zr ado,?_⟩;(conv=>whnf);subst r0;refine ajB ?_ (by exact rfl) h;intro NM p8 h qm;obtain ⟨rf,rfl⟩:=qm.ex;(conv=>whnf);obtain ⟨Jc,adr,h⟩:=qj h;refine ⟨_,_,call7 (l:=[(hU t.1),(p6 NM (.own 2))]) (cs:=[(hU t.1),(p6 NM .shared)]) (sC _) (by first | exact qn.h | rfl | (simp [se,I.settle];done)) rfl (rj (p1 rfl (p1 (q8 (fun _=>(p1 rfl (p1 rfl rfl))) _ _ _) rfl))) (ds:=[(hU t.1),(p6 NM .shared)]) rfl (Ua adr),?_⟩
   rw [rK];(conv=>whnf);obtain ⟨JZ,ads,h⟩:=qj h;refine ⟨_,_,I2 (cs:=[(p6 Jc .shared),(.func 105 [] [(.bT [(qi (ix r2 s2) .shared)])])]) (bs:=[(p6 Jc .shared),(.func 105 [] [(.bT [(qi (ix r2 s2) .shared)])])]) (ru rfl (ru (K0 rY (ru (J3 (cs:=[(qi (ix r2 s2) .shared)]) (by first | exact qn.h | rfl | (simp [se,I.settle];done)) rfl) rY)) rY)) (by rfl) (by exact (p1 (q8 (fun _=>(p1 rfl (p1 rfl rfl))) _ _ _) (p1 (Kl rfl (p1 (rj (p1 (rX (fun _=>rfl) _ _ _) rfl)) rfl)) rfl))) (QQ ⟨(p1 (rj (p1 (rX (fun _=>rfl) _ _ _) rfl)) rfl),by simp⟩ (fun _ _ aY=>Ub aY) ads) rfl,?_⟩
   (conv=>whnf);refine bs h (fun Se h=>?_) fun Se h=>?_
   ·rw [Se];(conv=>whnf);refine qs h id fun adt h=>?_;erw [TZ p2 2 qy Jc (w (JZ+(1:Int))) adt];(conv=>whnf);refine qs h id fun adu h=>?_;erw [Nr p2 2 qy Jc (w (JZ+(1:Int))) adu];(conv=>whnf);obtain ⟨KV,adv,h⟩:=qj h;refine ⟨(p1 (SS (p1 (q8 (fun _=>(p1 rfl (p1 rfl rfl))) _ _ _) (p1 (q8 (fun _=>(p1 rfl (p1 rfl rfl))) _ _ _) rfl))) rfl),_,Uc adv,Jo,?_⟩;(conv=>whnf);subst II;refine NJ ?_ (by exact ⟨rfl,rfl⟩) h;intro Ux rB p8 h qm;obtain ⟨rf,rfl⟩:=qm.ex;(conv=>whnf);exact ⟨m,su m,Ux,(w (s2+(1:Int))),_,rfl,rfl,h⟩
   ·rw [Se];(conv=>whnf);subst II;refine NJ ?_ (by exact ⟨rfl,rfl⟩) h;intro Ux rB p8 h qm;obtain ⟨rf,rfl⟩:=qm.ex;(conv=>whnf);exact ⟨m,su m,Ux,(w (s2+(1:Int))),_,rfl,rfl,h⟩
 ·rw [qo];conv=>whnf
  exact rI _ _ _ h ⟨rfl,rfl⟩
theorem ZE {t:qe} {v:qz} (h:Kv t=some v):qw 83 [(.bT [(hU t.1),(.ax (t.2.flatMap p2) t.2.length .shared)])] (.ax (v.map (qJ p2)) v.length .shared):=by
 refine q7 eo afi rfl (rX (fun _=>(q8 (fun _=>(p1 rfl (p1 rfl rfl))) _ _ _)) _ _ _) fun Q bo=>?_;have jB:qK [.tmp 2] Q (fun v=>(.ax (v.map (qJ p2)) v.length .shared)) v:=fun T H bH=>bo _ T H bH;unfold Kv at h;unfold aak;obtain ⟨Vw,KF⟩:∃ c,Rh=c:=⟨_,rfl⟩;rw [KF];conv=>whnf
 obtain ⟨r1,gD,h⟩:=qj h;refine ⟨ql.pl,_,Zu gD,?_⟩;conv=>whnf
 obtain ⟨r2,gE,h⟩:=qj h;refine ⟨ql.pl,_,Zw gE,?_⟩;conv=>whnf
 subst KF;refine ajy ?_ (by exact rfl) h;intro LR rB p8 h qm;obtain ⟨rf,rfl⟩:=qm.ex;conv=>whnf
 exact qd h jB rfl rfl
end Go.Proofs.YtfakoboiahbhaaaGreat.Ab


namespace Go.Proofs.YtfakoboiahbhaaaGreat.Ab
open Go
theorem aiD {x y:Row} (h:0<x.length+y.length) (af:x.length+y.length≤24):Nw [x,y]=some (x++y):=by
 have fY:ix [x,y] (0:Int)=x:=rfl;have e1:ix [x,y] (1:Int)=y:=rfl;have w0:w ((0:Int)+1)=1:=by decide
 have bG:w ((1:Int)+1)=2:=by decide
 have ao:([x,y]:List Row).length=2:=rfl;rw [Nw,show p'=18446744073709551613+3 from rfl,LI,ao,if_pos (by decide),qg (by decide),fY,HT (n:=(0:Int)+(x.length:Int)) (by omega),if_neg (by simp),w0,LI,ao,if_pos (by decide),qg (by decide),e1,HT (n:=(0:Int)+(x.length:Int)+(y.length:Int)) (by omega),if_neg (by simp;omega),bG,LI,ao,if_neg (by decide),Ud,qg ⟨rfl,by omega,by omega⟩,sc,LJ,ao,if_pos (by decide),qg (by decide),fY,qg (by simp;omega),w0,LJ,ao,if_pos (by decide),qg (by decide),e1,qg (by simp;omega),bG,LJ,ao,if_neg (by decide)];rfl
section
variable {b t:p5} {S:List Int} {r2:List (List Int)} {s2:Int}
theorem ZC (he:ix r2 s2=S) (cl:rD t S) (ao:S.length≤1000) {k:Row→Option (List Row)}:∀ (m i:Nat) (z:Int),z=i→i≤S.length→S.length-i<m→MI t r2 s2 k m z ((S.take i).map (ix t.2))=k (S.map (ix t.2))
 | 0,_,_,_,_,h=>absurd h (by omega)
 | m+1,i,_,rfl,hi,hm=>by
   rw [MI,he];by_cases h:(i:Int)<(S.length:Int)
   ·(have qX:i<S.length:=by omega);have ai:=cl _ (sI qX);rw [if_pos (decide_eq_true h),qg ⟨by omega,h⟩,q3 qX,qg ai,qg (by simp;omega),rG i (by omega)];(have e:(S.take i).map (ix t.2)++[ix t.2 S[i]]=(S.take (i+1)).map (ix t.2):=by rw [K2 qX,s_];rfl);rw [e];exact ZC he cl ao m (i+1) _ rfl (by omega) (by omega)
   ·rw [if_neg (by simpa using h),show i=S.length by omega,tC]
theorem ZD {o:List Int} (aq:o.length≤1000) {k:Row→Option (List Row)}:∀ (m i:Nat) (z:Int) (acc:Row),z=i→acc.length+o.length≤10000+i→o.length+2-i<m→i≤o.length+1→acc.length≤10000+i→JD o k m z acc=k (acc++Hw (o.drop i))
 | 0,_,_,_,_,_,h,_,_=>absurd h (by omega)
 | m+1,i,_,acc,rfl,cb,hm,hi,aka=>by
   rw [JD,rG i (by omega)];by_cases h:((i+1:Nat):Int)<(o.length:Int)
   ·(have ad:i<o.length:=by omega);(have af:i+1<o.length:=by omega);rw [if_pos (decide_eq_true h),qg ⟨by omega,by omega⟩,qg ⟨by omega,h⟩,qg (by omega),q3 ad,q3 af,HT (n:=(i:Int)+2) (by omega),ZD aq m (i+2) _ _ (by omega) (by simp;omega) (by omega) (by omega) (by simp;omega)];rw [sQ ad,sQ af,Hw];simp
   ·rw [if_neg (by simpa using h)]
    have:Hw (o.drop i)=[]:=by
     have ao:(o.drop i).length≤1:=by simp;omega
     match o.drop i,ao with
     | [],_=>rfl
     | [_],_=>rfl
     | _::_::_,h=>simp at h
    rw [this,sW]
theorem Ur (he:ix r2 s2=S) {dy:Row} {T:p5} (aw:∀ p∈dy,H0 T p) (ao:dy.length≤1000) {k:List Row→Option (List Row)}:∀ (m i:Nat) (z:Int) (out:List Row) (own:Row),z=i→i≤dy.length→dy.length-i<m→out.length≤1000+i→own.length≤i →
  LP r2 s2 dy (fun yg oH=>if (decide ((0:Int)<(oH.length:Int)))=true then p9 ((yg.length+1)*24≤140737488355328) <| k (yg++[oH]) else k yg) m out own z=k (out++rR S own (dy.drop i))
 | 0,_,_,_,_,_,_,h,_,_=>absurd h (by omega)
 | m+1,i,_,out,own,rfl,hi,hm,ad,af=>by
   rw [LP,he];by_cases h:(i:Int)<(dy.length:Int)
   ·(have qX:i<dy.length:=by omega);have aB:=aw _ (sI qX);rw [if_pos (decide_eq_true h),qg ⟨by omega,h⟩,q3 qX,sQ qX,rR,rG i (by omega)];by_cases aS:dy[i].1<(S.length:Int)
    ·rw [if_pos (decide_eq_true aS),if_pos aS,qg ⟨aB.1,aS⟩,qg (by omega)];exact Ur he aw ao m (i+1) _ out _ rfl (by omega) (by omega) (by omega) (by simp;omega)
    ·rw [if_neg (by simpa using aS),if_neg aS,qg (by omega),Ur he aw ao m (i+1) _ (out++[own]) [] rfl (by omega) (by omega) (by simp;omega) (by simp)];simp
   ·rw [if_neg (by simpa using h),List.drop_eq_nil_of_le (by omega),rR];by_cases aU:0<own.length
    ·rw [if_pos (by simpa using aU),if_pos aU,qg (by omega)]
    ·rw [if_neg (by simpa using aU),if_neg aU,sW]
theorem ajF {s:List (Int×Int)} {f:Int×Int→Option Bool} {p:Int×Int→Bool} (aP:∀ x∈s,f x=some (p x)) (ai:s.length≤140737488355328):LQ s f=some (posOf p s 0):=by
 have:=Ut aP ai p' 0 0 rfl (sC _) (rL (by omega));rw [sV] at this;rw [LQ,this]
def Iu (b:p5) (r:List Int):Nat:=max 1 ((rr b r).length / 2)
theorem afx (r:List Int):Iu b r≤3:=by
 have aq:(rr b r).length≤6:=sL (tQ _ _) (by rw [Hx];omega);unfold Iu;omega
def JK (b:p5):Nat:=((parts b).map (Iu b)).sum
theorem ZB (p3:qA b) {P:List (List Int)} (CD:rb b (upto b.2.length) P) {k:List Row→Option (List Row)}:∀ (m i:Nat) (z:Int) (out:List Row),z=i→i≤P.length→P.length-i<m→RowsOf b (P.take i).flatten out→(∀ r∈out,r≠[])→out.length=((P.take i).map (Iu b)).sum →
  ∃ r_,IC b P k m out z=k r_∧RowsOf b P.flatten r_∧(∀ r∈r_,r≠[])∧r_.length=(P.map (Iu b)).sum
 | 0,_,_,_,_,_,h,_,_,_=>absurd h (by omega)
 | m+1,i,_,out,rfl,hi,hm,jB,bN,hlen=>by
   have di:=p3.len;have bS:=p3.f6;have Sl:=CD.few Ml;rw [IC];by_cases h:(i:Int)<(P.length:Int)
   ·(have qX:i<P.length:=by omega);obtain ⟨S,PN⟩:∃ S,S=P[i]:=⟨_,rfl⟩;(have PO:S∈P:=by rw [PN];exact sI qX);(have he:ix P (i:Int)=S:=by rw [q3 qX,PN]);have Of:rD b S:=CD.Mc Ml S PO;(have ac9:S.Nodup:=(CD.so S PO).imp fun h e=>by omega);have Sa:S.length≤b.2.length:=KS ac9 Of;have JM:=CD.ne S PO;obtain ⟨l,a,ak,bE,aO⟩:=round_part p3 Of (by omega) JM (CD.acu PO);have R':=W7 p3 Of JM bE aO;have aq:(rr b S).length≤6:=sL (tQ _ _) (by rw [Hx];omega);have GV:l.length=S.length+(rr b S).length / 2:=by
     have:=bE.upto.length_eq
     rwa [sX,Hx,Ns] at this
    (have akk:0<l.length:=by have:=uH.2 JM;omega);have aeb:∀ l:List (List Int),(l.map (Iu b)).sum≤3*l.length:=fun l=>by
     induction l with
     | nil=>simp
     | cons x l a9=>rw [sG,vo,sM];have:=afx (b:=b) x;omega
    have pR:out.length≤30:=by
     have:=aeb (P.take i);rw [ta] at this;omega
    have JU:∃ r_,IC b P k m (out++rR S [] (J1 S l)) (w ((i:Int)+1))=k r_∧RowsOf b P.flatten r_∧(∀ r∈r_,r≠[])∧r_.length=(P.map (Iu b)).sum:=by
     rw [rG i (by omega)];refine ZB p3 CD m (i+1) _ _ rfl (by omega) (by omega) ?_ ?_ ?_
     ·rw [K2 qX,vn,←PN];simpa using jB.app R'.toRowsOf
     ·intro r aj;rcases sN.1 aj with aj | aj
      ·exact bN r aj
      ·exact R'.ne r aj
     ·rw [sr,hlen,R'.len,K2 qX,s_,wx,←PN];simp [Iu]
    have aw:∀ (hb:Nat) (l':Row),l'=J1 S l→(∀ p∈l',H0 (rU b S) p)→l'.length≤1000→LO P out (i:Int) (fun Gx=>IC b P k m Gx (w ((i:Int)+1))) l'=IC b P k m (out++rR S [] (J1 S l)) (w ((i:Int)+1)):=fun _ l' e c7 gb=>by
     rw [LO];refine (Ur (T:=rU b S) (k:=fun Gx=>IC b P k m Gx (w ((i:Int)+1))) he c7 gb p' 0 0 out [] rfl (by omega) (rL (by omega)) (by omega) (by simp)).trans ?_;rw [sV,e]
    rw [if_pos (decide_eq_true h),qg ⟨by omega,h⟩]
    have gb:=ZC (t:=b) (r2:=P) (s2:=(i:Int)) (S:=S) he Of (by omega) (k:=fun yg =>
      (MC b (ix P (i:Int))).bind fun eI =>
      JD eI (fun yg =>
        (Mn (b.1,yg)).bind fun qR =>
        (LQ qR (fun qN=>OT qN (ix P (i:Int)))).bind fun q6 =>
        if (decide ((0:Int)≤q6))=true then
         p9 (0≤(w (q6+(1:Int)))∧(w (q6+(1:Int)))≤(qR.length:Int)) <|
         p9 (0≤(w (q6+(1:Int)))∧(w (q6+(1:Int)))≤(qR.length:Int)) <|
         (Nw [(qR.drop (w (q6+(1:Int))).toNat),(qR.take (w (q6+(1:Int))).toNat)]).bind fun HH =>
         LO P out (i:Int) (fun Gx =>
           IC b P k m Gx (w ((i:Int)+(1:Int)))) HH
        else
         LO P out (i:Int) (fun Gx =>
           IC b P k m Gx (w ((i:Int)+(1:Int)))) qR) p' (0:Int) yg) p' 0 0 rfl (by omega) (rL (by omega))
    rw [tj,ui] at gb;rw [gb,he,Zp p3 Of (by omega),sc,ZD (by omega) p' 0 0 _ rfl (by simp;omega) (rL (by omega)) (by omega) (by simp;omega),sV];have nQ:Mn (b.1,S.map (ix b.2)++Hw (rr b S))=some l:=ak;rw [nQ,sc,ajF (p:=fun p=>!Hm S p) (fun p _=>by rw [OT];unfold Hm;congr 1;by_cases al:p.1<(S.length:Int) <;> simp [al] <;> omega) (by omega),sc];rcases SQ (fun p=>!Hm S p) l 0 with ⟨ad,af⟩ | ⟨dI,q,kU,adQ,af,aG⟩
    ·rw [ad,if_neg (by decide),aw 0 l (by unfold J1;rw [ad];rfl) bE.ok (by omega)];exact JU
    ·(have cA:dI.length+1≤l.length:=by rw [adQ];simp);have ad8:J1 S l=l.drop (dI.length+1)++l.take (dI.length+1):=by
      unfold J1;rw [aG];simp only [sS];rw [if_pos (by omega),show ((dI.length:Int)+1).toNat=dI.length+1 by omega]
     rw [aG,sS,if_pos (by simp),rG _ (by omega),qg ⟨by omega,by omega⟩,qg ⟨by omega,by omega⟩,th,aiD (by simp;omega) (by simp;omega),sc,aw 0 _ ad8.symm ?_ ?_]
     ·exact JU
     ·intro p aB;rcases sN.1 aB with aB | aB
      ·exact bE.ok p (List.mem_of_mem_drop aB)
      ·exact bE.ok p (List.mem_of_mem_take aB)
     ·simp;omega
   ·rw [if_neg (by simpa using h)]
    have:i=P.length:=by omega
    subst this;rw [tC] at jB hlen;exact ⟨out,rfl,jB,bN,hlen⟩
structure MS (b:p5) (R:List Row):Prop extends RowsOf b (upto b.2.length) R where
 ne:∀ r∈R,r≠[]
 len:R.length=JK b
theorem rb.flat {P:List (List Int)} {S:List Int} (cl:S.Nodup) (CD:rb b S P):P.flatten.Perm S:=by
 refine (uK CD.VX cl).2 fun x=>?_;rw [CD.mem x,List.mem_flatten]
theorem ZA (p3:qA b):∃ R,Kv b=some R∧MS b R:=by
 obtain ⟨ad,af,_⟩:=J7 p3;have hlen:=p3.len;obtain ⟨R,r1,r2,eI,qR⟩:=ZB p3 af (k:=fun LR=>some LR) p' 0 0 [] rfl (by omega) (rL (by have:=af.few Ml;omega)) (by rw [tj];exact RowsOf.nil) (fun r aj=>absurd aj (by simp)) (by simp);refine ⟨R,?_,⟨⟨r2.ok,r2.go,r2.all.trans (af.flat (J4 _))⟩,eI,qR⟩⟩;rw [Kv,Zs (by omega),sc,ad,sc];exact r1
end
end Go.Proofs.YtfakoboiahbhaaaGreat.Ab


namespace Go.Proofs.YtfakoboiahbhaaaGreat.Ab
open Go
instance {d:Nat} {l:List I} [h:ql d l]:ql d (l.map I.gY):=⟨by
 have h:=h.pl;rw [sv] at h ⊢;intro u hu;obtain ⟨v,ae,rfl⟩:=sk.1 hu;have:=h v ae;cases d with
 | zero=>simp [ch] at this
 | succ d=>cases v with
   | ax cs n c=>cases c <;> exact this
   | _=>exact this⟩
end Go.Proofs.YtfakoboiahbhaaaGreat.Ab


namespace Go.Proofs.YtfakoboiahbhaaaGreat.Ab
open Go
set_option maxRecDepth 20000
set_option maxHeartbeats 4000000

end Go.Proofs.YtfakoboiahbhaaaGreat.Ab


namespace Go.Proofs.YtfakoboiahbhaaaGreat.Ab
open Go
set_option maxRecDepth 20000
set_option maxHeartbeats 4000000
noncomputable def Z1:fT :=
 pY [GC 1 [.jf 0] .box,qa 2 0,qa 3 0] (pY [GC 7 [.Bs 1] (.zx (.str 2)),GC 8 [.lR (.func 64 [] []),.sl 7] (.call 3),pX 6 8,rA 9 6 0,GC 10 [.Bs 6] (.ext 1),pX 4 9,pX 5 10] (.seq (pY [pZ 11 5,qq 12 11 0 .neq] (.cond (.sl 12) (pY [pX 13 5,qa 2 0,pX 3 13] .ret) .skip)) (pY [pX 14 4,GC 15 [.lR (.func 83 [] []),.sl 14] (.call 3),qM 16 15,pX 2 16,qa 3 0] .ret)))
theorem aeZ:zD Tryz.prog U5 35=some (Z1,17,[.tmp 2,.tmp 3]):=by kernel_rfl
def O1 (b:qe):Option (Int×Int) :=
 (Jn b).bind fun r1 =>
 match r1 with
 | (none,q1) =>
   if (decide (q1≠(0:Int)))=true then
    some ((0:Int),q1)
   else
    none
 | (some bR,q1) =>
   if (decide (q1≠(0:Int)))=true then
    some ((0:Int),q1)
   else
    (Kv bR).bind fun r2 =>
    some ((r2.length:Int),(0:Int))
theorem aje {b:qe} {v:(Int×Int)} (h:O1 b=some v):qw 35 [(.agg [(hU b.1),(.ax (b.2.flatMap p2) b.2.length .shared)])] (.tuple [(hU v.1),(hU v.2)]):=by
 refine q7 eo aeZ rfl (Jb (p1 rfl (p1 rfl rfl))) fun Q bo=>?_;have jB:qK [.tmp 2,.tmp 3] Q (fun v=>(.tuple [(hU v.1),(hU v.2)])) v:=fun T H bH=>bo _ T H bH;unfold O1 at h;unfold Z1;conv=>whnf
 obtain ⟨r1,gD,h⟩:=qj h;rcases r1 with ⟨_ | bR,q1⟩
 ·refine ⟨ql.pl,_,J6 gD,?_⟩;conv=>whnf
  refine bs h (fun gE h=>?_) fun gE h=>?_
  ·rw [gE];(conv=>whnf);exact qd h jB rfl rfl
  ·rw [gE];(conv=>whnf);exact ri h
 ·refine ⟨ql.pl,_,J6 gD,?_⟩;conv=>whnf
  refine bs h (fun qo h=>?_) fun qo h=>?_
  ·rw [qo];(conv=>whnf);exact qd h jB rfl rfl
  ·rw [qo];(conv=>whnf);obtain ⟨r2,qS,h⟩:=qj h;refine ⟨ql.pl,_,ZE qS,?_⟩;(conv=>whnf);exact qd h jB rfl rfl

end Go.Proofs.YtfakoboiahbhaaaGreat.Ab


namespace Go.Proofs.YtfakoboiahbhaaaGreat.Ab
open Go
section
variable {b:p5} {S:List Int}
theorem SL (p3:qA b):∀ r∈parts b,rD b r∧r.length≤10:=fun r aj=>by
 have h:=(J7 p3).2.1;have di:=p3.len;have ad:=h.Mc Ml r aj;exact ⟨ad,sL (KS ((h.so r aj).imp fun h e=>by omega) ad) di⟩
theorem Xa (p3:qA b):(parts b).length≤10:=sL ((J7 p3).2.1.few Ml) p3.len
theorem QK (p3:qA b):Jn b=some (some b,0):=by
 rw [Jn,QG b (by have:=p3.len;omega),sc,HU.2 p3];rfl
theorem QJ (ag:b.2.length≤1000) (h:q4 b≠0):Jn b=some (none,q4 b):=by
 rw [Jn,QG b ag,sc,if_pos (by simpa using h)]
def N2 (b:p5):Int×Int:=if q4 b≠0 then (0,q4 b) else (JK b,0)
theorem VQ (p3:qA b):N2 b=((JK b:Int),0):=by unfold N2;rw [if_neg (by rw [HU.2 p3];simp)]
theorem acL (h:q4 b≠0):N2 b=(0,q4 b):=by unfold N2;rw [if_pos h]
theorem ajd (ag:b.2.length≤1000):O1 b=some (N2 b):=by
 rw [O1];by_cases h:q4 b=0
 ·have p3:=HU.1 h;obtain ⟨R,ad,af⟩:=ZA p3;rw [QK p3,sc,VQ p3];show (if decide ((0:Int)≠0)=true then _ else (Kv b).bind fun r2=>some ((r2.length:Int),(0:Int)))=_;rw [if_neg (by decide),ad,sc,af.len]
 ·rw [QJ ag h,sc,acL h];show (if decide (q4 b≠0)=true then some ((0:Int),q4 b) else none)=_;rw [if_pos (by simpa using h)]
def LS (b:p5) (S:List Int):Prop:=∀ x∈S,∀ y∈S,∀ f g,qC b x f→qC b y g→qT b S f g
theorem rb.one {out:List (List Int)} (h:rb b S out) (aU:S≠[]):out.length=1↔LS b S:=by
 constructor
 ·intro ad;obtain ⟨r,rfl⟩:∃ r,out=[r]:=List.length_eq_one_iff.1 ad;intro x ak y aY f g aP aO;have hm:∀ z∈S,z∈r:=fun z bj=>by
   obtain ⟨q,aZ,Ww⟩:=(h.mem z).1 bj;rw [sO.1 aZ] at Ww;exact Ww
  exact h.H8 r (by simp) x (hm x ak) y (hm y aY) f g aP aO
 ·intro bH;obtain ⟨x,ak⟩:=vN S aU;obtain ⟨r,aj,HL⟩:=(h.mem x).1 ak;have all:∀ q∈out,q=r:=fun q aZ=>by
   obtain ⟨y,aY⟩:=vN q (h.ne q aZ);have Wv:=(h.mem y).2 ⟨q,aZ,aY⟩;have:=h.closed aj HL (f:=(ix b.2 x).1) (g:=(ix b.2 y).1) (.inl rfl) (bH x ak y Wv _ _ (.inl rfl) (.inl rfl)) y Wv (.inl rfl);exact h.uniq aZ aj aY this
  match out,aj,all,h with
  | [q],_,_,_=>rfl
  | q::fQ::l,_,all,h =>
    exfalso;have e1:=all q (by simp);have b':=all fQ (by simp);obtain ⟨y,aY⟩:=vN q (h.ne q (by simp));exact (List.pairwise_cons.1 h.rk).1 fQ (by simp) y aY (by rw [b',←e1];exact aY)
end
end Go.Proofs.YtfakoboiahbhaaaGreat.Ab


namespace Go.Proofs.YtfakoboiahbhaaaGreat.Ab
open Go
set_option maxRecDepth 20000
set_option maxHeartbeats 4000000
def QD (i:Int) (gV:qe) (a_:Int):Option Bool :=
 p9 (0≤i∧i<(gV.2.length:Int)) <|
 if (decide ((ix gV.2 i).1=a_))=true then
  some true
 else
  p9 (0≤i∧i<(gV.2.length:Int)) <|
  some (decide ((ix gV.2 i).2=a_))

def QF (s:p7) (Nu:Int) (qb:Unit→Option Int):Nat→Int→Option Int
 | 0,_=>none
 | m+1,s1 =>
   if (decide (s1<(s.length:Int)))=true then
    p9 (0≤s1∧s1<(s.length:Int)) <|
    if (decide (Nu=(ix s s1)))=true then
     some s1
    else
     QF s Nu qb m (w (s1+(1:Int)))
   else
    qb ()
def YZ (s:p7) (Nu:Int):Option Int :=
 QF s Nu (fun _ =>
   some (-1:Int)) p' (0:Int)

def Ue (s:p7) (Nu:Int):Option Bool :=
 (YZ s Nu).bind fun r1 =>
 some (decide ((0:Int)≤r1))
end Go.Proofs.YtfakoboiahbhaaaGreat.Ab
