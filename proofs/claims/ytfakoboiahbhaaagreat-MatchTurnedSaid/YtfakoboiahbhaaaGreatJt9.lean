
import Derived.Test.YtfakoboiahbhaaaGreatJt4
import Derived.KernelRfl
import Derived.Test.YtfakoboiahbhaaaGreatJt5
import Derived.Test.YtfakoboiahbhaaaGreatJt8
import Derived.Test.YtfakoboiahbhaaaGreatProg
set_option linter.unusedSimpArgs false
set_option linter.unusedVariables false
set_option linter.unusedSectionVars false

open Int renaming toNat_natCast→te
open List renaming all_eq_true→sy,append_assoc→sA,append_nil→sU,cons_append→uX,drop_eq_getElem_cons→sQ,drop_zero→sM,exists_mem_of_ne_nil→vC,ext_getElem?→tA,filter_append→uP,filter_cons→tO,find?_eq_none→vd,flatMap_cons→tZ,flatten_append→uS,flatten_cons→tS,getD_eq_getElem?_getD→sE,getElem?_append→sb,getElem?_eq_none→td,getElem?_eq_some_iff→sa,getElem?_map→sr,getElem?_set_ne→si,getElem?_set_self→sg,getElem?_take→sT,getElem_append_left→wa,getElem_append_right→wb,getElem_map→uO,getElem_mem→sD,getElem_of_mem→ua,getElem_set→wc,length_append→su,length_cons→sL,length_eq_zero_iff→tu,length_filter_le→tH,length_map→sV,length_nil→uK,length_pos_iff→uz,length_set→ta,length_singleton→tV,length_take→sY,map_append→sZ,map_cons→sx,map_map→tr,map_nil→tM,mem_append→sN,mem_append_left→u5,mem_cons→sj,mem_filter→sO,mem_map→sm,mem_range→sG,mem_reverse→vE,mem_singleton→sK,nil_append→ub,nodup_append→tT,nodup_cons→t_,nodup_range→tY,pairwise_append→uW,pairwise_iff_getElem→tf,pairwise_map→uJ,perm_append_comm→wg,perm_ext_iff_of_nodup→uR,range_succ→u7,reverse_perm→vD,set_set→sS,sum_cons→ve,take_length→tC,take_of_length_le→tG,take_zero→tq
open Nat renaming le_refl→sc,le_trans→sH,lt_succ_self→sf,min_eq_left→tK,zero_add→sP,zero_le→sq
open Option renaming bind_some→r_,map_eq_some_iff→rZ
namespace Go.Proofs.YtfakoboiahbhaaaGreat.Ab
open Go
set_option maxRecDepth 20000
set_option maxHeartbeats 4000000
noncomputable def Q7:ey :=
 .loop (some (Ez false [3,1,6,2,8])) (Gz [gL 12 [.sl 11,.sl 10] (.bin .lss)] (.seq (.cond (.sl 12) .skip (.exit 0)) (.seq (.block 1 (Gz [Gn 13 11,Gp 4 13] (Gs [Gp 14 3,Gp 15 4,gL 16 [.hJ 15] (.x' 1 1 [.int .i64 0] [0]),gL 17 [.hG 14,.hG 16] (.app 1 8),Gp 3 17]))) (Gs [FZ 18 11 1,Gp 11 18]))))
noncomputable def aa1:ey :=
 Gz [gL 2 [.iA (.ay [] 0 .full)] (.nil 1)] (Gz [gL 3 [.iA (.ay [] 0 .full)] (.nil 1)] (.seq (Gz [Gp 5 0,gL 6 [.hJ 5] .zB,F6 7 6 0,F6 8 7 1,Gl 9 8,Gk 10 9,Gm 11 0] (.block 0 Q7)) (Gz [Gp 19 3,Gp 2 19] .ret)))
theorem af_:zf Tryz.prog Rs 77=some (aa1,20,[.tmp 2]):=by kernel_rfl
def L' (t:qb) (p9:p8→Option p8):Nat→p8→Int→Option p8
 | 0,_,_=>none
 | m+1,s1,s2 =>
   if (decide (s2<(t.2.length:Int)))=true then
    p5 ((s1.length+1)*8≤140737488355328) <|
    L' t p9 m (s1++[s2]) (w (s2+(1:Int)))
   else
    p9 s1
def M' (t:qb):Option p8 :=
 L' t (fun xZ =>
   some xZ) p6 ([]:List Int) (0:Int)
theorem akI {t:qb} {p9:p8→Option p8} {s1:p8} {s2:Int} {v:p8} {Q:qY}   (q7:∀ (xZ:p8) (p4:List I),p9 xZ=some v→qI 20 [(3,(qg xZ (.uniq 1)))] p4→Q (.exit 0) p4 []) {T:List I} (bX:eQ (Ez false [3,1,6,2,8]) T=GG 20 [(3,(qg s1 (.uniq 1))),(10,(hP (t.2.length:Int))),(11,(hP s2))]) (h:L' t p9 p6 s1 s2=some v) :
  dB Tryz.prog Rs 77 0 none Q7 T [] Q:=by
 unfold Q7;refine wp_loop bX ?_;refine .intro (fun m T H=>∃ (s1:p8) (s2:Int),T=GG 20 [(3,(qg s1 (.uniq 1))),(10,(hP (t.2.length:Int))),(11,(hP s2))]∧H=[]∧L' t p9 m s1 s2=some v) p6 ⟨s1,s2,rfl,rfl,h⟩ ?_;clear h bX;rintro m T H ⟨s1,s2,rfl,rfl,h⟩;cases m
 ·exact qT h
 rename_i m;rw [L'.eq_2] at h;conv=>whnf
 refine bs h (fun eT h=>?_) fun eT h=>?_
 ·rw [eT];conv=>whnf
  obtain ⟨fj,h⟩:=qn h;refine ⟨by first | rfl | simp,by have:=fj;omega,rfl,fj,?_⟩
  erw [Lj hP s1 s2];conv=>whnf
  exact ⟨m,sf m,(s1++[s2]),(w (s2+(1:Int))),rfl,rfl,h⟩
 ·rw [eT];conv=>whnf
  exact q7 _ _ h ⟨rfl,rfl⟩
theorem U0 {t:qb} {v:p8} (h:M' t=some v):qp 77 [(.bU [(hP t.1),(.ay (t.2.flatMap pY) t.2.length .shared)])] (.ay (v.map hP) v.length .shared):=by
 refine qN dH af_ rfl (rK (fun _=>rfl) _ _ _) fun Q bl=>?_;have jw:qv [.tmp 2] Q (fun v=>(qg v .shared)) v:=fun T H bI=>bl _ T H bI;unfold M' at h;unfold aa1;obtain ⟨Hd,qy⟩:∃ c,Q7=c:=⟨_,rfl⟩;rw [qy];conv=>whnf
 subst qy;refine akI ?_ (by exact rfl) h;intro xZ p4 h qf;obtain ⟨qE,rfl⟩:=qf.ex;conv=>whnf
 exact p7 h jw rfl rfl

noncomputable def aaG:ey :=
 Gz [gL 1 [.hG 0] .box,gL 2 [.iA (.ay [] 0 .full)] (.nil 1),Gm 3 0] (Gz [gL 7 [.hJ 1] (.pT (.str 2)),gL 8 [.iA (.func 64 [] []),.sl 7] (.call 3),Gp 6 8,GJ 9 6 0,gL 10 [.hJ 6] (.ext 1),Gp 4 9,Gp 5 10] (.seq (Gz [Gn 11 5,F0 12 11 0 .neq] (.cond (.sl 12) (Gz [Gp 13 5,gL 2 [.iA (.ay [] 0 .full)] (.nil 1),Gp 3 13] .ret) .skip)) (Gz [Gn 14 4,Gp 15 4,gL 16 [.iA (.func 77 [] []),.sl 15] (.call 3),gL 17 [.iA (.func 79 [] []),.sl 14,.sl 16] (.call 3),Gp 2 17,Gm 3 0] .ret)))
theorem afP:zf Tryz.prog VA 29=some (aaG,18,[.tmp 2,.tmp 3]):=by kernel_rfl
def OE (b:qb):Option (rB×Int) :=
 (Im b).bind fun r1 =>
 match r1 with
 | (none,q1) =>
   if (decide (q1≠(0:Int)))=true then
    some ([],q1)
   else
    none
 | (some bR,q1) =>
   if (decide (q1≠(0:Int)))=true then
    some ([],q1)
   else
    (M' bR).bind fun r2 =>
    (JN bR r2).bind fun r3 =>
    some (r3,(0:Int))
theorem akj {b:qb} {v:(rB×Int)} (h:OE b=some v):qp 29 [(.agg [(hP b.1),(.ay (b.2.flatMap pY) b.2.length .shared)])] (.tuple [(.ay (v.1.map jh) v.1.length .shared),(hP v.2)]):=by
 refine qN dH afP rfl (Ih (pZ (rK (fun _=>(rK (fun _=>rfl) _ _ _)) _ _ _) (pZ rfl rfl))) fun Q bl=>?_;have jw:qv [.tmp 2,.tmp 3] Q (fun v=>(.tuple [(.ay (v.1.map jh) v.1.length .shared),(hP v.2)])) v:=fun T H bI=>bl _ T H bI;unfold OE at h;unfold aaG;conv=>whnf
 obtain ⟨r1,eT,h⟩:=qa h;rcases r1 with ⟨_ | bR,q1⟩
 ·refine ⟨qc.pl,_,IH eT,?_⟩;conv=>whnf
  refine bs h (fun fj h=>?_) fun fj h=>?_
  ·rw [fj];(conv=>whnf);exact p7 h jw rfl rfl
  ·rw [fj];(conv=>whnf);exact qT h
 ·refine ⟨qc.pl,_,IH eT,?_⟩;conv=>whnf
  refine bs h (fun qk h=>?_) fun qk h=>?_
  ·rw [qk];(conv=>whnf);exact p7 h jw rfl rfl
  ·rw [qk];(conv=>whnf);obtain ⟨r2,qw,h⟩:=qa h;refine ⟨qc.pl,_,U0 qw,?_⟩;(conv=>whnf);obtain ⟨r3,qC,h⟩:=qa h;refine ⟨qc.pl,_,aac qC,?_⟩;(conv=>whnf);exact p7 h jw rfl rfl

end Go.Proofs.YtfakoboiahbhaaaGreat.Ab


namespace Go.Proofs.YtfakoboiahbhaaaGreat.Ab
open Go
set_option maxRecDepth 20000
set_option maxHeartbeats 4000000
end Go.Proofs.YtfakoboiahbhaaaGreat.Ab


namespace Go.Proofs.YtfakoboiahbhaaaGreat.Ab
open Go
theorem G3 {n:Nat} {x:Int}:x∈upto n↔0≤x∧x<(n:Int):=by
 unfold upto;rw [sm];constructor
 ·rintro ⟨j,aw,rfl⟩;have:=sG.1 aw;omega
 ·rintro ⟨ad,af⟩;exact ⟨x.toNat,sG.2 (by omega),by omega⟩
theorem Jk (n:Nat):(upto n).Nodup:=by
 unfold upto;exact uJ.2 (tY.imp fun h e=>h (by omega))
section
variable {b:p3}
theorem rU.ade {f g:Int} (h:rU b (-1) f g):q9 b (upto b.2.length) f g:=by
 obtain ⟨n,h⟩:=h
 induction n generalizing g with
 | zero=>rw [show f=g from h];exact .refl
 | succ n a_ =>
   obtain ⟨c,ad,af⟩:=h;obtain ⟨i,hi,_,aG⟩:=af.rN;refine .step (i:Int) (a_ ad) (G3.2 ⟨by omega,by omega⟩) ?_ ?_
   ·rcases aG with ⟨aG,_⟩ | ⟨aG,_⟩
    ·exact .inl aG
    ·exact .inr aG
   ·rcases aG with ⟨_,aG⟩ | ⟨_,aG⟩
    ·exact .inr aG
    ·exact .inl aG
theorem RG {i f g:Int} (hi:i∈upto b.2.length) (ad:qD b i f) (af:qD b i g):rU b (-1) f g:=by
 have hi:=G3.1 hi;obtain ⟨j,rfl⟩:∃ j:Nat,i=(j:Int):=⟨i.toNat,by omega⟩;have he:=rO.of (b:=b) (wo := -1) (i:=j) (by omega) (by omega);rcases ad with rfl | rfl <;> rcases af with rfl | rfl
 ·exact rU.refl _
 ·exact he.Nv
 ·exact he.symm.Nv
 ·exact rU.refl _
theorem q9.Nv {f g:Int} (h:q9 b (upto b.2.length) f g):rU b (-1) f g:=by
 induction h with
 | refl=>exact rU.refl _
 | step i _ hi aB aH a_=>exact a_.trans (RG hi aB aH)
theorem Pm (p1:qu b) {i f:Int} (hi:i∈upto b.2.length) (h:qD b i f):0≤f∧f<b.1:=by
 have hi:=G3.1 hi;obtain ⟨j,rfl⟩:∃ j:Nat,i=(j:Int):=⟨i.toNat,by omega⟩;have:=LN p1 (i:=j) (by omega);rcases h with rfl | rfl <;> omega
structure Ip (key:Int→Int) (i:Nat) (seen:List Int) (out:List (List Int)):Prop where
 len:out.length=seen.length
 rV:seen.Nodup
 par:∀ (j:Nat) (h:j<out.length) (aX:j<seen.length) (x:Int),x∈out[j]↔0≤x∧x<(i:Int)∧key x=seen[j]
 so:∀ r∈out,r.Pairwise (·<·)
 ne:∀ r∈out,r≠[]
 all:∀ x:Int,0≤x→x<(i:Int)→key x∈seen
 aZ:out.Pairwise fun x y=>ix x 0<ix y 0
theorem Ip.new {key:Int→Int} {i:Nat} {seen:List Int} {out:List (List Int)} (h:Ip key i seen out) (aN:key i ∉ seen):Ip key (i+1) (seen++[key i]) (out++[[(i:Int)]]):=by
 have ak:=h.len;refine ⟨by simp [ak],?_,fun j aw ed x=>?_,fun r aj=>?_,fun r aj=>?_,fun x ad af=>?_,?_⟩
 ·rw [tT];exact ⟨h.rV,by simp,fun a cd c ao e=>by simp only [sK] at ao;subst ao;subst e;exact aN cd⟩
 ·by_cases lV:j<out.length
  ·rw [wa lV,wa (by omega),h.par j lV (by omega) x];constructor
   ·rintro ⟨aB,aH,aR⟩;exact ⟨aB,by omega,aR⟩
   ·rintro ⟨aB,aH,aR⟩;refine ⟨aB,?_,aR⟩
    have:x≠(i:Int):=fun e=>aN (by rw [←e,aR];exact sD _)
    omega
  ·(have e:j=out.length:=by simp at aw;omega);subst e;rw [wb (by omega),wb (by omega)];simp only [Nat.sub_self,ak,List.getElem_cons_zero,sK];constructor
   ·rintro rfl;exact ⟨by omega,by omega,rfl⟩
   ·rintro ⟨aB,aH,aR⟩;refine Classical.byContradiction fun al=>aN ?_;rw [←aR];exact h.all x aB (by omega)
 ·rcases sN.1 aj with aj | aj
  ·exact h.so r aj
  ·simp only [sK] at aj;subst aj;simp
 ·rcases sN.1 aj with aj | aj
  ·exact h.ne r aj
  ·simp only [sK] at aj;subst aj;simp
 ·by_cases al:x=(i:Int)
  ·subst al;simp
  ·exact u5 _ (h.all x ad (by omega))
 ·refine uW.2 ⟨h.aZ,by simp,fun r aj q a3=>?_⟩;simp only [sK] at a3;subst a3;obtain ⟨j,aw,rfl⟩:=ua aj;have:=((h.par j aw (by omega) _).1 (head_mem (h.ne _ aj))).2.1;show ix out[j] 0<(i:Int);exact this
theorem Ip.fI {key:Int→Int} {i k:Nat} {seen:List Int} {out:List (List Int)} (h:Ip key i seen out) (av:k<seen.length) (pk:seen[k]=key i):Ip key (i+1) seen (out.set k (out[k]'(by have:=h.len;omega)++[(i:Int)])):=by
 have ak:=h.len;have PH:k<out.length:=by omega
 have bM:=h.ne _ (sD PH);have aez:ix (out[k]++[(i:Int)]) 0=ix out[k] 0:=by
  cases e:out[k] with
  | nil=>exact absurd e bM
  | cons a r=>rfl
 refine ⟨by simpa using ak,h.rV,fun j aw ed x=>?_,fun r aj=>?_,fun r aj=>?_,fun x ad af=>?_,?_⟩
 ·rw [wc];split
  ·rename_i e;subst e;rw [sN,h.par k PH ed x,sK];constructor
   ·rintro (⟨aB,aH,aR⟩ | rfl)
    ·exact ⟨aB,by omega,aR⟩
    ·exact ⟨by omega,by omega,pk.symm⟩
   ·rintro ⟨aB,aH,aR⟩;by_cases al:x=(i:Int)
    ·exact .inr al
    ·exact .inl ⟨aB,by omega,aR⟩
  ·rename_i e;rw [h.par j (by simpa using aw) ed x];constructor
   ·rintro ⟨aB,aH,aR⟩;exact ⟨aB,by omega,aR⟩
   ·rintro ⟨aB,aH,aR⟩;refine ⟨aB,?_,aR⟩
    have:x≠(i:Int):=fun ex=>by
     subst ex;exact tf.1 h.rV |> fun aC=>by
      rcases Nat.lt_or_gt_of_ne e with aU | aU
      ·exact aC k j av ed aU (by rw [pk,aR])
      ·exact aC j k ed av aU (by rw [pk,aR])
    omega
 ·rcases List.mem_or_eq_of_mem_set aj with aj | rfl
  ·exact h.so r aj
  ·refine uW.2 ⟨h.so _ (sD PH),by simp,fun x al y a0=>?_⟩;simp only [sK] at a0;subst a0;exact ((h.par k PH av x).1 al).2.1
 ·rcases List.mem_or_eq_of_mem_set aj with aj | rfl
  ·exact h.ne r aj
  ·simp
 ·by_cases al:x=(i:Int)
  ·subst al;rw [←pk];exact sD _
  ·exact h.all x ad (by omega)
 ·refine tf.2 fun a c cd ao ad3=>?_;have a3:∀ (a:Nat) (cd:a<out.length),ix ((out.set k (out[k]++[(i:Int)]))[a]'(by simpa using cd)) 0=ix out[a] 0:=fun a cd=>by
   rw [wc];split
   ·rename_i e;subst e;exact aez
   ·rfl
  rw [a3 a (by simpa using cd),a3 c (by simpa using ao)];exact tf.1 h.aZ a c (by simpa using cd) (by simpa using ao) ad3
theorem Ip.parts (p1:qu b) {N:List Int} (B9:O6 b (-1) N) {seen:List Int} {out:List (List Int)} (h:Ip (fun s=>ix N (ix b.2 s).1) b.2.length seen out):q4 b (upto b.2.length) out:=by
 have ak:=h.len;have PI:∀ x∈upto b.2.length,0≤(ix b.2 x).1∧(ix b.2 x).1<b.1:=fun x al=>Pm p1 al (.inl rfl);have Je:∀ (j:Nat) (aw:j<out.length) (x:Int),x∈out[j]→x∈upto b.2.length:=fun j aw x al=>by
  have:=(h.par j aw (by omega) x).1 al;exact G3.2 ⟨this.1,this.2.1⟩
 refine ⟨h.ne,h.so,fun x=>?_,tf.2 fun i j hi aw gW x al iN=>?_,fun r aj x al y a0 f g aQ aO=>?_,fun r aj q a3 x al y a0 f aQ aO=>?_⟩
 ·constructor
  ·intro al;have nx:=G3.1 al;obtain ⟨j,aw,e⟩:=ua (h.all x nx.1 nx.2);exact ⟨_,sD (show j<out.length by omega),(h.par j (by omega) aw x).2 ⟨nx.1,nx.2,e.symm⟩⟩
  ·rintro ⟨r,aj,al⟩;obtain ⟨j,aw,rfl⟩:=ua aj;exact Je j aw x al
 ·have ad:=(h.par i hi (by omega) x).1 al;have af:=(h.par j aw (by omega) x).1 iN;exact tf.1 h.rV i j (by omega) (by omega) gW (by rw [←ad.2.2,←af.2.2])
 ·obtain ⟨j,aw,rfl⟩:=ua aj;have ad:=(h.par j aw (by omega) x).1 al;have af:=(h.par j aw (by omega) y).1 a0;have N9:=Je j aw x al;have N_:=Je j aw y a0;have ao:=(B9.iff (PI x N9) (PI y N_)).1 (by rw [ad.2.2,af.2.2]);exact ((q9.one N9 aQ (.inl rfl)).trans ao.ade).trans (q9.one N_ (.inl rfl) aO)
 ·obtain ⟨i,hi,rfl⟩:=ua aj;obtain ⟨j,aw,rfl⟩:=ua a3;have ad:=(h.par i hi (by omega) x).1 al;have af:=(h.par j aw (by omega) y).1 a0;have N9:=Je i hi x al;have N_:=Je j aw y a0;have ao:rU b (-1) (ix b.2 x).1 (ix b.2 y).1:=(RG N9 (.inl rfl) aQ).trans (RG N_ aO (.inl rfl));have e:=(B9.iff (PI x N9) (PI y N_)).2 ao;have ck:seen[i]'(by omega)=seen[j]'(by omega):=by rw [←ad.2.2,←af.2.2];exact e
  have gW:i=j:=by
   refine Classical.byContradiction fun bM=>?_;rcases Nat.lt_or_gt_of_ne bM with aU | aU
   ·exact tf.1 h.rV i j (by omega) (by omega) aU ck
   ·exact tf.1 h.rV j i (by omega) (by omega) aU ck.symm
  subst gW;rfl
end
end Go.Proofs.YtfakoboiahbhaaaGreat.Ab


namespace Go.Proofs.YtfakoboiahbhaaaGreat.Ab
open Go
section
variable {b:p3}
theorem Ip.few {key:Int→Int} {i:Nat} {seen:List Int} {out:List (List Int)} (h:Ip key i seen out):out.length≤i:=by
 have hm:=LH (l:=out.map fun r=>ix r 0) (n:=i) (by
  refine uJ.2 (h.aZ.imp fun HF e=>by omega)) fun x al=>by
  obtain ⟨r,aj,rfl⟩:=sm.1 al;obtain ⟨j,aw,rfl⟩:=ua aj;have:=(h.par j aw (by have:=h.len;omega) _).1 (head_mem (h.ne _ aj));exact ⟨this.1,this.2.1⟩
 simpa using hm
theorem Ip.zero {key:Int→Int}:Ip key 0 [] []:=⟨rfl,by simp,fun j h=>absurd h (by simp),fun r aj=>absurd aj (by simp),fun r aj=>absurd aj (by simp),fun x ad af=>by omega,by simp⟩
def parts (b:p3):List (List Int):=(JN b (upto b.2.length)).getD []
theorem Jj:rr b (upto b.2.length):=fun x al=>G3.1 al
theorem JO (p1:qu b):JN b (upto b.2.length)=some (parts b)∧q4 b (upto b.2.length) (parts b)∧(parts b).Pairwise fun x y=>ix x 0<ix y 0:=by
 obtain ⟨out,ad,af,aG⟩:=aab (b:=b) (S:=upto b.2.length) p1.len (Jk _) Jj
 have:parts b=out:=by unfold parts;rw [ad];rfl
 rw [this];exact ⟨ad,af,aG⟩
end
end Go.Proofs.YtfakoboiahbhaaaGreat.Ab


namespace Go.Proofs.YtfakoboiahbhaaaGreat.Ab
open Go
noncomputable def TC:ey :=
 .j0 true [gL 21 [.sl 3] (.pT .one),Gn 22 4,gL 23 [.hJ 22] (.build [.int .i64 0,.int .i64 0] [(0,1)]),gL 24 [.sl 3] (.pT .one),Gn 25 4,gL 26 [.hJ 25,.iA (.int .i64 1)] (.build [.int .i64 0,.int .i64 0] [(0,1),(1,1)]),⟨none,[.hJ 21,.hJ 23,.iA (.int .i64 1)],none,none,.zp (.str 2)⟩,⟨none,[.hJ 24,.hJ 26,.iA (.int .i64 1)],none,none,.zp (.str 2)⟩]
noncomputable def TF:ey :=
 .block 1 (Gz [Gn 20 18,Gp 4 20] TC)
noncomputable def XR:ey :=
 .j0 false [gL 84 [.sl 1] (.pT .one),gL 85 [.hJ 10] (.pT (.str 2)),gL 86 [.iA (.func 68 [] []),.sl 84,.sl 85] (.call 3),Gp 83 86,GJ 87 83 0,gL 88 [.hJ 83] (.ext 1),⟨none,[.sl 7,.hG 87],none,none,.st 1⟩]
noncomputable def TG:ey :=
 Gz [Gp 79 5,gL 80 [.sl 10] (.pT (.str 2)),gL 81 [.hJ 80] (.x' 1 2 [.int .i64 0,.int .i64 0] [0]),gL 82 [.hG 79,.hG 81] (.x3 2 16),Gp 5 82] XR
noncomputable def TH:ey :=
 Gz [gL 74 [.sl 6] (.other (Oper.mk (some 74) (Op.load 25 (Operand.tmp 6)) 25 "table.go:177" (Array.mk []) none) 5), gL 75 [.sl 6] (.pT .one), Gk 76 75, F0 77 76 1 .sub, gL 78 [.hG 74, .hG 77] (.AX 2 false true false), ⟨none, [.sl 6, .hG 78], none, none, .st 1⟩] TG
noncomputable def TI:ey :=
 Gz [gL 68 [.sl 6] (.pT .one),gL 69 [.sl 6] (.pT .one),Gk 70 69,F0 71 70 1 .sub,Gh 72 68 71 2,gL 73 [.hJ 72] (.pT (.str 2)),gL 10 [] (.alloc [.int .i64 0,.int .i64 0]),⟨none,[.sl 10,.hG 73],none,none,.st 2⟩] TH
noncomputable def TM:ey :=
 .An (.sl 40) [41] (Gw Go.Proofs.Tryz.prog 104 0) (Gx Go.Proofs.Tryz.prog 104 0)
noncomputable def TJ:ey :=
 .block 3 (.seq (Gz [Gn 38 8,gL 39 [.sl 7] (.pT .one),gL 40 [.sl 38,.sl 39] (.call 3)] (.block 4 TM)) (.seq (Gz [gL 65 [.sl 6] (.pT .one),Gk 66 65,F0 67 66 0 .eql] (.cond (.sl 67) (.exit 2) .skip)) TI))
noncomputable def P5:ey :=
 .loop (some (Ez false [1,1,1,1,1,4,83])) TJ
noncomputable def TK:ey :=
 .block 2 P5
noncomputable def TL:ey :=
 Gz [Gn 89 5, gL 90 [.iA (.func 128 [] []), .hG 89] (.call 1)] (Gz [⟨some 91, [.hG 5], none, some 5, .other (Oper.mk (some 91) (Op.move (Operand.tmp 5)) 25 "table.go:182" (Array.mk []) none) 2⟩, Gp 2 91] .ret)
noncomputable def TD:ey :=
 Gz [gL 28 [.sl 1] (.pT .one),gL 29 [.hJ 28] .zB,F6 30 29 0,F6 31 30 1,Gl 32 31,gL 33 [.hJ 32,.iA (.int .i64 0)] (.pM 2),F6 34 33 0,Gl 35 34,gL 7 [] (.alloc [.int .i64 0]),⟨none,[.sl 7,.hG 35],none,none,.st 1⟩] (Gz [gL 36 [.sl 1] (.pT .one),gL 37 [.hJ 36] (.zv 89 1 0),Gp 8 37] (.seq .skip (.seq TK TL)))
noncomputable def P6:ey :=
 .loop (some (Ez false [1,1,1,1,13,2,73])) (Gz [gL 19 [.sl 18,.sl 17] (.bin .lss)] (.seq (.cond (.sl 19) .skip (.exit 0)) (.seq TF (Gs [FZ 27 18 1,Gp 18 27]))))
noncomputable def TE:ey :=
 .seq (Gz [gL 12 [.sl 1] (.pT .one),gL 13 [.hJ 12] .zB,F6 14 13 0,F6 15 14 1,Gl 16 15,Gk 17 16,Gm 18 0] (.block 0 P6)) (Gz [gL 5 [.iA (.ay [] 0 .full)] .A6,gL 6 [] (.alloc [.ay [] 0 .full])] TD)
noncomputable def XQ:ey :=
 Gz [gL 1 [.hG 0] .box,gL 2 [.iA (.ay [] 0 .full)] (.nil 2)] (Gz [gL 11 [] .zw,gL 3 [] (.alloc [.junk]),⟨none,[.sl 3,.hG 11],none,none,.st 1⟩] TE)
theorem aft:zf Go.Proofs.Tryz.prog Li 104=some (XQ,92,[.tmp 2]):=by kernel_rfl
noncomputable def TY:ey :=
 .block 1 (Gt [Gn 14 0,Gn 15 2,Gn 16 0,Gn 17 3,Gn 18 0,Gn 19 3,Gh 20 18 19 2,gL 21 [.hJ 20] (.pT (.str 2)),Gn 22 0,Gn 23 2,Gh 24 22 23 2,gL 25 [.hJ 24] (.pT (.str 2)),Gh 26 14 15 2,⟨none,[.hG 26,.hG 21],none,none,.st 2⟩,Gh 27 16 17 2,⟨none,[.hG 27,.hG 25],none,none,.st 2⟩])
noncomputable def TZ:ey :=
 .j0 false [Gp 10 2,FZ 11 10 1,Gp 12 3,F0 13 12 1 .sub,Gp 2 11,Gp 3 13]
noncomputable def T0:ey :=
 .loop (some (Ez false [0,1,1,2,24])) (.seq (Gz [Gn 7 2,Gn 8 3,F1 9 7 8 .lss] (.cond (.sl 9) .skip (.exit 0))) (.seq TY TZ))
noncomputable def XU:ey :=
 Gz [Gn 4 0,Gk 5 4,F0 6 5 1 .sub,Gm 2 0,Gp 3 6] (.block 0 T0)
theorem afw:zf Go.Proofs.Tryz.prog Vt 128=some (XU,28,[]):=by kernel_rfl
noncomputable def Oj:ey :=
 Gz [Gl 60 1,gL 61 [.hJ 9] (.pT (.str 2)),gL 62 [.iA (.func 68 [] []),.sl 60,.sl 61] (.call 3),Gp 59 62,GJ 63 59 0,gL 64 [.hJ 59] (.ext 1),⟨none,[.hG 7,.hG 64],none,none,.st 1⟩] (.exit 3)
noncomputable def TB:ey :=
 Gz [gL 55 [.sl 6] (.other (Oper.mk (some 55) (Op.load 25 (Operand.tmp 6)) 25 "table.go:168" (Array.mk []) none) 5), gL 56 [.sl 9] (.pT (.str 2)), gL 57 [.hJ 56] (.x' 1 2 [.int .i64 0, .int .i64 0] [0]), gL 58 [.hG 55, .hG 57] (.x3 2 16), ⟨none, [.hG 6, .hG 58], none, none, .st 1⟩] Oj
noncomputable def P4:ey :=
 Gz [Gl 48 3,gL 49 [.sl 9] (.oP 0),Gl 50 49,gL 51 [.sl 9] (.oP 1),Gl 52 51,gL 53 [.iA (.int .i64 1),.hJ 52] (.bin .sub),gL 54 [.hJ 50,.hJ 53] (.build [.int .i64 0,.int .i64 0] [(0,1),(1,1)]),⟨none,[.hG 48,.hG 54],none,none,.zn (.str 2)⟩] TB
noncomputable def TA:ey :=
 .block 5 (.seq (Gz [gL 42 [.sl 3] (.pT .one),gL 43 [.sl 9] (.pT (.str 2)),gL 44 [.hJ 42,.hJ 43] (.zo (.str 2) false (some (.int .i64 0))),F0 45 44 0 .eql] (.cond (.sl 45) (.exit 5) .skip)) (Gz [gL 46 [.sl 3] (.pT .one),gL 47 [.sl 9] (.pT (.str 2)),⟨none,[.hG 46,.hG 47],none,none,.zn (.str 2)⟩] P4))
noncomputable def Tz:ey :=
 .j0 false [gL 9 [] (.alloc [.int .i64 0,.int .i64 0]),⟨none,[.sl 9,.hG 41],none,none,.st 2⟩]
theorem Xh:dS Tryz.prog Li (Gw Tryz.prog 104 0) 0=some Tz:=by kernel_rfl
theorem Xi:dS Tryz.prog Li (Gx Tryz.prog 104 0) 0=some TA:=by kernel_rfl
end Go.Proofs.YtfakoboiahbhaaaGreat.Ab


namespace Go.Proofs.YtfakoboiahbhaaaGreat.Ab
open Go
def Vb (P:Program) (k:FuncId) (cap:List I) (E:List I):Prop :=
 ∀ (l N:Nat) (rp:Nat→List au) (R:List au→Prop) (n:Nat),(∀ i,(rp i).length=N)→l<N→(aN:n<E.length) →
   (∀ (i:Nat) (h:i<n) (Y:List au),∃ q6,Sem P (.yield l) [E[i]'(Nat.lt_trans h aN)] (rp i++Y) 0 (.bool true) (rp (i+1)++q6)) →
   (∀ Y:List au,∃ H',R H'∧Sem P (.yield l) [E[n]] (rp n++Y) 0 (.bool false) H') →
   ∀ Y,∃ H',R H'∧Sem P (.fn k) (.yield l::cap) (rp 0++Y) 0 (.tuple []) H'
theorem ah2 {t:p3} {figure:Int} {v:List (Int×Int)} (h:Kf t figure=some v):Vb Tryz.prog 113 [.bU [.bU [hP t.1,.ay (t.2.flatMap pY) t.2.length .shared]],.bU [hP figure]] (v.map fun e1=>.agg [hP e1.1,hP e1.2]):=by
 unfold Kf at h;split at h
 ·rename_i al;obtain rfl:=Option.some.inj h;intro L N rp R n hlen fi aN aj N5 Y;have ao:∀ j,((List.range j).filter (rA t figure)).length=((List.range j).filter (rA t figure)).length:=fun _=>rfl;have aeQ:n<((List.range (2*t.2.length)).filter (rA t figure)).length:=by simpa [places] using aN
  obtain ⟨M,B8,SB,PD⟩:∃ M,M<2*t.2.length∧rA t figure M=true∧((List.range M).filter (rA t figure)).length=n:=by
   have hm:=sD aeQ;obtain ⟨ad,af⟩:=sO.1 hm;(have ad:((List.range (2*t.2.length)).filter (rA t figure))[n]<2*t.2.length:=by simpa using ad);refine ⟨_,ad,af,?_⟩;have aO:=RH _ af ad;have jG:((List.range (2*t.2.length)).filter (rA t figure)).Nodup:=tY.filter _;obtain ⟨aG,a6⟩:=sa.1 aO;exact (List.getElem_inj jG).1 a6
  have CK:∀ a b,a≤b→((List.range a).filter (rA t figure)).length≤((List.range b).filter (rA t figure)).length:=fun a b jy=>by
   obtain ⟨d,rfl⟩:=Nat.exists_eq_add_of_le jy
   induction d with
   | zero=>exact sc _
   | succ d a_=>rw [←Nat.add_assoc,Po];exact sH (a_ (by omega)) (Nat.le_add_right _ _)
  obtain ⟨Z,J4,J3,hle⟩:=VZ (t:=t) (figure:=figure) (L:=L) hlen ao (M:=M) Y fun r PL ag Y=>by
   have aO:=Ti (show r<2*t.2.length by omega) ag;obtain ⟨ad,af⟩:=sa.1 aO;have aU:((List.range r).filter (rA t figure)).length<n:=by
    have:=CK (r+1) M (by omega);rw [Po,if_pos ag,PD] at this;omega
   obtain ⟨q6,h⟩:=aj _ aU Y;refine ⟨q6,?_⟩;rw [←af];exact h
  obtain ⟨H',jw,ak⟩:=N5 (Z M++[au.cells (pY (qZ M))]);have aO:=Ti B8 SB;rw [PD] at aO;obtain ⟨ad,af⟩:=sa.1 aO;refine ⟨H',jw,?_⟩;rw [←J4];refine V0 al hlen ao (M:=M) (by omega) J3 (.inr ⟨B8,SB,?_⟩) (Ob ?_)
  ·rw [PD,←af];exact ak
  ·have e1:=hle M (sc _);have ck:=ak.1.1;rw [PD] at e1;rw [J4];refine sH e1 (sH ?_ ck);rw [←sA];simp
 ·cases h
theorem ahP {α:Type} {P:Program} {A:c7} {fn:FuncId} {rl:Option Nat} {k:FuncId} {cap:List I} {t:Nat} {bh:List Nat} {gp bY:Code} {T:List I} {H:List au} {Q:cB→List I→List au→Prop} {f:α→I} {L:List α} {id n:Nat} (N8:Vb P k cap (L.map f)) (aN:n<L.length)
  (ax:c4 T t=.func k [] cap)
  (N7:∀ (i:Nat) (h:i<n) (Y:List au),∃ q6,Sem P (.yield H.length) [f (L[i]'(Nat.lt_trans h aN))] ((H++[.loop .ready none fn (T.map I.view) bh gp bY A])++Y) 0 (.bool true) ((H++[.loop .ready none fn (T.map I.view) bh gp bY A])++q6))
  (N5:∀ (Y:List au),∃ H',(H'[H.length]?=some (.loop .done (some (.exit id)) fn (T.map I.view) bh gp bY A)∧Q (.exit id) (T.map I.settle) (H'.set H.length .dead))∧Sem P (.yield H.length) [f L[n]] ((H++[.loop .ready none fn (T.map I.view) bh gp bY A])++Y) 0 (.bool false) H')
  (gX:inLoop H rl=true):dB P A fn 0 rl (.An (.sl t) bh gp bY) T H Q:=by
 show ho T t _;rw [iC,ax]
 obtain ⟨H',⟨dp,CX⟩,cm⟩:=N8 H.length (H.length+1) (fun _=>H++[.loop .ready none fn (T.map I.view) bh gp bY A]) (fun H'=>H'[H.length]?=some (.loop .done (some (.exit id)) fn (T.map I.view) bh gp bY A)∧Q (.exit id) (T.map I.settle) (H'.set H.length .dead)) n (fun i=>by simp) (by omega) (by simpa using aN) (fun i h Y=>by
  obtain ⟨q6,aj⟩:=N7 i h Y;exact ⟨q6,by rw [uO];exact aj⟩) (fun Y=>by
  obtain ⟨H',aj,ai⟩:=N5 Y
  exact ⟨H',aj,by rw [uO];exact ai⟩) []
 simp only [sU] at cm;exact ⟨gX,.tuple [],H',.done,some (.exit id),fn,T.map I.view,bh,gp,bY,A,cm,dp,by decide,CX⟩
def rv (L:List Nat):List (Nat×I×I):=L.map fun r=>(r,.agg (pY (qZ r)),hP 1)
theorem RF (a b:Nat):gv (.agg (pY (qZ a))) (.agg (pY (qZ b)))=some (decide (a=b)):=by
 simp only [gv,pY,qZ,dK,if_true,Option.map_some,Bool.and_true,Option.some.injEq];rw [Bool.eq_iff_iff];simp only [beq_iff_eq,decide_eq_true_eq,Bool.and_eq_true];omega
theorem Pq (b:Nat):∀ (L:List Nat) (n:Nat),b ∉ L→fy (.agg (pY (qZ b))) (rv L) n=some none
 | [],n,_=>rfl
 | a::L,n,h=>by
   simp only [sj,not_or] at h;simp only [rv,sx,fy,RF];rw [decide_eq_false h.1];exact Pq b L (n+1) h.2
theorem Wo (b:Nat):∀ (L:List Nat) (n:Nat),b∈L→L.Nodup→∃ i,fy (.agg (pY (qZ b))) (rv L) n=some (some (n+i))∧(∃ e:Nat×I×I,(rv L)[i]?=some e∧e.2.2=hP 1)∧(rv L).eraseIdx i=rv (L.filter fun x=>decide (x≠b))
 | [],n,h,_=>absurd h (by simp)
 | a::L,n,h,aN=>by
   obtain ⟨aeR,pt⟩:=t_.1 aN;by_cases e:b=a
   ·subst e;refine ⟨0,?_,⟨_,rfl,rfl⟩,?_⟩
    ·simp only [rv,sx,fy,RF,decide_true];rfl
    ·rw [List.filter_cons_of_neg (by simp)];rw [List.filter_eq_self.2 (fun x al=>by simp;intro e;subst e;exact aeR al)];rfl
   ·(have ag:b∈L:=by simpa [e] using h);obtain ⟨i,ad,⟨ck,aG,a6⟩,af⟩:=Wo b L (n+1) ag pt;refine ⟨i+1,?_,⟨ck,by simpa [rv] using aG,a6⟩,?_⟩
    ·simp only [rv,sx,fy,RF];rw [decide_eq_false e];simp only [rv] at ad;rw [ad];rw [show n+1+i=n+(i+1) by omega]
    ·rw [List.filter_cons_of_pos (by simp;intro cM;exact e cM.symm)];simp only [rv,sx,List.eraseIdx_cons_succ] at af ⊢;rw [af]
theorem Wi (L:List Nat) (k:Nat):rv L++[(k,.agg (pY (qZ k)),hP 1)]=rv (L++[k]):=by
 simp [rv]
end Go.Proofs.YtfakoboiahbhaaaGreat.Ab


namespace Go.Proofs.YtfakoboiahbhaaaGreat.Ab
open Go
set_option maxRecDepth 20000
set_option maxHeartbeats 4000000
def Uy (l:List (Int×Int)) (i:Nat):List (Int×Int):=l.take i++(l.drop i).reverse
def HW (g:List (Int×Int)) (off t:Nat):List (Int×Int):=(List.range g.length).map fun x=>if off≤x∧(x-off<t∨g.length-t≤x) then g.getD (off+g.length-1-x) (0,0) else g.getD x (0,0)
theorem LL (g:List (Int×Int)) (off t:Nat):(HW g off t).length=g.length:=by simp [HW]
theorem MT (g:List (Int×Int)) (off t x:Nat) (h:x<g.length):(HW g off t)[x]?=some (if off≤x∧(x-off<t∨g.length-t≤x) then g.getD (off+g.length-1-x) (0,0) else g.getD x (0,0)):=by
 simp [HW,h]
theorem ahO (g:List (Int×Int)) (off:Nat):HW g off 0=g:=by
 apply tA;intro x;by_cases h:x<g.length
 ·rw [MT g off 0 x h,if_neg (by omega)];simp [h,sE]
 ·rw [td (by rw [LL];omega),td (by omega)]
theorem ahN (g:List (Int×Int)) (off t:Nat) (ax:off+t<g.length-1-t):((HW g off t).set (off+t) (g.getD (g.length-1-t) (0,0))).set (g.length-1-t) (g.getD (off+t) (0,0))=HW g off (t+1):=by
 apply tA;intro x;by_cases h:x<g.length
 ·rw [MT g off (t+1) x h];by_cases ad:x=g.length-1-t
  ·subst ad;rw [sg (by rw [ta,LL];omega),if_pos (by omega)];congr 2;omega
  ·rw [si (by omega)];by_cases af:x=off+t
   ·subst af;rw [sg (by rw [LL];omega),if_pos (by omega)];congr 2;omega
   ·rw [si (by omega),MT g off t x h];by_cases aG:off≤x∧(x-off<t∨g.length-t≤x)
    ·rw [if_pos aG,if_pos (by omega)]
    ·rw [if_neg aG,if_neg (by omega)]
 ·rw [td (by simp [LL];omega),td (by rw [LL];omega)]
theorem ahM (g:List (Int×Int)) (off t:Nat) (aq:off≤g.length) (ax:g.length-1-t≤off+t):HW g off t=Uy g off:=by
 apply tA;intro x;unfold Uy;by_cases h:x<g.length
 ·rw [MT g off t x h];by_cases ad:x<off
  ·rw [if_neg (by omega),List.getElem?_append_left (by simp;omega),sT,if_pos ad];simp [h,sE]
  ·rw [List.getElem?_append_right (by simp;omega),sY,tK aq,List.getElem?_reverse (by simp;omega),List.getElem?_drop,List.length_drop];(have e:off+(g.length-off-1-(x-off))=off+g.length-1-x:=by omega);rw [e];(have ak:off+g.length-1-x<g.length:=by omega);by_cases aG:off≤x∧(x-off<t∨g.length-t≤x)
   ·rw [if_pos aG];simp [ak,sE]
   ·rw [if_neg aG]
    have:x=off+g.length-1-x:=by omega
    rw [←this];simp [h,sE]
 ·rw [td (by rw [LL];omega),td (by simp;omega)]
theorem PY:∀ (l:List (Int×Int)) (i:Nat),i<l.length→(l.flatMap pY)[i*2]?=some (hP (l.getD i (0,0)).1)∧(l.flatMap pY)[i*2+1]?=some (hP (l.getD i (0,0)).2)
 | [],i,h=>absurd h (by simp)
 | p::l,0,_=>⟨rfl,rfl⟩
 | p::l,i+1,h=>by
   have:=PY l i (by simpa using h);rw [tZ,show (i+1)*2=(i*2)+2 by omega];simpa [pY] using this
theorem Tm:∀ (l:List (Int×Int)) (i:Nat) (x:Int×Int),i<l.length→((l.flatMap pY).set (i*2) (hP x.1)).set (i*2+1) (hP x.2)=(l.set i x).flatMap pY
 | [],i,_,h=>absurd h (by simp)
 | p::l,0,x,_=>rfl
 | p::l,i+1,x,h=>by
   have:=Tm l i x (by simpa using h);rw [tZ,show (i+1)*2=(i*2)+2 by omega,show i*2+2+1=(i*2+1)+2 by omega];simp only [pY,uX,ub,List.set_cons_succ,tZ];rw [this]
theorem Jf (l:List (Int×Int)):(l.flatMap pY).length=l.length*2:=G0 pY 2 ql l
theorem ahL (g:List (Int×Int)) (aS:0<g.length) (aO:g.length≤1000000) {H:List au} {id lo RO:Nat} (bD:lo≤id) (ah:H[id]?=some (.grow (g.flatMap pY) RO 2)) :
  Sem Go.Proofs.Tryz.prog (.fn 128) [.ref id 0 g.length none 2] H lo (.tuple []) (H.set id (.grow (g.reverse.flatMap pY) RO 2)):=by
 have aE:=(sa.1 ah).1;refine G_ dH afw rfl ⟨by simp,fun j ad af=>by rw [si (by omega)]⟩ fun Q bl=>?_;unfold XU;obtain ⟨Ry,Iu⟩:∃ c,T0=c:=⟨_,rfl⟩;rw [Iu];conv=>whnf
 rw [show IntKind.i64.wrap ((g.length:Int)-1)=((g.length-1:Nat):Int) by rw [H3 _ (by omega) (by omega)];omega];have ag:Nat.ble lo id=true:=Nat.ble_eq_true_of_le bD;have gs:∀ c:au,(H.set id c)[id]?=some c:=fun c=>by rw [sg aE]
 subst Iu;unfold T0;obtain ⟨a',cb⟩:∃ c,TY=c:=⟨_,rfl⟩;obtain ⟨bk,b8⟩:∃ c,TZ=c:=⟨_,rfl⟩;rw [cb,b8];refine wp_loop rfl ?_;refine .intro (fun m T H'=>∃ t,2*t≤g.length∧m=g.length-t∧T=GG 28 [(0,.ref id 0 g.length none 2),(2,hP t),(3,hP (g.length-1-t:Nat))]∧H'=H.set id (.grow ((HW g 0 t).flatMap pY) RO 2)) g.length ⟨0,by omega,rfl,rfl,?_⟩ ?_
 ·rw [ahO];obtain ⟨ad,af⟩:=sa.1 ah;rw [←af,List.set_getElem_self]
 rintro m T H' ⟨t,ax,rfl,rfl,rfl⟩;conv=>whnf
 refine It (fun h=>?_) (fun h=>?_)
 ·have ck:0+((g.length-1-t:Nat):Int).toNat*2=(g.length-1-t)*2:=by omega
  have dE:0+(t:Int).toNat*2=t*2:=by omega
  have ak:=LL g 0 t;have RM:=PY (HW g 0 t) (g.length-1-t) (by omega);have RN:=PY (HW g 0 t) t (by omega);have v1:(HW g 0 t).getD (g.length-1-t) (0,0)=g.getD (g.length-1-t) (0,0):=by
   rw [sE,MT g 0 t _ (by omega),if_neg (by omega)];rfl
  have v2:(HW g 0 t).getD t (0,0)=g.getD t (0,0):=by
   rw [sE,MT g 0 t _ (by omega),if_neg (by omega)];rfl
  rw [v1] at RM;rw [v2] at RN;conv=>whnf
  subst cb;unfold TY;refine Il fun mS G2=>?_;conv=>whnf
  refine ⟨by omega,?_⟩;conv=>whnf
  refine DW (gs _) ?_;conv=>whnf
  refine DW (by rw [ck];exact RM.1) ?_;conv=>whnf
  refine DW (by rw [ck];exact RM.2) ?_;conv=>whnf
  refine ⟨by omega,?_⟩;conv=>whnf
  refine DW (gs _) ?_;conv=>whnf
  refine DW (by rw [dE];exact RN.1) ?_;conv=>whnf
  refine DW (by rw [dE];exact RN.2) ?_;conv=>whnf
  refine ⟨by omega,?_⟩;conv=>whnf
  rw [ag];conv=>whnf
  refine DW (gs _) ?_;conv=>whnf
  refine A_ (by rw [Jf];omega) ?_;conv=>whnf
  refine A_ (by rw [ta,Jf];omega) ?_;conv=>whnf
  refine ⟨by omega,?_⟩;conv=>whnf
  rw [ag];conv=>whnf
  rw [sS];refine DW (gs _) ?_;conv=>whnf
  refine A_ (by rw [ta,ta,Jf];omega) ?_;conv=>whnf
  refine A_ (by rw [ta,ta,ta,Jf];omega) ?_;conv=>whnf
  rw [sS,ck,dE];refine G2 _ _ _ ?_;conv=>whnf
  subst b8;unfold TZ;conv=>whnf
  refine ⟨g.length-(t+1),by omega,t+1,by omega,rfl,?_,?_⟩
  ·rw [←GY t (by omega),show ((g.length-1-(t+1):Nat):Int)=IntKind.i64.wrap (((g.length-1-t:Nat):Int)-1) by rw [H3 _ (by omega) (by omega)];omega];rfl
  ·have ai:=ahN g 0 t (by omega);rw [sP] at ai;rw [←ai,←Tm _ _ _ (by rw [ta];omega),←Tm _ _ _ (by omega)];rfl
 ·conv=>whnf
  have e:HW g 0 t=g.reverse:=by
   rw [ahM g 0 t (by omega) (by omega),Uy];simp
  rw [e];exact bl _ _ _ ⟨.inl rfl,⟨by simp,fun j o aw=>.inr aw⟩,rfl⟩

def rW (p:Int×Int):Nat:=(2*p.1+p.2).toNat
theorem XI {p:Int×Int} (ad:0≤p.1) (af:0≤p.2∧p.2≤1):qZ (rW p)=p:=by
 unfold qZ rW;exact Prod.ext (by simp only;omega) (by simp only;omega)
def MB (L:List Nat) (p:Int×Int):Bool:=decide (rW p∈L)
def Hs (L:List Nat) (p:Int×Int):List Nat:=L.filter fun x=>decide (x≠rW p)
def I4 (L:List Nat) (p:Int×Int):List Nat:=Hs (Hs L p) (p.1,1-p.2)
structure rF (t:p3) (L:List Nat) (way out:List (Int×Int)) (a:Int) (rb v5:I) (x y:Nat) (H:List au):Prop where
 rV:L.Nodup
 aS:H[0]?=some (H0 t)
 ad:∃ Hi,H[1]?=some (.map (rv L) Hi)
 af:H[2]?=some (.cells [.map 1])
 aG:H[3]?=some (.cells [rb])
 a6:H[4]?=some (.cells [hP a])
 hw:(way=[]∧rb=.ay [] 0 .full)∨(rb=.cl x (x+1) way.length 2∧4<x∧∃ cs,H[x]?=some (.grow cs (x+1) 2)∧way.length*2≤cs.length∧cs.take (way.length*2)=way.flatMap pY)
 aq:(out=[]∧v5=.ay [] 0 .full)∨(v5=.cl y (y+1) out.length 2∧4<y∧H[y]?=some (.grow (out.flatMap pY) (y+1) 2))
 ne:x≠y
 Jx:x<H.length
 Jy:y<H.length
 I5:x=0∨4<x
 II:y=2∨4<y
theorem rF.len {t:p3} {L:List Nat} {way out:List (Int×Int)} {a:Int} {rb v5:I} {x y:Nat} {H:List au} (h:rF t L way out a rb v5 x y H):4<H.length:=(sa.1 h.a6).1
theorem rF.more {t:p3} {L:List Nat} {way out:List (Int×Int)} {a:Int} {rb v5:I} {x y:Nat} {H:List au} (h:rF t L way out a rb v5 x y H) (Z:List au):rF t L way out a rb v5 x y (H++Z):=by
 obtain ⟨rV,aS,⟨Hi,ad⟩,af,aG,a6,hw,aq,ne,Jx,Jy,I5,II⟩:=h;refine ⟨rV,qH aS,⟨Hi,qH ad⟩,qH af,qH aG,qH a6,?_,?_,ne,by simp;omega,by simp;omega,I5,II⟩
 ·rcases hw with hw | ⟨bC,bT,cs,rR,IX⟩
  ·exact .inl hw
  ·exact .inr ⟨bC,bT,cs,qH rR,IX⟩
 ·rcases aq with aq | ⟨bC,bT,rR⟩
  ·exact .inl aq
  ·exact .inr ⟨bC,bT,qH rR⟩
theorem rF.ah8 {t:p3} {L:List Nat} {way out:List (Int×Int)} {a:Int} {rb v5:I} {x y j:Nat} {H:List au} {c:au} (h:rF t L way out a rb v5 x y H) (alo:4<j) (al:j≠x) (a0:j≠y):rF t L way out a rb v5 x y (H.set j c):=by
 obtain ⟨rV,aS,⟨Hi,ad⟩,af,aG,a6,hw,aq,ne,Jx,Jy,I5,II⟩:=h;refine ⟨rV,qA aS (by omega),⟨Hi,qA ad (by omega)⟩,qA af (by omega),qA aG (by omega),qA a6 (by omega),?_,?_,ne,by simpa using Jx,by simpa using Jy,I5,II⟩
 ·rcases hw with hw | ⟨bC,bT,cs,rR,IX⟩
  ·exact .inl hw
  ·exact .inr ⟨bC,bT,cs,qA rR al,IX⟩
 ·rcases aq with aq | ⟨bC,bT,rR⟩
  ·exact .inl aq
  ·exact .inr ⟨bC,bT,qA rR a0⟩
theorem J2 {H:List au} {j:Nat} {c:au} (h:j<H.length):(H.set j c)[j]?=some c:=sg h
theorem rF.map {t:p3} {L im:List Nat} {way out:List (Int×Int)} {a:Int} {rb v5:I} {x y Hi:Nat} {H:List au} (h:rF t L way out a rb v5 x y H) (aN:im.Nodup):rF t im way out a rb v5 x y (H.set 1 (.map (rv im) Hi)):=by
 have ak:=h.len;obtain ⟨rV,aS,_,af,aG,a6,hw,aq,ne,Jx,Jy,I5,II⟩:=h;refine ⟨aN,qA aS (by omega),⟨Hi,J2 (by omega)⟩,qA af (by omega),qA aG (by omega),qA a6 (by omega),?_,?_,ne,by simpa using Jx,by simpa using Jy,I5,II⟩
 ·rcases hw with hw | ⟨bC,bT,cs,rR,IX⟩
  ·exact .inl hw
  ·exact .inr ⟨bC,bT,cs,qA rR (by omega),IX⟩
 ·rcases aq with aq | ⟨bC,bT,rR⟩
  ·exact .inl aq
  ·exact .inr ⟨bC,bT,qA rR (by omega)⟩
theorem Xd {P:Program} {C:b6} {lo id:Nat} {o:Oper} {t e:TypeId} {x:Operand} {H:List au} {v:I} (aq:o.op=.load t x) (ax:P.underlying t=some (.slice e)) (ah:H[id]?=some (.cells [v])) (ae:v=.ay [] 0 .full∨∃ i g n z,v=.cl i g n z) :
  a8 P C lo o 5 [.ptr id 0] H=some (v,H):=by
 unfold a8;rw [aq];show dO P lo 5 t H [.ptr id 0]=_;unfold dO;simp only [ax,ah];rcases ae with rfl | ⟨i,g,n,z,rfl⟩ <;> rfl

abbrev ahJ (t:p3) (a:Int) (v5:I):List I:=(GG 92 [(1,.ptr 0 0),(3,.ptr 2 0),(5,v5),(6,.ptr 3 0),(7,.ptr 4 0),(8,.func 89 [HZ t] []),(38,.func 89 [HZ t] []),(39,hP a),(40,.func 113 [] [.bU [HZ t],.bU [hP a]])]).map I.view
noncomputable abbrev HV (t:p3) (a:Int) (v5:I) (st:LoopState) (agK:Option Code):au:=.loop st agK 104 (ahJ t a v5) [41] (Gw Tryz.prog 104 0) (Gx Tryz.prog 104 0) Li
section
variable {t:p3} {L:List Nat} {way out:List (Int×Int)} {a:Int} {rb v5:I} {x y:Nat} {H:List au} {p:Int×Int}
theorem adD (jJ:0≤p.1) (nq:0≤p.2∧p.2≤1) (gX:rW p ∉ L):fy (.agg [hP p.1,hP p.2]) (rv L) 0=some none:=by
 have:=Pq (rW p) L 0 gX;rw [XI jJ nq] at this;exact this
theorem Wq (jJ:0≤p.1) (nq:0≤p.2∧p.2≤1) (gX:rW p∈L) (aN:L.Nodup):∃ i,fy (.agg [hP p.1,hP p.2]) (rv L) 0=some (some i)∧(∃ e:Nat×I×I,(rv L)[i]?=some e∧e.2.2=hP 1)∧(rv L).eraseIdx i=rv (Hs L p):=by
 obtain ⟨i,ad,af,aG⟩:=Wo (rW p) L 0 gX aN;rw [XI jJ nq,sP] at ad;exact ⟨i,ad,af,aG⟩
theorem X5 (cm:rF t L way out a rb v5 x y H) (jJ:0≤p.1) (nq:0≤p.2∧p.2≤1) (gX:rW p ∉ L) (Y:List au) :
  ∃ q6,Sem Tryz.prog (.yield H.length) [.agg (pY p)] ((H++[HV t a v5 .ready none])++Y) 0 (.bool true) ((H++[HV t a v5 .ready none])++q6):=by
 refine ⟨Y++[.dead],GF dH Xh Xi (NL _ _ _) rfl (Ob (by simp)) ?_⟩;obtain ⟨Hi,ad⟩:=cm.ad;unfold Tz;conv=>whnf
 refine DW (x:=au.cells [(hP (0:Int)),(hP (0:Int))]) (by first | exact qh.h | rfl | (simp [sb,I.settle];done)) ?_
 conv=>whnf
 rw [q5];refine ⟨rfl,J1 _ _ _ _,?_⟩;rw [LM];unfold TA;obtain ⟨bq,dY⟩:∃ c,P4=c:=⟨_,rfl⟩;rw [dY];conv=>whnf
 refine DW (qH (qH (qH cm.af))) ?_;conv=>whnf
 refine DW (x:=au.cells [hP p.1,hP p.2]) (by first | exact qh.h | rfl | (simp [sb,I.settle];done)) ?_
 conv=>whnf
 refine ⟨rfl,_,_,qH (qH (qH ad)),none,adD jJ nq gX,?_⟩;conv=>whnf
 refine ⟨_,rfl,?_⟩;conv=>whnf
 show _∧(((H++[HV t a v5 .busy none])++Y)++[_])[H.length]?=_∧jg ((((H++[HV t a v5 .busy none])++Y)++[_]).set H.length _) _;exact ⟨rfl,J1 _ _ _ _,by rw [LM];exact Pn _ _ _ _⟩
theorem Pg (aN:L.Nodup):(Hs L p).Nodup:=aN.filter _
theorem rF.push {G:List au} {cells:List I} (cm:rF t L way out a rb v5 x y G) (ao:cells=(way++[p]).flatMap pY) {b:Int} {D:List au} (qQ:D=G∨(D=G.set x .dead∧4<x)) :
  rF t L (way++[p]) out b (.cl G.length (G.length+1) (way.length+1) 2) v5 G.length y (((D++[au.grow cells (G.length+1) 2,au.dead]).set 3 (au.cells [.cl G.length (G.length+1) (way.length+1) 2])).set 4 (au.cells [hP b])):=by
 subst ao;have ak:=cm.len;have Px:D.length=G.length:=by rcases qQ with rfl | ⟨rfl,_⟩ <;> simp
 obtain ⟨rV,aS,⟨Hi,ad⟩,af,aG,a6,hw,aq,ne,Jx,Jy,I5,II⟩:=cm;have NQ:∀ (j:Nat) (o:au),j≠x∨D=G→G[j]?=some o→D[j]?=some o:=fun j o aw h=>by
  rcases qQ with rfl | ⟨rfl,_⟩
  ·exact h
  ·rcases aw with aw | aw
   ·exact qA h (Ne.symm aw)
   ·rw [aw];exact h
 have Lr:∀ j:Nat,j≤4→j≠x∨D=G:=fun j aw=>by
  rcases qQ with h | ⟨_,h⟩
  ·exact .inr h
  ·exact .inl (by omega)
 refine ⟨rV,?_,⟨Hi,?_⟩,?_,?_,?_,?_,?_,?_,?_,?_,.inr (by omega),II⟩
 ·exact qA (qA (qH (NQ 0 _ (Lr 0 (by omega)) aS)) (by omega)) (by omega)
 ·exact qA (qA (qH (NQ 1 _ (Lr 1 (by omega)) ad)) (by omega)) (by omega)
 ·exact qA (qA (qH (NQ 2 _ (Lr 2 (by omega)) af)) (by omega)) (by omega)
 ·exact qA (J2 (by simp;omega)) (by omega)
 ·exact J2 (by simp;omega)
 ·refine .inr ⟨by simp,by omega,(way++[p]).flatMap pY,?_,by rw [Jf];exact sc _,tG (by rw [Jf];exact sc _)⟩;rw [←Px];exact qA (qA (Mr _ _) (by omega)) (by omega)
 ·rcases aq with aq | ⟨bC,bT,rR⟩
  ·exact .inl aq
  ·exact .inr ⟨bC,bT,qA (qA (qH (NQ y _ (.inl (Ne.symm ne)) rR)) (by omega)) (by omega)⟩
 ·omega
 ·simp;omega
 ·simp;omega
theorem ahU (cm:rF t L way out a rb v5 x y H) (jJ:0≤p.1∧p.1<(t.2.length:Int)) (nq:0≤p.2∧p.2≤1) (gX:rW p∈L) (SM:rW (p.1,1-p.2)∈Hs L p) (SU:way.length≤1000) (Y:List au) :
  ∃ H',Sem Tryz.prog (.yield H.length) [.agg (pY p)] ((H++[HV t a v5 .ready none])++Y) 0 (.bool false) H' ∧
    H'[H.length]?=some (HV t a v5 .done (some (.exit 3)))∧∃ UF oh,rF t (I4 L p) (way++[p]) out (fin t p) UF v5 oh y (H'.set H.length .dead):=by
 have aeK:=cm.len;have alw:=cm.I5;have aev:=cm.II;have aeM:=cm.Jx;have aeN:=cm.Jy;obtain ⟨Hi,hm⟩:=cm.ad;obtain ⟨i1,f1,⟨e1,ck,dE⟩,f3⟩:=Wq jJ.1 nq gX cm.rV;obtain ⟨i2,f4,_,f5⟩:=Wq (p:=(p.1,1-p.2)) jJ.1 (by simp only;omega) SM (Pg cm.rV);have y1:IntKind.i64.wrap (1-p.2)=1-p.2:=H3 _ (by omega) (by omega);obtain ⟨Jp,Mt⟩:∃ Jp,Jp=(H++[HV t a v5 .busy none])++Y++[au.cells [hP p.1,hP p.2]]:=⟨_,rfl⟩;have I7:rF t L way out a rb v5 x y Jp:=by rw [Mt];exact ((cm.more _).more _).more _
 have alB:Jp.length=H.length+1+Y.length+1:=by rw [Mt];simp;omega
 have cV:Jp[((H++[HV t a v5 .ready none])++Y).length]?=some (.cells [hP p.1,hP p.2]):=by rw [Mt];simp [sb]
 have ag:Jp[H.length]?=some (HV t a v5 .busy none):=by rw [Mt];exact J1 _ _ _ _
 obtain ⟨BH,SD⟩:∃ BH,BH=((H++[HV t a v5 .ready none])++Y).length:=⟨_,rfl⟩;have als:BH=H.length+1+Y.length:=by rw [SD];simp;omega
 have Gc:Jp[1]?=some (.map (rv L) Hi):=by rw [Mt];exact qH (qH (qH hm))
 rw [←SD] at cV;obtain ⟨Hy,IL⟩:∃ Hy,Hy=Jp.set 1 (.map (rv (Hs L p)) Hi):=⟨_,rfl⟩;have oZ:rF t (Hs L p) way out a rb v5 x y Hy:=by rw [IL];exact I7.map (Pg cm.rV)
 have aeO:Hy[1]?=some (.map (rv (Hs L p)) Hi):=by rw [IL];exact J2 (by omega)
 have RW:Hy[BH]?=some (.cells [hP p.1,hP p.2]):=by rw [IL];exact qA cV (by omega)
 have eT:Hy[H.length]?=some (HV t a v5 .busy none):=by rw [IL];exact qA ag (by omega)
 obtain ⟨q_,HS⟩:∃ q_,q_=Hy.set 1 (.map (rv (I4 L p)) Hi):=⟨_,rfl⟩;have I8:rF t (I4 L p) way out a rb v5 x y q_:=by rw [HS];exact oZ.map (Pg (Pg cm.rV))
 have Pu:q_[BH]?=some (.cells [hP p.1,hP p.2]):=by rw [HS];exact qA RW (by omega)
 have fj:q_[H.length]?=some (HV t a v5 .busy none):=by rw [HS];exact qA eT (by omega)
 have e9:q_.length=Jp.length:=by rw [HS,IL];simp
 obtain ⟨D,qQ,cells,Cg,Da⟩:∃ D:List au,(D=q_∨(D=q_.set x .dead∧4<x))∧∃ cells:List I,cells=(way++[p]).flatMap pY ∧
   ((rb=.ay [] 0 .full∧way=[]∧D=q_∧cells=pY p)∨(rb=.cl x (x+1) way.length 2∧D=q_.set x .dead∧∃ cs,q_[x]?=some (.grow cs (x+1) 2)∧((cs.length=way.length*2∧cells=cs++pY p)∨(way.length*2<cs.length∧cells=cs.take (way.length*2)++pY p)))):=by
  rcases I8.hw with ⟨bC,bT⟩ | ⟨bC,bT,cs,rR,IX,M0⟩
  ·exact ⟨q_,.inl rfl,pY p,by rw [bC];simp,.inl ⟨bT,bC,rfl,rfl⟩⟩
  ·refine ⟨q_.set x .dead,.inr ⟨rfl,bT⟩,cs.take (way.length*2)++pY p,by rw [M0];simp,.inr ⟨bC,rfl,cs,rR,?_⟩⟩;rcases Nat.lt_or_ge (way.length*2) cs.length with h | h
   ·exact .inr ⟨h,rfl⟩
   ·exact .inl ⟨by omega,by rw [tG (by omega)]⟩
 have WM:=I8.push (b:=fin t p) Cg qQ;have Px:D.length=q_.length:=by rcases qQ with rfl | ⟨rfl,_⟩ <;> simp
 have WI:∀ (j:Nat) (o:au),j≠x→q_[j]?=some o→D[j]?=some o:=fun j o aw h=>by
  rcases qQ with rfl | ⟨rfl,_⟩
  ·exact h
  ·exact qA h (Ne.symm aw)
 have Lr:∀ (j:Nat) (o:au),j≤4→q_[j]?=some o→D[j]?=some o:=fun j o aw h=>by
  rcases qQ with rfl | ⟨rfl,a6⟩
  ·exact h
  ·exact qA h (by omega)
 obtain ⟨Ni,Ho⟩:∃ Ni,Ni=D++[au.grow cells (q_.length+1) 2,au.dead]:=⟨_,rfl⟩;obtain ⟨JT,I6⟩:∃ JT,JT=Ni.set 3 (au.cells [.cl q_.length (q_.length+1) (way.length+1) 2]):=⟨_,rfl⟩;rw [←Ho,←I6] at WM;have RX:JT[BH]?=some (.cells [hP p.1,hP p.2]):=by rw [I6,Ho];exact qA (qH (WI _ _ (by omega) Pu)) (by omega)
 have RP:JT[0]?=some (H0 t):=by rw [I6,Ho];exact qA (qH (Lr 0 _ (by omega) I8.aS)) (by omega)
 have RU:JT[4]?=some (.cells [hP a]):=by rw [I6,Ho];exact qA (qH (Lr 4 _ (by omega) I8.a6)) (by omega)
 have alA:4<Ni.length:=by rw [Ho];simp;omega
 have RT:Ni[3]?=some (.cells [rb]):=by rw [Ho];exact qH (Lr 3 _ (by omega) I8.aG)
 have qw:(JT.set 4 (au.cells [hP (fin t p)]))[H.length]?=some (HV t a v5 .busy none):=by rw [I6,Ho];exact qA (qA (qH (WI _ _ (by omega) fj)) (by omega)) (by omega)
 have aeL:H.length<(JT.set 4 (au.cells [hP (fin t p)])).length:=by rw [I6,Ho];simp;omega
 refine ⟨(JT.set 4 (au.cells [hP (fin t p)])).set H.length (HV t a v5 .done (some (.exit 3))),?_,J2 aeL,?_⟩
 ·refine ah6 (id:=3) dH Xh Xi (NL _ _ _) rfl (Ob ?_) ?_
  ·rw [ta,ta,I6,Ho,ta];simp;omega
  unfold Tz;conv=>whnf
  refine DW (x:=au.cells [(hP (0:Int)),(hP (0:Int))]) (by first | exact qh.h | rfl | (simp [sb,I.settle];done)) ?_
  conv=>whnf
  rw [q5];refine ⟨rfl,J1 _ _ _ _,?_⟩;rw [LM];unfold TA;obtain ⟨bq,dY⟩:∃ c,P4=c:=⟨_,rfl⟩;rw [dY,←SD];erw [←Mt];conv=>whnf
  refine DW I7.af ?_;conv=>whnf
  refine DW cV ?_;conv=>whnf
  refine ⟨rfl,_,_,Gc,some i1,f1,?_⟩;conv=>whnf
  refine ⟨e1,ck,?_⟩;rw [dE];conv=>whnf
  refine DW I7.af ?_;conv=>whnf
  refine DW cV ?_;conv=>whnf
  refine ⟨rfl,_,_,Gc,some i1,f1,?_⟩;conv=>whnf
  rw [f3,←IL];conv=>whnf
  subst dY;unfold P4;obtain ⟨bk,b8⟩:∃ c,TB=c:=⟨_,rfl⟩;rw [b8];conv=>whnf
  refine DW oZ.af ?_;conv=>whnf
  refine DW RW ?_;conv=>whnf
  refine DW RW ?_;conv=>whnf
  rw [y1];refine ⟨rfl,_,_,aeO,some i2,f4,?_⟩;conv=>whnf
  erw [f5,←HS];conv=>whnf
  subst b8;unfold TB;obtain ⟨a',cb⟩:∃ c,Oj=c:=⟨_,rfl⟩;rw [cb];conv=>whnf
  have ae9:rb=.ay [] 0 .full∨∃ i g n z,rb=.cl i g n z:=by
   rcases Da with ⟨h,_⟩ | ⟨h,_⟩
   ·exact .inl h
   ·exact .inr ⟨_,_,_,_,h⟩
  refine ⟨_,_,fun C=>Xd rfl (e:=65) (by kernel_rfl) I8.aG ae9,?_⟩;rcases Da with ⟨rfl,rfl,rfl,rfl⟩ | ⟨rfl,rfl,cs,al,⟨ad,rfl⟩ | ⟨ad,rfl⟩⟩
  ·(conv=>whnf);refine DW Pu ?_;(conv=>whnf);refine ⟨⟨rfl,by decide⟩,?_⟩;(conv=>whnf);refine ⟨⟨by decide,by decide,rfl⟩,?_⟩;erw [←Ho];(conv=>whnf);refine DW RT ?_;(conv=>whnf);erw [←I6];(conv=>whnf);subst cb;unfold Oj;(conv=>whnf);refine DW RP ?_;(conv=>whnf);refine DW RX ?_;(conv=>whnf);refine ⟨(pZ (ra (pZ rfl (pZ (qX (fun _=>(pZ rfl (pZ rfl rfl))) _ _ _) rfl))) (pZ (Jg (pZ rfl (pZ rfl rfl))) rfl)),_,JL (JK jJ),?_⟩;(conv=>whnf);refine DW RU ?_;(conv=>whnf);exact ⟨rfl,qw,jg.refl _⟩
  ·(conv=>whnf);refine DW Pu ?_;(conv=>whnf);refine ⟨⟨rfl,by decide⟩,?_⟩;(conv=>whnf);refine DW al ?_;(conv=>whnf);refine .inl ⟨⟨rfl,rfl,rfl,ad,by decide,by omega⟩,?_⟩;erw [←Ho];(conv=>whnf);refine DW RT ?_;(conv=>whnf);erw [←I6];(conv=>whnf);subst cb;unfold Oj;(conv=>whnf);refine DW RP ?_;(conv=>whnf);refine DW RX ?_;(conv=>whnf);refine ⟨(pZ (ra (pZ rfl (pZ (qX (fun _=>(pZ rfl (pZ rfl rfl))) _ _ _) rfl))) (pZ (Jg (pZ rfl (pZ rfl rfl))) rfl)),_,JL (JK jJ),?_⟩;(conv=>whnf);refine DW RU ?_;(conv=>whnf);exact ⟨rfl,qw,jg.refl _⟩
  ·(conv=>whnf);refine DW Pu ?_;(conv=>whnf);refine ⟨⟨rfl,by decide⟩,?_⟩;(conv=>whnf);refine DW al ?_;(conv=>whnf);refine .inr ⟨⟨rfl,rfl,rfl,ad,by decide,by omega⟩,?_⟩;erw [←Ho];(conv=>whnf);refine DW RT ?_;(conv=>whnf);erw [←I6];(conv=>whnf);subst cb;unfold Oj;(conv=>whnf);refine DW RP ?_;(conv=>whnf);refine DW RX ?_;(conv=>whnf);refine ⟨(pZ (ra (pZ rfl (pZ (qX (fun _=>(pZ rfl (pZ rfl rfl))) _ _ _) rfl))) (pZ (Jg (pZ rfl (pZ rfl rfl))) rfl)),_,JL (JK jJ),?_⟩;(conv=>whnf);refine DW RU ?_;(conv=>whnf);exact ⟨rfl,qw,jg.refl _⟩
 ·rw [sS];exact ⟨_,_,WM.ah8 (by omega) (by omega) (by omega)⟩
end

theorem Wp {α:Type} {q:α→Bool}:∀ {l:List α} {p:α},l.find? q=some p→∃ n,∃ h:n<l.length,l[n]=p∧q p=true∧∀ i (hi:i<n),q (l[i]'(by omega))=false
 | [],_,h=>by cases h
 | x::l,p,h=>by
   rw [List.find?_cons] at h;cases al:q x with
   | true =>
     rw [al] at h;obtain rfl:=Option.some.inj h;exact ⟨0,by simp,rfl,al,fun i hi=>absurd hi (by omega)⟩
   | false =>
     rw [al] at h;obtain ⟨n,ad,af,aG,a6⟩:=Wp h;refine ⟨n+1,by simpa using ad,af,aG,fun i hi=>?_⟩;cases i with
     | zero=>exact al
     | succ i=>exact a6 i (by omega)
theorem Tk {b:p3} {f:Int} {p:Int×Int} (h:p∈places b f):0≤p.1∧p.1<(b.2.length:Int)∧0≤p.2∧p.2≤1∧qo b p=f:=by
 unfold places at h;obtain ⟨r,aj,rfl⟩:=sm.1 h;obtain ⟨ad,af⟩:=sO.1 aj;have ad:=sG.1 ad;refine ⟨?_,?_,?_,?_,by simpa [rA] using af⟩ <;> unfold qZ <;> simp only <;> omega
theorem Yh {α:Type} (l:List α):l=[]∨∃ (l':List α) (p:α),l=l'++[p]:=by
 rcases l.eq_nil_or_concat with h | ⟨l',p,h⟩
 ·exact .inl h
 ·exact .inr ⟨l',p,by rw [h,List.concat_eq_append]⟩
def Jw (t:p3):Nat→List Nat→List (Int×Int)→List (Int×Int)→Int→Option (List (Int×Int))
 | 0,_,_,_,_=>none
 | m+1,L,way,out,a=>p5 (way.length≤1000∧out.length≤1000) <|
   match (places t a).find? (MB L) with
   | some p=>p5 (rW (p.1,1-p.2)∈Hs L p) (Jw t m (I4 L p) (way++[p]) out (fin t p))
   | none=>match way.getLast? with
     | none=>some out
     | some p=>p5 (0≤p.1∧p.1<(t.2.length:Int)) (Jw t m L way.dropLast (out++[p]) (qo t p))
def LR (t:p3):Option (List (Int×Int)) :=
 p5 (0<t.2.length∧t.2.length≤1000) ((Jw t p6 (List.range (2*t.2.length)) [] [] (ix t.2 0).1).bind fun out=>p5 (out.length≠0∧out.length≤1000) (some out.reverse))
section
variable {t:p3} {L:List Nat} {way out:List (Int×Int)} {a:Int} {rb v5:I} {x y:Nat} {H:List au} {p:Int×Int}
theorem rF.ajb (cm:rF t L way out a rb v5 x y H):v5.settle=v5:=by
 rcases cm.aq with ⟨_,h⟩ | ⟨h,_⟩ <;> rw [h] <;> rfl
theorem rF.pop {b:Int} (cm:rF t L (way++[p]) out a rb v5 x y H) (hw:rb=.cl x (x+1) (way.length+1) 2) {cells:List I} (ao:cells=(out++[p]).flatMap pY) {D:List au} {G:List au} (Ls:G=H.set 3 (.cells [.cl x (x+1) way.length 2])) (qQ:D=G∨(D=G.set y .dead∧4<y)) :
  rF t L way (out++[p]) b (.cl x (x+1) way.length 2) (.cl G.length (G.length+1) (out.length+1) 2) x G.length ((D++[au.grow cells (G.length+1) 2,au.dead]).set 4 (au.cells [hP b])):=by
 subst ao;have ak:=cm.len;have alp:G.length=H.length:=by rw [Ls];simp
 have Px:D.length=G.length:=by rcases qQ with rfl | ⟨rfl,_⟩ <;> simp
 obtain ⟨rV,aS,⟨Hi,ad⟩,af,aG,a6,ma,aq,ne,Jx,Jy,I5,II⟩:=cm;have Ho:∀ (j:Nat) (o:au),j≠3→H[j]?=some o→G[j]?=some o:=fun j o aw h=>by rw [Ls];exact qA h (Ne.symm aw)
 have adV:∀ (j:Nat) (o:au),j≠y→G[j]?=some o→D[j]?=some o:=fun j o aw h=>by
  rcases qQ with rfl | ⟨rfl,_⟩
  ·exact h
  ·exact qA h (Ne.symm aw)
 have Pw:∀ (j:Nat) (o:au),j≤4→G[j]?=some o→D[j]?=some o:=fun j o aw h=>by
  rcases qQ with rfl | ⟨rfl,aX⟩
  ·exact h
  ·exact qA h (by omega)
 refine ⟨rV,?_,⟨Hi,?_⟩,?_,?_,J2 (by simp;omega),.inr ?_,.inr ⟨by simp,by omega,?_⟩,by omega,by simp;omega,by simp;omega,I5,.inr (by omega)⟩
 ·exact qA (qH (Pw 0 _ (by omega) (Ho 0 _ (by omega) aS))) (by omega)
 ·exact qA (qH (Pw 1 _ (by omega) (Ho 1 _ (by omega) ad))) (by omega)
 ·exact qA (qH (Pw 2 _ (by omega) (Ho 2 _ (by omega) af))) (by omega)
 ·refine qA (qH (Pw 3 _ (by omega) ?_)) (by omega);rw [Ls];exact J2 (by omega)
 ·rcases ma with ⟨bC,_⟩ | ⟨bC,bT,cs,rR,IX,M0⟩
  ·exact absurd bC (by simp)
  ·refine ⟨rfl,bT,cs,qA (qH (adV x _ ne (Ho x _ (by omega) rR))) (by omega),?_,?_⟩
   ·rw [su] at IX;omega
   ·have:=congrArg (List.take (way.length*2)) M0;rw [List.take_take,List.flatMap_append] at this;rw [su,tK (by omega)] at this;rw [this,List.take_append_of_le_length (by rw [Jf];exact sc _),tG (by rw [Jf];exact sc _)]
 ·rw [←Px];exact qA (Mr _ _) (by omega)
theorem afq {cs:List I} (h:(way.length+1)*2≤cs.length) (e:cs.take ((way.length+1)*2)=(way++[p]).flatMap pY):cs[way.length*2]?=some (hP p.1)∧cs[way.length*2+1]?=some (hP p.2):=by
 have g:=PY (way++[p]) way.length (by simp);have ae:(way++[p]).getD way.length (0,0)=p:=by simp
 rw [ae,←e,sT,sT,if_pos (by omega),if_pos (by omega)] at g;exact g
theorem ahT {MF:List (Int×Int)} (pF:t.2.length≤1000) (I7:rF t L way out a rb v5 x y H) (h:Jw t p6 L way out a=some MF)
  {Q:cB→List I→List au→Prop} (av:∀ L a rb v5 x y H HI HJ HK Y3,rF t L [] MF a rb v5 x y H→Q (.exit 2) (GG 92 [(1,.ptr 0 0),(3,.ptr 2 0),(5,v5),(6,.ptr 3 0),(7,.ptr 4 0),(8,.func 89 [HZ t] []),(38,HI),(39,HJ),(40,HK),(67,Y3)]) H)
  {T:List I} (bX:eQ [false,true,false,true,false,true,true,true,true,false,false,false,false,false,false,false,false,false,false,false,false,false,false,false,false,false,false,false,false,false,false,false,false,false,false,false,false,false,false,false,false,false,false,false,false,false,false,false,false,false,false,false,false,false,false,false,false,false,false,false,false,false,false,false,false,false,false,false,false,false,false,false,false,false,false,false,false,false,false,false,false,false,false,false,false,false,false,false,false,false,false,false] T=GG 92 [(1,.ptr 0 0),(3,.ptr 2 0),(5,v5),(6,.ptr 3 0),(7,.ptr 4 0),(8,.func 89 [HZ t] [])]):dB Tryz.prog Li 104 0 none P5 T H Q:=by
 unfold P5;obtain ⟨mZ,HQ⟩:∃ c,TJ=c:=⟨_,rfl⟩;rw [HQ];refine wp_loop bX ?_;refine .intro (fun m T H=>∃ L way out a rb v5 x y,rF t L way out a rb v5 x y H∧T=GG 92 [(1,.ptr 0 0),(3,.ptr 2 0),(5,v5),(6,.ptr 3 0),(7,.ptr 4 0),(8,.func 89 [HZ t] [])]∧Jw t m L way out a=some MF) p6 ⟨_,_,_,_,_,_,_,_,I7,rfl,h⟩ ?_;clear h bX I7;rintro m T H ⟨L,way,out,a,rb,v5,x,y,cm,rfl,h⟩;cases m
 ·exact qT h
 rename_i m;rw [Jw.eq_2] at h;obtain ⟨⟨SU,fE⟩,h⟩:=qn h;have W4:Kf t a=some (places t a):=by rw [Kf,if_pos pF]
 subst HQ;unfold TJ;obtain ⟨alf,WB⟩:∃ c,TM=c:=⟨_,rfl⟩;obtain ⟨fO,Hf⟩:∃ c,TI=c:=⟨_,rfl⟩;rw [WB,Hf];refine Il fun mS G2=>?_;conv=>whnf
 refine DW cm.a6 ?_;conv=>whnf
 refine ⟨(pZ (ra (pZ rfl (pZ (qX (fun _=>(pZ rfl (pZ rfl rfl))) _ _ _) rfl))) (pZ rfl rfl)),_,aal (v:=()) rfl,?_⟩;conv=>whnf
 subst WB;unfold TM;have PM:=cm.ajb;cases a3:(places t a).find? (MB L) with
 | some p =>
   rw [a3] at h;obtain ⟨SM,ak⟩:=qn h;obtain ⟨n,aN,aeT,gX,fU⟩:=Wp a3;have aC:=Tk (List.mem_of_find?_eq_some a3);refine ahP (id:=3) (f:=fun e=>.agg (pY e)) (ah2 W4) aN (by exact rfl) (fun i hi Y=>?_) (fun Y=>?_) (by exact rfl)
   ·have yP:=Tk (sD (show i<(places t a).length by omega));exact X5 cm yP.1 ⟨yP.2.2.1,yP.2.2.2.1⟩ (of_decide_eq_false (fU i hi)) Y
   ·rw [aeT];obtain ⟨H',ae2,aeu,UF,oh,oY⟩:=ahU cm ⟨aC.1,aC.2.1⟩ ⟨aC.2.2.1,aC.2.2.2.1⟩ (of_decide_eq_true gX) SM SU Y;refine ⟨H',⟨aeu,?_⟩,ae2⟩;(conv=>whnf);refine G2 _ _ _ ?_;(conv=>whnf);exact ⟨m,sf m,_,_,_,_,UF,v5.settle,oh,y,by rw [PM];exact oY,rfl,ak⟩
 | none =>
   rw [a3] at h;have fU:=vd.1 a3;refine X4 (f:=fun e=>.agg (pY e)) (Yb W4) (fun _=>H) (by exact rfl) rfl (fun _=>rfl) (fun i hi Y=>?_) (by exact rfl) rfl (fun Y=>?_)
   ·have yP:=Tk (sD hi);exact X5 cm yP.1 ⟨yP.2.2.1,yP.2.2.2.1⟩ (by have:=fU _ (sD hi);simpa [MB] using this) Y
   have H_:rF t L way out a rb v5 x y ((H++[.dead])++Y):=(cm.more _).more _;clear cm;obtain ⟨G,Ls⟩:∃ G,G=(H++[au.dead])++Y:=⟨_,rfl⟩;rw [←Ls] at H_ ⊢;(conv=>whnf);refine DW H_.aG ?_;rcases H_.hw with ⟨rfl,rfl⟩ | ⟨rfl,alF,cs,al,cC,Ck⟩
   ·obtain rfl:=Option.some.inj h;(conv=>whnf);refine G2 _ _ _ ?_;(conv=>whnf);exact av _ _ _ _ _ _ _ _ _ _ _ (by rw [PM];exact H_)
   ·(conv=>whnf);rcases Yh way with rfl | ⟨Hx,p,rfl⟩
    ·obtain rfl:=Option.some.inj h;(conv=>whnf);refine G2 _ _ _ ?_;(conv=>whnf);exact av _ _ _ _ _ _ _ _ _ _ _ (by rw [PM];exact H_)
    ·rw [List.getLast?_concat] at h;obtain ⟨jJ,ak⟩:=qn h;rw [List.dropLast_concat] at ak;(have hlen:(Hx++[p]).length=Hx.length+1:=by simp);(have y1:IntKind.i64.wrap ((((Hx++[p]).length:Nat):Int)-1)=(Hx.length:Int):=by rw [hlen,H3 _ (by omega) (by omega)];omega);rw [hlen] at cC Ck SU;obtain ⟨jz,hW⟩:=afq cC Ck;have aeK:=H_.len;have HF:=H_.ne;have aeM:=H_.Jx;have aeN:=H_.Jy;have aev:=H_.II;rw [decide_eq_false (show ¬ ((((Hx++[p]).length:Nat):Int)=0) by omega)];rw [PM];(conv=>whnf);subst Hf;unfold TI;obtain ⟨dW,B1⟩:∃ c,TH=c:=⟨_,rfl⟩;rw [B1];(conv=>whnf);refine DW H_.aG ?_;(conv=>whnf);refine DW H_.aG ?_;(conv=>whnf);rw [y1];refine ⟨by omega,?_⟩;(conv=>whnf);refine DW al ?_;(conv=>whnf);refine DW (by rw [show 0+(Hx.length:Int).toNat*2=Hx.length*2 by omega];exact jz) ?_;(conv=>whnf);refine DW (by rw [show 0+(Hx.length:Int).toNat*2+1=Hx.length*2+1 by omega];exact hW) ?_;(conv=>whnf);refine DW (Iv _ _) ?_;(conv=>whnf);rw [q5];(conv=>whnf);obtain ⟨Hy,IL⟩:∃ Hy,Hy=G++[au.cells [hP p.1,hP p.2]]:=⟨_,rfl⟩;(have oZ:rF t L (Hx++[p]) out a (.cl x (x+1) (Hx++[p]).length 2) v5 x y Hy:=by rw [IL];exact H_.more _);(have adR:Hy[G.length]?=some (.cells [hP p.1,hP p.2]):=by rw [IL];exact Iv _ _);(have hx:Hy.length=G.length+1:=by rw [IL];simp);erw [←IL];subst B1;unfold TH;obtain ⟨b7,hn⟩:∃ c,TG=c:=⟨_,rfl⟩;rw [hn];(conv=>whnf);refine ⟨_,_,fun C=>Xd rfl (e:=65) (by kernel_rfl) oZ.aG (.inr ⟨_,_,_,_,rfl⟩),?_⟩;(conv=>whnf);refine DW oZ.aG ?_;(conv=>whnf);rw [y1];refine ⟨⟨by omega,by omega⟩,?_⟩;(conv=>whnf);refine DW oZ.aG ?_;(conv=>whnf);obtain ⟨q_,HS⟩:∃ q_,q_=Hy.set 3 (.cells [.cl x (x+1) Hx.length 2]):=⟨_,rfl⟩;(have Pt:q_[G.length]?=some (.cells [hP p.1,hP p.2]):=by rw [HS];exact qA adR (by omega));(have NN:q_[0]?=some (H0 t):=by rw [HS];exact qA oZ.aS (by omega));(have WG:q_[4]?=some (.cells [hP a]):=by rw [HS];exact qA oZ.a6 (by omega));(have e9:q_.length=Hy.length:=by rw [HS];simp);erw [←HS];subst hn;unfold TG;obtain ⟨bq,dY⟩:∃ c,XR=c:=⟨_,rfl⟩;rw [dY];rcases oZ.aq with ⟨aq,rfl⟩ | ⟨rfl,W6,a0⟩
     ·have SP:=oZ.pop (b:=qo t p) (by rw [hlen]) (cells:=pY p) (by rw [aq];simp) HS (.inl rfl);(conv=>whnf);refine DW Pt ?_;(conv=>whnf);refine ⟨⟨rfl,by decide⟩,?_⟩;(conv=>whnf);refine ⟨⟨by decide,by decide,rfl⟩,?_⟩;have RR:(q_++[au.grow (pY p) (q_.length+1) 2,au.dead])[G.length]?=some (.cells [hP p.1,hP p.2]):=qH Pt;have RQ:(q_++[au.grow (pY p) (q_.length+1) 2,au.dead])[0]?=some (H0 t):=qH NN;have RV:(q_++[au.grow (pY p) (q_.length+1) 2,au.dead])[4]?=some (.cells [hP a]):=qH WG;subst dY;(conv=>whnf);refine DW RQ ?_;(conv=>whnf);refine DW RR ?_;(conv=>whnf);refine ⟨(pZ (ra (pZ rfl (pZ (qX (fun _=>(pZ rfl (pZ rfl rfl))) _ _ _) rfl))) (pZ (Jg (pZ rfl (pZ rfl rfl))) rfl)),_,JL (JK jJ),?_⟩;(conv=>whnf);refine DW RV ?_;(conv=>whnf);refine G2 _ _ _ ?_;(conv=>whnf);exact ⟨m,sf m,_,Hx,_,_,_,_,_,_,SP,by rw [aq];rfl,ak⟩
     ·(have afb:q_[y]?=some (.grow (out.flatMap pY) (y+1) 2):=by rw [HS];exact qA a0 (by omega));have SP:=oZ.pop (b:=qo t p) (by rw [hlen]) (cells:=out.flatMap pY++pY p) (by simp) HS (.inr ⟨rfl,W6⟩);(conv=>whnf);refine DW Pt ?_;(conv=>whnf);refine ⟨⟨rfl,by decide⟩,?_⟩;(conv=>whnf);refine DW afb ?_;(conv=>whnf);refine .inl ⟨⟨rfl,rfl,rfl,Jf _,by decide,by omega⟩,?_⟩;have RR:(q_.set y .dead++[au.grow (out.flatMap pY++pY p) (q_.length+1) 2,au.dead])[G.length]?=some (.cells [hP p.1,hP p.2]):=qH (qA Pt (by omega));have RQ:(q_.set y .dead++[au.grow (out.flatMap pY++pY p) (q_.length+1) 2,au.dead])[0]?=some (H0 t):=qH (qA NN (by omega));have RV:(q_.set y .dead++[au.grow (out.flatMap pY++pY p) (q_.length+1) 2,au.dead])[4]?=some (.cells [hP a]):=qH (qA WG (by omega));subst dY;(conv=>whnf);refine DW RQ ?_;(conv=>whnf);refine DW RR ?_;(conv=>whnf);refine ⟨(pZ (ra (pZ rfl (pZ (qX (fun _=>(pZ rfl (pZ rfl rfl))) _ _ _) rfl))) (pZ (Jg (pZ rfl (pZ rfl rfl))) rfl)),_,JL (JK jJ),?_⟩;(conv=>whnf);refine DW RV ?_;(conv=>whnf);refine G2 _ _ _ ?_;(conv=>whnf);exact ⟨m,sf m,_,Hx,_,_,_,_,_,_,SP,rfl,ak⟩
end

theorem agN (l:List (Int×Int)):(l.flatMap pY).map I.view=l.flatMap pY:=by
 rw [List.map_flatMap];rfl
theorem afg {t:p3} (pF:t.2.length≤1000)
  {Q:cB→List I→List au→Prop} (av:∀ FH,Q (.exit 0) (GG 92 [(1,.ptr 0 0),(3,.ptr 2 0),(4,FH),(17,hP t.2.length),(18,hP t.2.length),(19,B (decide ((t.2.length:Int)<(t.2.length:Int))))]) [H0 t,.map (rv (List.range (2*t.2.length))) (2*t.2.length),.cells [.map 1]])
  {T:List I} (bX:eQ [false,true,false,true,false,false,false,false,false,false,false,false,false,false,false,false,false,true,true,false,false,false,false,false,false,false,false,false,false,false,false,false,false,false,false,false,false,false,false,false,false,false,false,false,false,false,false,false,false,false,false,false,false,false,false,false,false,false,false,false,false,false,false,false,false,false,false,false,false,false,false,false,false,false,false,false,false,false,false,false,false,false,false,false,false,false,false,false,false,false,false,false] T=GG 92 [(1,.ptr 0 0),(3,.ptr 2 0),(17,hP t.2.length),(18,hP (0:Nat))]):dB Tryz.prog Li 104 0 none P6 T [H0 t,.map [] 0,.cells [.map 1]] Q:=by
 unfold P6;obtain ⟨bk,b8⟩:∃ c,TF=c:=⟨_,rfl⟩;rw [b8];refine wp_loop bX ?_;refine .intro (fun m T H=>∃ i:Nat,i≤t.2.length∧m=t.2.length-i∧T=GG 92 [(1,.ptr 0 0),(3,.ptr 2 0),(17,hP t.2.length),(18,hP i)]∧H=[H0 t,.map (rv (List.range (2*i))) (2*i),.cells [.map 1]]) t.2.length ⟨0,by omega,by omega,rfl,rfl⟩ ?_;clear bX;rintro m T H ⟨i,hi,rfl,rfl,rfl⟩;conv=>whnf
 refine It (fun aU=>?_) (fun aU=>?_)
 ·have aU:i<t.2.length:=by omega
  have dc:I.agg [hP (i:Int),hP 0]=.agg (pY (qZ (2*i))):=by
   have:=PX (n:=t.2.length) (i:=i) (b:=0) aU (by omega);rw [show 2*i+0=2*i by omega] at this;rw [this];rfl
  have aJ:I.agg [hP (i:Int),hP 1]=.agg (pY (qZ (2*i+1))):=by
   rw [PX (n:=t.2.length) (i:=i) (b:=1) aU (by omega)];rfl
  have f0:fy (.agg [hP (i:Int),hP 0]) (rv (List.range (2*i))) 0=some none:=by rw [dc];exact Pq _ _ _ (by simp)
  have f1:fy (.agg [hP (i:Int),hP 1]) (rv (List.range (2*i+1))) 0=some none:=by rw [aJ];exact Pq _ _ _ (by simp)
  have fQ:rv (List.range (2*i))++[(2*i,I.agg [hP (i:Int),hP 0],hP 1)]=rv (List.range (2*i+1)):=by rw [dc,Wi,←u7]
  have e1:rv (List.range (2*i+1))++[(2*i+1,I.agg [hP (i:Int),hP 1],hP 1)]=rv (List.range (2*i+1+1)):=by rw [aJ,Wi,←u7]
  conv=>whnf
  subst b8;unfold TF;obtain ⟨a',cb⟩:∃ c,TC=c:=⟨_,rfl⟩;rw [cb];refine Il fun mS G2=>?_;conv=>whnf
  subst cb;unfold TC;conv=>whnf
  refine ⟨rfl,_,_,rfl,none,f0,?_⟩;conv=>whnf
  refine ⟨rfl,_,_,rfl,none,(by erw [fQ];exact f1),?_⟩;conv=>whnf
  erw [fQ,e1];refine G2 _ _ _ ?_;conv=>whnf
  exact ⟨t.2.length-(i+1),by omega,i+1,by omega,rfl,by rw [←GY i (by omega)] <;> rfl,rfl⟩
 ·obtain rfl:i=t.2.length:=by omega
  conv=>whnf
  exact av _
theorem UI {t:p3} {v:List (Int×Int)} (h:LR t=some v):qp 104 [HZ t] (.ay (v.flatMap pY) v.length .shared):=by
 obtain ⟨⟨CN,pF⟩,h⟩:=qn h;obtain ⟨out,ak,h⟩:=qa h;obtain ⟨⟨aeV,jH⟩,h⟩:=qn h;obtain rfl:=Option.some.inj h;refine qN dH aft rfl (qX (fun _=>(pZ rfl (pZ rfl rfl))) _ _ _) fun Q bl=>?_;have jw:∀ T H,H5 [.tmp 2] (.ay (out.reverse.flatMap pY) out.reverse.length .shared) .ret T H→Q .ret T H:=fun T H bI=>bl _ T H bI;unfold XQ;obtain ⟨acH,NB⟩:∃ c,TE=c:=⟨_,rfl⟩;rw [NB];conv=>whnf
 subst NB;unfold TE;obtain ⟨Ry,Iu⟩:∃ c,P6=c:=⟨_,rfl⟩;obtain ⟨acG,Mq⟩:∃ c,TD=c:=⟨_,rfl⟩;rw [Iu,Mq];conv=>whnf
 subst Iu;refine afg (t:=t) pF ?_ (by exact rfl);intro FH;conv=>whnf
 subst Mq;unfold TD;obtain ⟨m0,GR⟩:∃ c,TK=c:=⟨_,rfl⟩;obtain ⟨BH,Js⟩:∃ c,TL=c:=⟨_,rfl⟩;rw [GR,Js];conv=>whnf
 refine ⟨by omega,?_⟩;conv=>whnf
 refine ahI pY 2 ql t.2 0 ⟨by omega,by omega⟩ rfl ?_;conv=>whnf
 subst GR;unfold TK;obtain ⟨ale,WA⟩:∃ c,P5=c:=⟨_,rfl⟩;rw [WA];conv=>whnf
 subst WA;have cm:rF t (List.range (2*t.2.length)) [] [] (ix t.2 0).1 (.ay [] 0 .full) (.ay [] 0 .full) 0 2 [H0 t,.map (rv (List.range (2*t.2.length))) (2*t.2.length),.cells [.map 1],.cells [.ay [] 0 .full],.cells [hP (ix t.2 0).1]] :=
  ⟨tY,rfl,⟨_,rfl⟩,rfl,rfl,rfl,.inl ⟨rfl,rfl⟩,.inl ⟨rfl,rfl⟩,by decide,by simp,by simp,.inl rfl,.inl rfl⟩
 refine ahT pF cm ak ?_ (by exact rfl);intro L a rb v5 x y H HI HJ HK Y3 Hh;conv=>whnf
 subst Js;unfold TL;rcases Hh.aq with ⟨rfl,_⟩ | ⟨rfl,W6,a0⟩
 ·exact absurd rfl aeV
 conv=>whnf
 refine ⟨_,_,G9 (ahL out (by omega) (by omega) (sq _) a0),?_⟩;conv=>whnf
 refine ⟨_,_,fun C=>Wx rfl (sq _) (J2 (sa.1 a0).1) (by rw [Jf,List.length_reverse]),?_⟩;rw [agN];conv=>whnf
 rw [List.length_reverse] at jw;exact jw _ _ ⟨.inr rfl,_,rfl,_,oR (qX (fun _=>(pZ rfl (pZ rfl rfl))) _ _ _),rfl⟩
end Go.Proofs.YtfakoboiahbhaaaGreat.Ab


namespace Go.Proofs.YtfakoboiahbhaaaGreat.Ab
open Go
def HC (e:Int×Int) (v:Int):Nat:=(if e.1=v then 1 else 0)+(if e.2=v then 1 else 0)
def qL (b:p3) (S:List Int) (v:Int):Nat:=(S.map fun i=>HC (ix b.2 i) v).sum
section
variable {b t:p3}
theorem adn (p:Int×Int) (v:Int):HC (ix b.2 p.1) v=(if qo b p=v then 1 else 0)+(if fin b p=v then 1 else 0):=by
 unfold HC qo fin;by_cases h:0<p.2
 ·rw [if_pos h,if_pos h,Nat.add_comm]
 ·rw [if_neg h,if_neg h]
theorem Ln (v:Int):qL b [] v=0:=rfl
theorem Nw (i:Int) (S:List Int) (v:Int):qL b (i::S) v=HC (ix b.2 i) v+qL b S v:=by simp [qL]
theorem Ph (S S':List Int) (v:Int):qL b (S++S') v=qL b S v+qL b S' v:=by simp [qL]
theorem Pj {S S':List Int} (h:S.Perm S') (v:Int):qL b S v=qL b S' v:=by
 unfold qL;exact (h.map _).sum_nat
theorem RE {S:List Int} {v:Int}:qL b S v=0↔∀ i∈S,¬ qD b i v:=by
 induction S with
 | nil=>simp [Ln]
 | cons i S a_ =>
   rw [Nw,Nat.add_eq_zero_iff,a_];simp only [sj,forall_eq_or_imp];refine and_congr ?_ Iff.rfl;unfold HC qD;split <;> split <;> simp [*]
theorem IA:∀ (l l':Row) (a:Int),qm b a (l++l')=(qm b a l).bind fun c=>qm b c l'
 | [],_,_=>rfl
 | p::l,l',a=>by
   rw [uX,qm,qm];split
   ·exact IA l l' _
   ·rfl
theorem JE {a c:Int} {p:Int×Int}:qm b a [p]=some c↔qo b p=a∧fin b p=c:=by
 rw [qm,qm];split
 ·rename_i h;simp [h]
 ·rename_i h;simp [h]
theorem Ii {a c:Int} {p:Int×Int} {l:Row}:qm b a (p::l)=some c↔qo b p=a∧qm b (fin b p) l=some c:=by
 rw [qm];split
 ·rename_i h;simp [h]
 ·rename_i h;simp [h]
theorem Ou:∀ (l:Row) (a c v:Int),qm b a l=some c→(qL b (l.map (·.1)) v+(if a=v then 1 else 0)+(if c=v then 1 else 0)) % 2=0
 | [],a,c,v,h=>by
   have:a=c:=by simpa [qm] using h
   subst this;rw [tM,Ln];split <;> rfl
 | p::l,a,c,v,h=>by
   obtain ⟨ad,af⟩:=Ii.1 h;have a_:=Ou l _ c v af;rw [sx,Nw,adn,ad];omega
def rP (t:p3) (p:Int×Int):Prop:=0≤p.1∧p.1<(t.2.length:Int)∧0≤p.2∧p.2≤1
theorem Jr (p:Int×Int) (v:Int):qD b p.1 v↔qo b p=v∨fin b p=v:=by
 unfold qD qo fin;split
 ·exact Or.comm
 ·exact Iff.rfl
theorem adA {i:Nat} (hi:i<t.2.length) {v:Int} (h:qD t i v):∃ p∈places t v,p.1=(i:Int):=by
 rcases h with h | h
 ·exact ⟨((i:Int),0),J'.2 ⟨by simp only;omega,by simp only;omega,by simp only;omega,by simp only;omega,h⟩,rfl⟩
 ·exact ⟨((i:Int),1),J'.2 ⟨by simp only;omega,by simp only;omega,by simp only;omega,by simp only;omega,h⟩,rfl⟩
structure Hm (t:p3) (s:Int) (L:List Nat) (way out:Row) (a h:Int):Prop where
 iq:∀ x∈L,x<2*t.2.length
 sym:∀ i:Nat,2*i∈L↔2*i+1∈L
 ok:∀ p∈way++out,rP t p
 Qf:((way++out).map (·.1)).Nodup
 LG:∀ i:Nat,i<t.2.length→(2*i∈L↔(i:Int) ∉ (way++out).map (·.1))
 go:qm t s way=some a
 back:qm t h out.reverse=some s
 PS:∀ p∈out,∀ i:Nat,i<t.2.length→2*i∈L→¬ qD t i (fin t p)
theorem W_ {p:Int×Int} (h:rP t p):∃ i:Nat,p.1=(i:Int)∧i<t.2.length∧((p.2=0∧rW p=2*i∧rW (p.1,1-p.2)=2*i+1)∨(p.2=1∧rW p=2*i+1∧rW (p.1,1-p.2)=2*i)):=by
 obtain ⟨ad,af,aG,a6⟩:=h;refine ⟨p.1.toNat,by omega,by omega,?_⟩;unfold rW;simp only;rcases show p.2=0∨p.2=1 by omega with h | h
 ·left;omega
 ·right;omega
theorem ago {L:List Nat} {p:Int×Int} {x:Nat}:x∈I4 L p↔x∈L∧x≠rW p∧x≠rW (p.1,1-p.2):=by
 unfold I4 Hs;simp only [sO,decide_eq_true_eq,and_assoc]
theorem S2 {α:Type} (q:α→Bool):∀ (l:List α) (x:α),x∈l→q x=false→(l.filter q).length<l.length
 | [],_,h,_=>by simp at h
 | y::l,x,h,a3=>by
   have hle:=tH q l;rw [tO];rcases sj.1 h with rfl | h
   ·rw [a3];simp only [Bool.false_eq_true,if_false,sL];omega
   ·have a_:=S2 q l x h a3;split <;> simp only [sL] <;> omega
theorem adt {L:List Nat} {p:Int×Int} (h:rW p∈L) (af:rW (p.1,1-p.2)∈Hs L p):(I4 L p).length+2≤L.length:=by
 have aB:=S2 (fun x=>decide (x≠rW p)) L _ h (by simp);have aH:=S2 (fun x=>decide (x≠rW (p.1,1-p.2))) (Hs L p) _ af (by simp);unfold I4;unfold Hs at aB aH ⊢;omega
theorem Hm.step {s a h:Int} {L:List Nat} {way out:Row} {p:Int×Int} (kl:Hm t s L way out a h) (aC:p∈places t a) (fi:rW p∈L):Hm t s (I4 L p) (way++[p]) out (fin t p) h∧rW (p.1,1-p.2)∈Hs L p:=by
 have a3:=J'.1 aC;have bO:rP t p:=⟨a3.1,a3.2.1,a3.2.2.1,a3.2.2.2.1⟩;obtain ⟨i,hi,qJ,al⟩:=W_ bO;have RS:2*i∈L:=by
  rcases al with al | al
  ·rw [←al.2.1];exact fi
  ·rw [kl.sym,←al.2.1];exact fi
 have adS:=(kl.sym i).1 RS;have aZ:∀ x,x∈I4 L p↔x∈L∧x≠2*i∧x≠2*i+1:=fun x=>by
  rw [ago];rcases al with al | al <;> rw [al.2.1,al.2.2] <;> constructor <;> rintro ⟨ad,af,aG⟩ <;> exact ⟨ad,by omega,by omega⟩
 have aeS:=(kl.LG i qJ).1 RS;have Ic:((way++[p]++out).map (·.1)).Perm (p.1::(way++out).map (·.1)):=by
  rw [←sx];refine List.Perm.map _ ?_;rw [sA];exact List.perm_middle
 refine ⟨⟨fun x al=>kl.iq x ((aZ x).1 al).1,fun j=>?_,fun q a3=>?_,?_,fun j aw=>?_,?_,kl.back,fun q a3 j aw aeC=>kl.PS q a3 j aw ((aZ _).1 aeC).1⟩,?_⟩
 ·rw [aZ,aZ,kl.sym j];constructor <;> rintro ⟨ad,af,aG⟩ <;> exact ⟨ad,by omega,by omega⟩
 ·rcases sN.1 a3 with a3 | a3
  ·rcases sN.1 a3 with a3 | a3
   ·exact kl.ok q (u5 _ a3)
   ·rw [sK.1 a3];exact bO
  ·exact kl.ok q (List.mem_append_right _ a3)
 ·rw [Ic.nodup_iff,t_];exact ⟨by rw [hi];exact aeS,kl.Qf⟩
 ·rw [aZ,kl.LG j aw,Ic.mem_iff,sj,hi];constructor
  ·rintro ⟨ad,af,_⟩ (aG | aG)
   ·omega
   ·exact ad aG
  ·intro ad;refine ⟨fun af=>ad (.inr af),fun e=>ad (.inl (by omega)),by omega⟩
 ·rw [IA,kl.go];exact JE.2 ⟨a3.2.2.2.2,rfl⟩
 ·unfold Hs;rw [sO];rcases al with al | al <;> rw [al.2.1,al.2.2]
  ·exact ⟨adS,by simp⟩
  ·exact ⟨RS,by simp⟩
def PQ (t:p3) (L:List Nat):List Int:=(upto t.2.length).filter fun i=>decide (2*i.toNat∈L)
theorem S9 {L:List Nat} {x:Int}:x∈PQ t L↔∃ i:Nat,i<t.2.length∧x=(i:Int)∧2*i∈L:=by
 unfold PQ;rw [sO,G3,decide_eq_true_eq];constructor
 ·rintro ⟨⟨ad,af⟩,aG⟩;exact ⟨x.toNat,by omega,by omega,aG⟩
 ·rintro ⟨i,ad,rfl,aG⟩;exact ⟨⟨by omega,by omega⟩,by simpa using aG⟩
theorem Hm.perm {s a h:Int} {L:List Nat} {way out:Row} (kl:Hm t s L way out a h):(upto t.2.length).Perm (PQ t L++(way++out).map (·.1)):=by
 refine (uR (Jk _) ?_).2 fun x=>?_
 ·rw [tT];refine ⟨(Jk _).filter _,kl.Qf,fun x al y a0 e=>?_⟩;subst e;obtain ⟨i,hi,rfl,fi⟩:=S9.1 al;exact (kl.LG i hi).1 fi a0
 ·rw [sN,S9,G3];constructor
  ·rintro ⟨ad,af⟩;obtain ⟨i,rfl⟩:∃ i:Nat,x=(i:Int):=⟨x.toNat,by omega⟩;by_cases hm:(i:Int)∈(way++out).map (·.1)
   ·exact .inr hm
   ·exact .inl ⟨i,by omega,rfl,(kl.LG i (by omega)).2 hm⟩
  ·rintro (⟨i,hi,rfl,_⟩ | hm)
   ·omega
   ·obtain ⟨p,aC,rfl⟩:=sm.1 hm;have:=kl.ok p aC;exact ⟨this.1,this.2.1⟩
theorem Hm.len {s a h:Int} {L:List Nat} {way out:Row} (kl:Hm t s L way out a h):way.length+out.length≤t.2.length:=by
 have:=kl.perm.length_eq;rw [GN] at this;simp at this;omega
theorem Hm.stuck {s a h:Int} {L:List Nat} {way out:Row} (kl:Hm t s L way out a h) (aA:∀ v,qL t (upto t.2.length) v % 2=0) (ai:∀ i:Nat,i<t.2.length→2*i∈L→¬ qD t i a):h=a:=by
 have aS:qL t (PQ t L) a=0:=RE.2 fun x al=>by
  obtain ⟨i,hi,rfl,fi⟩:=S9.1 al;exact ai i hi fi
 have ad:=aA a;rw [Pj kl.perm,Ph,aS,sZ,Ph] at ad;have af:=Ou _ _ _ a kl.go;have aG:=Ou _ _ _ a kl.back;have a6:qL t (out.reverse.map (·.1)) a=qL t (out.map (·.1)) a:=Pj ((vD out).map _) a;rw [a6] at aG;rw [if_pos rfl] at af;by_cases e:h=a
 ·exact e
 ·rw [if_neg e] at aG;omega
theorem Hm.pop {s a:Int} {L:List Nat} {way out:Row} {p:Int×Int} (kl:Hm t s L (way++[p]) out a a) (ai:∀ i:Nat,i<t.2.length→2*i∈L→¬ qD t i a):Hm t s L way (out++[p]) (qo t p) (qo t p):=by
 have Ic:(way++(out++[p])).Perm (way++[p]++out):=by
  rw [sA];exact List.Perm.append_left way wg
 have Hj:=kl.go;rw [IA] at Hj;obtain ⟨c,ad,af⟩:=qa Hj;obtain ⟨aG,a6⟩:=JE.1 af;refine ⟨kl.iq,kl.sym,fun q a3=>kl.ok q (Ic.mem_iff.1 a3),(Ic.map _).nodup_iff.2 kl.Qf,fun i hi=>?_,by rw [aG];exact ad,?_,fun q a3 i hi fi=>?_⟩
 ·rw [kl.LG i hi,(Ic.map (·.1)).mem_iff]
 ·rw [List.reverse_append];exact Ii.2 ⟨rfl,by rw [a6];exact kl.back⟩
 ·rcases sN.1 a3 with a3 | a3
  ·exact kl.PS q a3 i hi fi
  ·rw [sK.1 a3,a6];exact ai i hi fi
theorem S5 (aA:∀ v,qL t (upto t.2.length) v % 2=0) (aN:t.2.length≤1000) {s:Int}:∀ (m:Nat) (L:List Nat) (way out:Row) (a h:Int),Hm t s L way out a h→L.length+way.length<m →
  ∃ im GM,Jw t m L way out a=some GM∧Hm t s im [] GM s s∧∀ i:Nat,i<t.2.length→2*i∈im→¬ qD t i s
 | 0,_,_,_,_,_,_,hm=>absurd hm (by omega)
 | m+1,L,way,out,a,h,kl,hm=>by
   have hlen:=kl.len;rw [Jw,p' ⟨by omega,by omega⟩];cases aQ:(places t a).find? (MB L) with
   | some p =>
     have aC:=List.mem_of_find?_eq_some aQ;(have fi:rW p∈L:=by simpa [MB] using List.find?_some aQ);obtain ⟨ad,af⟩:=kl.step aC fi;have aG:=adt fi af;show ∃ im GM,p5 (rW (p.1,1-p.2)∈Hs L p) _=some GM∧_;rw [p' af];exact S5 aA aN m _ _ _ _ _ ad (by simp only [su,tV];omega)
   | none =>
     have ai:∀ i:Nat,i<t.2.length→2*i∈L→¬ qD t i a:=fun i hi fi kq=>by
      obtain ⟨p,aC,e⟩:=adA hi kq;have a3:=J'.1 aC;obtain ⟨j,aw,_,al⟩:=W_ (t:=t) (p:=p) ⟨a3.1,a3.2.1,a3.2.2.1,a3.2.2.2.1⟩;(have gW:i=j:=by omega);subst gW;have fU:=vd.1 aQ p aC;refine fU ?_;simp only [MB,decide_eq_true_eq];rcases al with al | al
      ·rw [al.2.1];exact fi
      ·rw [al.2.1];exact (kl.sym i).1 fi
     have ad4:=kl.stuck aA ai;subst ad4;rcases Yh way with rfl | ⟨Hx,p,rfl⟩
     ·show ∃ im GM,some out=some GM∧_;(have e:s=h:=by simpa [qm] using kl.go);subst e;exact ⟨L,out,rfl,kl,ai⟩
     ·rw [List.getLast?_concat];have bO:=kl.ok p (by simp);show ∃ im GM,p5 (0≤p.1∧p.1<(t.2.length:Int)) (Jw t m L (Hx++[p]).dropLast (out++[p]) (qo t p))=some GM∧_;rw [p' ⟨bO.1,bO.2.1⟩,List.dropLast_concat];exact S5 aA aN m _ _ _ _ _ (kl.pop ai) (by simp only [su,tV] at hm;omega)
structure Full (t:p3) (l:Row):Prop where
 ok:∀ p∈l,rP t p
 rV:(l.map (·.1)).Nodup
 all:∀ i:Nat,i<t.2.length→(i:Int)∈l.map (·.1)
theorem Hm.all {s:Int} {L:List Nat} {out:Row} (kl:Hm t s L [] out s s) (ai:∀ i:Nat,i<t.2.length→2*i∈L→¬ qD t i s) (ao:∀ i:Nat,i<t.2.length→∃ v,qD t i v∧q9 t (upto t.2.length) s v):∀ i:Nat,i<t.2.length→(i:Int)∈out.map (·.1):=by
 have aer:∀ (l:Row) (a c:Int),qm t a l=some c→∀ p∈l,qo t p=a∨∃ q∈l,fin t q=qo t p:=by
  intro l
  induction l with
  | nil=>intro a c _ p aC;simp at aC
  | cons q l a_ =>
    intro a c h p aC;obtain ⟨ad,af⟩:=Ii.1 h;rcases sj.1 aC with rfl | aC
    ·exact .inl ad
    ·rcases a_ _ c af p aC with aG | ⟨fL,CV,aG⟩
     ·exact .inr ⟨q,by simp,aG.symm⟩
     ·exact .inr ⟨fL,by simp [CV],aG⟩
 have key:∀ v,q9 t (upto t.2.length) s v→∀ i:Nat,i<t.2.length→2*i∈L→¬ qD t i v:=fun v ae=>by
  induction ae with
  | refl=>exact ai
  | step j _ aw aB aH a_ =>
    rename_i g F8;have ed:=G3.1 aw;obtain ⟨k,rfl⟩:∃ k:Nat,j=(k:Int):=⟨j.toNat,by omega⟩;(have av:k<t.2.length:=by omega);have lX:2*k ∉ L:=fun h=>a_ k av h aB;have hm:(k:Int)∈out.map (·.1):=Classical.byContradiction fun aN=>lX ((kl.LG k av).2 (by simpa using aN));obtain ⟨p,aC,e⟩:=sm.1 hm;rw [←e] at aH;rcases (Jr p _).1 aH with h | h
    ·rcases aer _ _ _ kl.back p (vE.2 aC) with aX | ⟨q,a3,aX⟩
     ·rw [←h,aX];exact ai
     ·intro i hi fi;rw [←h,←aX];exact kl.PS q (vE.1 a3) i hi fi
    ·intro i hi fi;rw [←h];exact kl.PS p aC i hi fi
 intro i hi;refine Classical.byContradiction fun aN=>?_;obtain ⟨v,ad,af⟩:=ao i hi;exact key v af i hi ((kl.LG i hi).2 (by simpa using aN)) ad
theorem ajL (aA:∀ v,qL t (upto t.2.length) v % 2=0) (aN:t.2.length≤1000) (aS:0<t.2.length) (ao:∀ i:Nat,i<t.2.length→∃ v,qD t i v∧q9 t (upto t.2.length) (ix t.2 0).1 v) :
  ∃ l,LR t=some l∧Full t l∧qm t (ix t.2 0).1 l=some (ix t.2 0).1:=by
 have kl:Hm t (ix t.2 0).1 (List.range (2*t.2.length)) [] [] (ix t.2 0).1 (ix t.2 0).1:=by
  refine ⟨fun x al=>sG.1 al,fun i=>?_,fun p aC=>absurd aC (by simp),by simp,fun i hi=>?_,rfl,rfl,fun p aC=>absurd aC (by simp)⟩
  ·rw [sG,sG];omega
  ·rw [sG];simp;omega
 obtain ⟨L,out,ad,af,aG⟩:=S5 aA aN p6 _ _ _ _ _ kl (ri (by simp;omega));have c9:=af.all aG ao;have hlen:=af.len;have bM:out.length≠0:=fun e=>by
  have:=c9 0 aS;rw [tu.1 e] at this;simp at this
 refine ⟨out.reverse,?_,⟨fun p aC=>af.ok p (by simpa using aC),?_,fun i hi=>?_⟩,af.back⟩
 ·rw [LR,p' ⟨aS,aN⟩,ad,r_,p' ⟨bM,by omega⟩]
 ·exact ((vD out).map _).nodup_iff.2 (by simpa using af.Qf)
 ·exact ((vD out).map (·.1)).mem_iff.2 (c9 i hi)
end
end Go.Proofs.YtfakoboiahbhaaaGreat.Ab


namespace Go.Proofs.YtfakoboiahbhaaaGreat.Ab
open Go
set_option maxRecDepth 20000
set_option maxHeartbeats 4000000
noncomputable def Q5:ey :=
 .loop (some (Ez false [0,1,4,1,5,3,52])) (Gz [gL 14 [.sl 13,.sl 12] (.bin .lss)] (.seq (.cond (.sl 14) .skip (.exit 0)) (.seq (.block 1 (Gz [gL 15 [.sl 11,.sl 13] (.pM 1),Gl 16 15,Gp 7 16] (Gz [Gn 17 0,gL 18 [.hJ 17] .zB,F6 19 18 0,F6 20 19 1,Gl 21 20,Gn 22 7,Gh 23 21 22 2,F6 24 23 0,Gl 25 24,gL 26 [.sl 5,.sl 25] (.y3 6 1),Gl 27 26,FZ 28 27 1,gL 29 [.sl 5,.hJ 25] (.y3 6 1),⟨none,[.hG 29,.hG 28],none,none,.st 1⟩] (Gs [Gn 30 0,gL 31 [.hJ 30] .zB,F6 32 31 0,F6 33 32 1,Gl 34 33,Gp 35 7,Gh 36 34 35 2,F6 37 36 1,Gl 38 37,gL 39 [.sl 5,.sl 38] (.y3 6 1),Gl 40 39,FZ 41 40 1,gL 42 [.sl 5,.hJ 38] (.y3 6 1),⟨none,[.hG 42,.hG 41],none,none,.st 1⟩])))) (Gs [FZ 43 13 1,Gp 13 43]))))
noncomputable def Q6:ey :=
 .loop (some (Ez false [8, 1, 38, 2, 17])) (Gz [gL 49 [.sl 48, .iA (.int .i64 6)] (.bin .lss)] (.seq (.cond (.sl 49) .skip (.exit 2)) (.seq (.block 3 (Gz [Gn 50 48, gL 51 [.sl 47, .sl 48] (.other (Oper.mk (some 51) (Op.index 101 (Operand.tmp 47) (Operand.tmp 48)) 3 "table.go:64" (Array.mk []) none) 0), Gp 9 50, Gp 10 51] (Gz [Gp 52 10, F0 53 52 2 .rem, F0 54 53 1 .eql] (.cond (.sl 54) (Gs [Gn 55 8, Gn 56 8, Gk 57 56, Gp 58 8, Gk 59 58, gL 60 [.hG 55, .hG 57, .hG 59] (.AX 1 false true true), Gp 61 9, gL 62 [.hJ 61] (.x' 1 1 [.int .i64 0] [0]), gL 63 [.hG 60, .hG 62] (.app 1 8), Gp 8 63]) .skip)))) (Gs [FZ 64 48 1, Gp 48 64]))))
noncomputable def aa0:ey :=
 Gz [gL 4 [.iA (.ay [] 0 .full)] (.nil 1)] (Gz [gL 5 [] (.alloc [.int .i64 0, .int .i64 0, .int .i64 0, .int .i64 0, .int .i64 0, .int .i64 0])] (.seq (Gz [Gp 11 1, gL 12 [.sl 11] .pV, Gm 13 0] (.block 0 Q5)) (.seq (Gz [gL 44 [.sl 5] (.pT (.arr 6)), gL 45 [] (.build [.int .i64 0, .int .i64 0, .int .i64 0, .int .i64 0, .int .i64 0, .int .i64 0] []), gL 46 [.hJ 44, .hJ 45] (.other (Oper.mk (some 46) (Op.binOp .eql 101 (Operand.tmp 44) (Operand.tmp 45) 101) 4 "table.go:60" (Array.mk [Edge.mk 0 Ground.data, Edge.mk 1 Ground.data]) none) 0)] (.cond (.sl 46) (Gz [gL 4 [.iA (.ay [] 0 .full)] (.nil 1)] .ret) .skip)) (Gz [gL 8 [.iA (.ay [] 0 .full)] (.nil 1)] (.seq (Gz [gL 47 [.hJ 5] (.pT (.arr 6)), Gm 48 0] (.block 2 Q6)) (Gz [Gp 65 8, Gp 4 65] .ret))))))
theorem af9:zf Tryz.prog Pa 76=some (aa0,66,[.tmp 4]):=by kernel_rfl
def L_ (t:qb) (qd:p8) (p9:p8→Option p8):Nat→Int→p8→Option p8
 | 0,_,_=>none
 | m+1,s1,s2 =>
   if (decide (s1<(qd.length:Int)))=true then
    p5 (0≤s1∧s1<(qd.length:Int)) <|
    p5 (0≤(ix qd s1)∧(ix qd s1)<(t.2.length:Int)) <|
    p5 (0≤(ix t.2 (ix qd s1)).1∧(ix t.2 (ix qd s1)).1<(6:Int)∧6=s2.length) <|
    p5 (0≤(ix t.2 (ix qd s1)).1∧(ix t.2 (ix qd s1)).1<(6:Int)∧6=s2.length) <|
    p5 (0≤(ix qd s1)∧(ix qd s1)<(t.2.length:Int)) <|
    p5 (0≤(ix t.2 (ix qd s1)).2∧(ix t.2 (ix qd s1)).2<(6:Int)∧6=(s2.set ((ix t.2 (ix qd s1)).1).toNat (w ((ix s2 ((ix t.2 (ix qd s1)).1))+(1:Int)))).length) <|
    p5 (0≤(ix t.2 (ix qd s1)).2∧(ix t.2 (ix qd s1)).2<(6:Int)∧6=(s2.set ((ix t.2 (ix qd s1)).1).toNat (w ((ix s2 ((ix t.2 (ix qd s1)).1))+(1:Int)))).length) <|
    L_ t qd p9 m (w (s1+(1:Int))) ((s2.set ((ix t.2 (ix qd s1)).1).toNat (w ((ix s2 ((ix t.2 (ix qd s1)).1))+(1:Int)))).set ((ix t.2 (ix qd s1)).2).toNat (w ((ix (s2.set ((ix t.2 (ix qd s1)).1).toNat (w ((ix s2 ((ix t.2 (ix qd s1)).1))+(1:Int)))) ((ix t.2 (ix qd s1)).2))+(1:Int))))
   else
    p9 s2
def JM (xZ:p8) (qq:p8→Option p8):Nat→p8→Int→Option p8
 | 0,_,_=>none
 | m+1,s3,Gy =>
   if (decide (Gy<(6:Int)))=true then
    p5 (0≤Gy∧Gy<(6:Int)∧xZ.length=6) <|
    p5 ((2:Int)≠0) <|
    if (decide (((ix xZ Gy).tmod (2:Int))=(1:Int)))=true then
     p5 ((s3.length:Int)=(s3.length:Int)∧0≤(s3.length:Int)∧(s3.length:Int)≤(s3.length:Int)) <|
     p5 (((s3.take (s3.length:Int).toNat).length+1)*8≤140737488355328) <|
     JM xZ qq m ((s3.take (s3.length:Int).toNat)++[Gy]) (w (Gy+(1:Int)))
    else
     JM xZ qq m s3 (w (Gy+(1:Int)))
   else
    qq s3
def Lb (t:qb) (qd:p8):Option p8 :=
 L_ t qd (fun xZ =>
   p5 (xZ.length=6) <|
   p5 (xZ.length=6) <|
   if (decide (xZ=[(0:Int),(0:Int),(0:Int),(0:Int),(0:Int),(0:Int)]))=true then
    some []
   else
    p5 (xZ.length=6) <|
    JM xZ (fun oi =>
      some oi) p6 ([]:List Int) (0:Int)) p6 (0:Int) (List.replicate 6 (0:Int))
theorem akG {t:qb} {qd:p8} {p9:p8→Option p8} {s1:Int} {s2:p8} {v:p8} {Q:qY}   (q7:∀ (xZ:p8) (p4:List I),p9 xZ=some v→qI 66 [(5,(.ptr 0 0))] p4→Q (.exit 0) p4 [au.cells (xZ.map hP)]) {T:List I} (bX:eQ (Ez false [0,1,4,1,5,3,52]) T=GG 66 [(0,(.bU [(hP t.1),(p2 t.2 .shared)])),(5,(.ptr 0 0)),(11,(qg qd .shared)),(12,(hP (qd.length:Int))),(13,(hP s1))]) (h:L_ t qd p9 p6 s1 s2=some v) :
  dB Tryz.prog Pa 76 0 none Q5 T [au.cells (s2.map hP)] Q:=by
 unfold Q5;refine wp_loop bX ?_;refine .intro (fun m T H=>∃ (s1:Int) (s2:p8),T=GG 66 [(0,(.bU [(hP t.1),(p2 t.2 .shared)])),(5,(.ptr 0 0)),(11,(qg qd .shared)),(12,(hP (qd.length:Int))),(13,(hP s1))]∧H=[au.cells (s2.map hP)]∧L_ t qd p9 m s1 s2=some v) p6 ⟨s1,s2,rfl,rfl,h⟩ ?_;clear h bX;rintro m T H ⟨s1,s2,rfl,rfl,h⟩;cases m
 ·exact qT h
 rename_i m;rw [L_.eq_2] at h;conv=>whnf
 refine bs h (fun eT h=>?_) fun eT h=>?_
 ·rw [eT];conv=>whnf
  refine qj h id fun fj h=>?_;rw [rJ hP qd s1 fj];conv=>whnf
  refine qj h id fun qk h=>?_;rw [qU pY 2 ql t.2 (ix qd s1) qk];conv=>whnf
  obtain ⟨qw,h⟩:=qn h;refine ⟨⟨qw.1,qw.2.1⟩,?_⟩;replace qw:0≤(ix t.2 (ix qd s1)).1∧(ix t.2 (ix qd s1)).1<(s2.length:Int):=⟨qw.1,by have:=qw.2;omega⟩;conv=>whnf
  refine Kc hP s2 ((ix t.2 (ix qd s1)).1) qw ?_;conv=>whnf
  obtain ⟨qC,h⟩:=qn h;refine ⟨⟨qC.1,qC.2.1⟩,?_⟩;replace qC:0≤(ix t.2 (ix qd s1)).1∧(ix t.2 (ix qd s1)).1<(s2.length:Int):=⟨qC.1,by have:=qC.2;omega⟩;conv=>whnf
  refine KY hP s2 ((ix t.2 (ix qd s1)).1) (w ((ix s2 ((ix t.2 (ix qd s1)).1))+(1:Int))) qC ?_;conv=>whnf
  refine qj h id fun rk h=>?_;rw [qU pY 2 ql t.2 (ix qd s1) rk];conv=>whnf
  obtain ⟨qM,h⟩:=qn h;refine ⟨⟨qM.1,qM.2.1⟩,?_⟩;replace qM:0≤(ix t.2 (ix qd s1)).2∧(ix t.2 (ix qd s1)).2<((s2.set ((ix t.2 (ix qd s1)).1).toNat (w ((ix s2 ((ix t.2 (ix qd s1)).1))+(1:Int)))).length:Int):=⟨qM.1,by have:=qM.2;omega⟩;conv=>whnf
  refine Kc hP (s2.set ((ix t.2 (ix qd s1)).1).toNat (w ((ix s2 ((ix t.2 (ix qd s1)).1))+(1:Int)))) ((ix t.2 (ix qd s1)).2) qM ?_;conv=>whnf
  obtain ⟨qP,h⟩:=qn h;refine ⟨⟨qP.1,qP.2.1⟩,?_⟩;replace qP:0≤(ix t.2 (ix qd s1)).2∧(ix t.2 (ix qd s1)).2<((s2.set ((ix t.2 (ix qd s1)).1).toNat (w ((ix s2 ((ix t.2 (ix qd s1)).1))+(1:Int)))).length:Int):=⟨qP.1,by have:=qP.2;omega⟩;conv=>whnf
  refine KY hP (s2.set ((ix t.2 (ix qd s1)).1).toNat (w ((ix s2 ((ix t.2 (ix qd s1)).1))+(1:Int)))) ((ix t.2 (ix qd s1)).2) (w ((ix (s2.set ((ix t.2 (ix qd s1)).1).toNat (w ((ix s2 ((ix t.2 (ix qd s1)).1))+(1:Int)))) ((ix t.2 (ix qd s1)).2))+(1:Int))) qP ?_;conv=>whnf
  exact ⟨m,sf m,(w (s1+(1:Int))),((s2.set ((ix t.2 (ix qd s1)).1).toNat (w ((ix s2 ((ix t.2 (ix qd s1)).1))+(1:Int)))).set ((ix t.2 (ix qd s1)).2).toNat (w ((ix (s2.set ((ix t.2 (ix qd s1)).1).toNat (w ((ix s2 ((ix t.2 (ix qd s1)).1))+(1:Int)))) ((ix t.2 (ix qd s1)).2))+(1:Int)))),rfl,rfl,h⟩
 ·rw [eT];conv=>whnf
  exact q7 _ _ h ⟨rfl,rfl⟩
theorem akH {xZ:p8} {qq:p8→Option p8} {s3:p8} {Gy:Int} {v:p8} {Q:qY} {bA:au}  (Hk:∀ (oi:p8) (p4:List I),qq oi=some v→qI 66 [(8,(qg oi (.uniq 1)))] p4→Q (.exit 2) p4 [bA]) {T:List I} (bX:eQ (Ez false [8,1,38,2,17]) T=GG 66 [(8,(qg s3 (.uniq 1))),(47,(.agg ((xZ.map hP)))),(48,(hP Gy))]) (h:JM xZ qq p6 s3 Gy=some v) :
  dB Tryz.prog Pa 76 0 none Q6 T [bA] Q:=by
 unfold Q6;refine wp_loop bX ?_;refine .intro (fun m T H=>∃ (s3:p8) (Gy:Int),T=GG 66 [(8,(qg s3 (.uniq 1))),(47,(.agg ((xZ.map hP)))),(48,(hP Gy))]∧H=[bA]∧JM xZ qq m s3 Gy=some v) p6 ⟨s3,Gy,rfl,rfl,h⟩ ?_;clear h bX;rintro m T H ⟨s3,Gy,rfl,rfl,h⟩;cases m
 ·exact qT h
 rename_i m;rw [JM.eq_2] at h;conv=>whnf
 refine bs h (fun rm h=>?_) fun rm h=>?_
 ·rw [rm];conv=>whnf
  obtain ⟨rM,h⟩:=qn h;refine ⟨_,_,fun C=>agz rfl (abj (e:=3) (len:=6) (kd:=.i64) (by kernel_rfl) (by kernel_rfl) (by kernel_rfl) (by kernel_rfl) rM.2.2 ⟨rM.1,rM.2.1⟩),?_⟩;conv=>whnf
  refine qj h id fun Iw h=>?_;conv=>whnf
  refine bs h (fun Ha h=>?_) fun Ha h=>?_
  ·rw [Ha];(conv=>whnf);refine qj h id fun HT h=>?_;erw [Yf hP s3 (s3.length:Int) HT.2];(conv=>whnf);obtain ⟨GU,h⟩:=qn h;refine ⟨by first | rfl | simp,by have:=GU;omega,by decide,GU,by first | rfl | simp,?_⟩
   erw [Lj hP (s3.take (s3.length:Int).toNat) Gy];(conv=>whnf);exact ⟨m,sf m,((s3.take (s3.length:Int).toNat)++[Gy]),(w (Gy+(1:Int))),rfl,rfl,h⟩
  ·rw [Ha];(conv=>whnf);exact ⟨m,sf m,s3,(w (Gy+(1:Int))),rfl,rfl,h⟩
 ·rw [rm];conv=>whnf
  exact Hk _ _ h ⟨rfl,rfl⟩
theorem UY {t:qb} {qd:p8} {v:p8} (h:Lb t qd=some v):qp 76 [(.bU [(hP t.1),(.ay (t.2.flatMap pY) t.2.length .shared)]),(.ay (qd.map hP) qd.length .shared)] (.ay (v.map hP) v.length .shared):=by
 refine qN dH af9 rfl (rK (fun _=>rfl) _ _ _) fun Q bl=>?_;have jw:qv [.tmp 4] Q (fun v=>(qg v .shared)) v:=fun T H bI=>bl _ T H bI;unfold Lb at h;unfold aa0;obtain ⟨Hd,qy⟩:∃ c,Q5=c:=⟨_,rfl⟩;rw [qy];obtain ⟨I3,ru⟩:∃ c,Q6=c:=⟨_,rfl⟩;rw [ru];conv=>whnf
 subst qy;refine akG ?_ (by exact rfl) h;intro xZ p4 h qf;obtain ⟨qE,rfl⟩:=qf.ex;conv=>whnf
 obtain ⟨q3,h⟩:=qn h;refine ⟨by simp [q3],?_⟩;rw [S1 hP xZ (fun _=>rfl) q3];conv=>whnf
 obtain ⟨qG,h⟩:=qn h;refine ⟨_,_,fun C=>agx rfl rfl (abi .i64 (e:=3) (len:=6) (kd:=.i64) (xs:=xZ) (ys:=[(0:Int),(0:Int),(0:Int),(0:Int),(0:Int),(0:Int)]) (by kernel_rfl) (by kernel_rfl) (by kernel_rfl) (by kernel_rfl) qG rfl),?_⟩;conv=>whnf
 refine bs h (fun rE h=>?_) fun rE h=>?_
 ·rw [rE];conv=>whnf
  exact p7 h jw rfl rfl
 ·rw [rE];conv=>whnf
  obtain ⟨rh,h⟩:=qn h;refine ⟨by simp [rh],?_⟩;rw [S1 hP xZ (fun _=>rfl) rh];conv=>whnf
  subst ru;refine akH ?_ (by exact rfl) h;intro oi p4 h qf;obtain ⟨qE,rfl⟩:=qf.ex;conv=>whnf
  exact p7 h jw rfl rfl

end Go.Proofs.YtfakoboiahbhaaaGreat.Ab


namespace Go.Proofs.YtfakoboiahbhaaaGreat.Ab
open Go
set_option maxRecDepth 20000
set_option maxHeartbeats 4000000
end Go.Proofs.YtfakoboiahbhaaaGreat.Ab


namespace Go.Proofs.YtfakoboiahbhaaaGreat.Ab
open Go
theorem aja (n:Nat):(upto n).Pairwise (·<·):=by
 unfold upto;exact uJ.2 (List.pairwise_lt_range.imp fun h=>Int.ofNat_lt.2 h)
section
variable {b t:p3}
def q' (b:p3) (S:List Int):List Int:=(upto 6).filter fun f=>decide (qL b S f % 2=1)
theorem MD {S:List Int} {f:Int}:f∈q' b S↔(0≤f∧f<6)∧qL b S f % 2=1:=by
 unfold q';rw [sO,G3,decide_eq_true_eq];rfl
theorem Tb (S:List Int):(q' b S).Pairwise (·<·):=(aja 6).filter _
theorem ado (e:Int×Int) (v:Int):HC e v≤2:=by unfold HC;split <;> split <;> omega
theorem Wg (S:List Int) (v:Int):qL b S v≤2*S.length:=by
 induction S with
 | nil=>simp [Ln]
 | cons i S a_=>rw [Nw,sL];have:=ado (ix b.2 i) v;omega
def Ll (S:List Int) (x:Int):List Int:=S.set x.toNat (w (ix S x+1))
theorem Pc (S:List Int) (x:Int):(Ll S x).length=S.length:=by simp [Ll]
theorem Xa {S:List Int} {x f:Int} (al:0≤x∧x<(S.length:Int)) (aQ:0≤f∧f<(S.length:Int)) (ai:0≤ix S x∧ix S x≤100000):ix (Ll S x) f=ix S f+if x=f then 1 else 0:=by
 obtain ⟨a,rfl⟩:∃ a:Nat,x=(a:Int):=⟨x.toNat,by omega⟩;obtain ⟨c,rfl⟩:∃ c:Nat,f=(c:Int):=⟨f.toNat,by omega⟩;unfold Ll;rw [H2 (by omega),te];by_cases h:a=c
 ·subst h;rw [LB (by omega),if_pos rfl]
 ·rw [Ju (Ne.symm h),if_neg (by omega),Int.add_zero]
structure Jo (b:p3) (n:Nat) (He S:List Int):Prop where
 len:S.length=n
 val:∀ f:Int,0≤f→f<(n:Int)→ix S f=(qL b He f:Int)
theorem Jo.step {n:Nat} {He S:List Int} {i:Int} (h:Jo b n He S) (aZ:He.length≤1000) (ad:0≤(ix b.2 i).1∧(ix b.2 i).1<(n:Int)) (af:0≤(ix b.2 i).2∧(ix b.2 i).2<(n:Int)):Jo b n (He++[i]) (Ll (Ll S (ix b.2 i).1) (ix b.2 i).2):=by
 have ak:=h.len;have d_:=h.val _ ad.1 ad.2;have alu:=Wg (b:=b) He (ix b.2 i).1;have dA:=h.val _ af.1 af.2;have alv:=Wg (b:=b) He (ix b.2 i).2;refine ⟨by rw [Pc,Pc,ak],fun f J7 Co=>?_⟩;have e1:∀ f:Int,0≤f→f<(n:Int)→ix (Ll S (ix b.2 i).1) f=ix S f+if (ix b.2 i).1=f then 1 else 0:=fun f aB aH=>Xa ⟨ad.1,by omega⟩ ⟨aB,by omega⟩ ⟨by omega,by omega⟩;rw [Xa ⟨af.1,by rw [Pc];omega⟩ ⟨J7,by rw [Pc];omega⟩ (by rw [e1 _ af.1 af.2,dA];split <;> omega),e1 f J7 Co,h.val f J7 Co,Ph,Nw,Ln];unfold HC;split <;> split <;> omega
theorem Jo.zero (n:Nat):Jo b n [] (List.replicate n 0):=⟨by simp,fun f ad af=>by rw [SX];rfl⟩
theorem Z_ (p1:qu t) {S:List Int} (cm:rr t S) (ak:S.length≤1000) {k:List Int→Option (List Int)}:∀ (m i:Nat) (z:Int) (C:List Int),z=i→i≤S.length→S.length-i<m→Jo t 6 (S.take i) C →
  ∃ U9,Jo t 6 S U9∧L_ t S k m z C=k U9
 | 0,_,_,_,_,_,h,_=>absurd h (by omega)
 | m+1,i,_,C,rfl,hi,hm,Hh=>by
   rw [L_];have bt:=Hh.len;have bV:=p1.f6;by_cases h:(i:Int)<(S.length:Int)
   ·(have qJ:i<S.length:=by omega);have nn:=cm _ (sD qJ);have kq:=PN (l:=t.2) (i:=S[i]) ⟨nn.1,nn.2⟩;have ad:=p1.left _ kq;have af:=p1.right _ kq;have cJ:=Hh.step (i:=S[i]) (by simp;omega) ⟨ad.1,by omega⟩ ⟨af.1,by omega⟩;rw [←Ki qJ] at cJ;rw [if_pos (decide_eq_true h),p' ⟨by omega,h⟩,qW qJ,p' nn,p' ⟨ad.1,by omega,bt.symm⟩,p' ⟨ad.1,by omega,bt.symm⟩,p' nn,p' ⟨af.1,by omega,by simp [bt]⟩,p' ⟨af.1,by omega,by simp [bt]⟩,rj i (by omega)];exact Z_ p1 cm ak m (i+1) _ _ rfl (by omega) (by omega) cJ
   ·rw [if_neg (by simpa using h)]
    have:i=S.length:=by omega
    subst this;rw [tC] at Hh;exact ⟨C,Hh,rfl⟩
theorem YY (n:Nat):((n:Int).tmod 2=1)↔n % 2=1:=by
 rw [Int.tmod_eq_emod_of_nonneg (by omega)];omega
theorem UC (q:Int→Bool) (i:Nat):(upto (i+1)).filter q=(upto i).filter q++if q (i:Int) then [(i:Int)] else []:=by
 rw [Oy,uP,tO,List.filter_nil]
theorem UX {S C:List Int} (Hh:Jo t 6 S C) {k:List Int→Option (List Int)}:∀ (m i:Nat) (z:Int),z=i→i≤6→6-i<m →
  JM C k m ((upto i).filter fun f=>decide (qL t S f % 2=1)) z=k (q' t S)
 | 0,_,_,_,_,h=>absurd h (by omega)
 | m+1,i,_,rfl,hi,hm=>by
   rw [JM];have ak:((upto i).filter fun f=>decide (qL t S f % 2=1)).length≤6:=sH (tH _ _) (by rw [GN];exact hi);by_cases h:(i:Int)<6
   ·rw [if_pos (decide_eq_true h),p' ⟨by omega,h,Hh.len⟩,p' (by decide),Hh.val i (by omega) h];by_cases aq:qL t S (i:Int) % 2=1
    ·rw [if_pos (decide_eq_true ((YY _).2 aq)),p' ⟨rfl,by omega,by omega⟩,te,tC,p' (by omega),rj i (by omega)];have ai:=UC (fun f=>decide (qL t S f % 2=1)) i;rw [if_pos (decide_eq_true aq)] at ai;rw [←ai];exact UX Hh m (i+1) _ rfl (by omega) (by omega)
    ·rw [if_neg (by simpa [YY] using aq),rj i (by omega)];have ai:=UC (fun f=>decide (qL t S f % 2=1)) i;rw [if_neg (by simpa using aq),sU] at ai;rw [←ai];exact UX Hh m (i+1) _ rfl (by omega) (by omega)
   ·rw [if_neg (by simpa using h)]
    have:i=6:=by omega
    subst this;rfl
theorem UW (p1:qu t) {S:List Int} (cm:rr t S) (ak:S.length≤1000):Lb t S=some (q' t S):=by
 rw [Lb]
 obtain ⟨C,Hh,aj⟩:=Z_ p1 cm ak (k:=fun xZ =>
   p5 (xZ.length=6) <|
   p5 (xZ.length=6) <|
   if (decide (xZ=[(0:Int),(0:Int),(0:Int),(0:Int),(0:Int),(0:Int)]))=true then
    some []
   else
    p5 (xZ.length=6) <|
    JM xZ (fun oi =>
      some oi) p6 ([]:List Int) (0:Int)) p6 0 0 _ rfl (by omega) (ri (by omega)) (by rw [tq];exact Jo.zero 6)
 rw [aj,p' Hh.len,p' Hh.len];split
 ·rename_i h;have h:=of_decide_eq_true h;congr 1
  symm
  refine List.filter_eq_nil_iff.2 fun f aQ=>?_;have aQ:=G3.1 aQ;have ae:=Hh.val f aQ.1 aQ.2;have e:C=List.replicate 6 (0:Int):=h;rw [e,SX] at ae
  have:qL t S f=0:=by omega
  simp [this]
 ·rw [p' Hh.len];exact UX Hh p6 0 0 rfl (by omega) (ri (by omega))
theorem Z' (ag:t.2.length≤1000) {k:List Int→Option (List Int)}:∀ (m i:Nat) (z:Int),z=i→i≤t.2.length→t.2.length-i<m→L' t k m (upto i) z=k (upto t.2.length)
 | 0,_,_,_,_,h=>absurd h (by omega)
 | m+1,i,_,rfl,hi,hm=>by
   rw [L'];by_cases h:(i:Int)<(t.2.length:Int)
   ·rw [if_pos (decide_eq_true h),p' (by rw [GN];omega),rj i (by omega),←Oy];exact Z' ag m (i+1) _ rfl (by omega) (by omega)
   ·rw [if_neg (by simpa using h),show i=t.2.length by omega]
theorem UZ (ag:t.2.length≤1000):M' t=some (upto t.2.length):=Z' ag p6 0 0 rfl (by omega) (ri (by omega))
def Ig (b:p3):List Int:=q' b (upto b.2.length)
end
end Go.Proofs.YtfakoboiahbhaaaGreat.Ab


namespace Go.Proofs.YtfakoboiahbhaaaGreat.Ab
open Go
theorem Yn {α:Type} [BEq α] [LawfulBEq α]:∀ (a b:List α),a.Nodup→(∀ x∈a,x∈b)→a.length≤b.length
 | [],_,_,_=>sq _
 | x::a,b,aN,h=>by
   obtain ⟨ad,af⟩:=t_.1 aN;have al:=h x (by simp);have:=Yn a (b.erase x) af fun y a0=>by
    have bM:y≠x:=fun e=>ad (e ▸ a0);exact (List.mem_erase_of_ne bM).2 (h y (by simp [a0]))
   rw [List.length_erase_of_mem al] at this;have:=List.length_pos_of_mem al;simp only [sL];omega
section
variable {b t:p3}
structure RowsOf (b:p3) (S:List Int) (R:List Row):Prop where
 ok:∀ r∈R,∀ p∈r,rP b p
 go:∀ r∈R,∃ a c,qm b a r=some c
 all:((R.flatten).map (·.1)).Perm S
theorem RowsOf.app {S S':List Int} {R Nl:List Row} (h:RowsOf b S R) (aX:RowsOf b S' Nl):RowsOf b (S++S') (R++Nl):=by
 refine ⟨fun r aj=>?_,fun r aj=>?_,?_⟩
 ·rcases sN.1 aj with aj | aj
  ·exact h.ok r aj
  ·exact aX.ok r aj
 ·rcases sN.1 aj with aj | aj
  ·exact h.go r aj
  ·exact aX.go r aj
 ·rw [uS,sZ];exact h.all.append aX.all
theorem RowsOf.nil:RowsOf b [] []:=⟨fun r aj=>absurd aj (by simp),fun r aj=>absurd aj (by simp),by simp⟩
def Nx (b:p3):Row→List Int
 | []=>[]
 | p::r=>[qo b p,(qm b (qo b p) (p::r)).getD 0]
theorem adv {r:Row} {a c v:Int} (h:qm b a r=some c) (aq:qL b (r.map (·.1)) v % 2=1):v∈Nx b r:=by
 cases r with
 | nil=>simp [Ln] at aq
 | cons p r =>
   have ag:=(Ii.1 h).1;have aC:=Ou _ _ _ v h;show v∈[qo b p,(qm b (qo b p) (p::r)).getD 0];rw [ag,h];simp only [Option.getD_some,sj,List.not_mem_nil,or_false];by_cases ad:a=v
   ·exact .inl ad.symm
   ·by_cases af:c=v
    ·exact .inr af.symm
    ·rw [if_neg ad,if_neg af] at aC;omega
theorem Wf (v:Int):∀ (R:List Row),qL b ((R.flatten).map (·.1)) v % 2=1→∃ r∈R,qL b (r.map (·.1)) v % 2=1
 | [],h=>by simp [Ln] at h
 | r::R,h=>by
   rw [tS,sZ,Ph] at h;by_cases ad:qL b (r.map (·.1)) v % 2=1
   ·exact ⟨r,by simp,ad⟩
   ·obtain ⟨q,a3,af⟩:=Wf v R (by omega);exact ⟨q,by simp [a3],af⟩
theorem Wh:∀ (R:List Row),(R.flatMap (Nx b)).length≤2*(R.filter fun r=>!r.isEmpty).length
 | []=>by simp
 | r::R=>by
   have a_:=Wh R;rw [tZ,su,tO];cases r with
   | nil=>simpa [Nx] using a_
   | cons p r =>
     rw [if_pos (by simp)];simp only [Nx,sL,uK] at *;omega
theorem RowsOf.few {S:List Int} {R:List Row} (h:RowsOf b S R):(q' b S).length≤2*(R.filter fun r=>!r.isEmpty).length:=by
 refine sH (Yn _ (R.flatMap (Nx b)) ((Tb S).imp fun h e=>by omega) fun v ae=>?_) (Wh R);have ae:=(MD.1 ae).2;rw [←Pj h.all] at ae;obtain ⟨r,aj,ad⟩:=Wf v R ae;obtain ⟨a,c,Hj⟩:=h.go r aj;exact List.mem_flatMap.2 ⟨r,aj,adv Hj ad⟩
def H8 (l:List (Int×Int)) (v:Int):Nat:=(l.map fun e=>HC e v).sum
theorem adq (e:Int×Int) (l:List (Int×Int)) (v:Int):H8 (e::l) v=HC e v+H8 l v:=by simp [H8]
theorem adp (l l':List (Int×Int)) (v:Int):H8 (l++l') v=H8 l v+H8 l' v:=by simp [H8]
theorem We (S:List Int) (v:Int):qL b S v=H8 (S.map (ix b.2)) v:=by
 unfold qL H8;rw [tr];rfl
theorem Xr {α:Type} [Inhabited α] (l:List α):(upto l.length).map (ix l)=l:=by
 refine List.ext_getElem (by simp [GN]) fun i ad af=>?_;simp only [upto,uO,List.getElem_range];exact qW af
theorem adr (v:Int):qL b (upto b.2.length) v=H8 b.2 v:=by rw [We,Xr]
def G4:List Int→List (Int×Int)
 | x::y::r=>(x,y)::G4 r
 | _=>[]
theorem YW:∀ (l:List Int),(G4 l).length=l.length / 2
 | []=>rfl
 | [_]=>by simp [G4]
 | x::y::r=>by simp only [G4,sL,YW r];omega
theorem YV:∀ (l:List Int) (v:Int),l.Nodup→l.length % 2=0→H8 (G4 l) v=if v∈l then 1 else 0
 | [],v,_,_=>by simp [G4,H8]
 | [_],_,_,h=>by simp at h
 | x::y::r,v,aN,h=>by
   obtain ⟨ad,af⟩:=t_.1 aN;obtain ⟨aG,a6⟩:=t_.1 af;have a_:=YV r v a6 (by simp only [sL] at h;omega);rw [G4,adq,a_];unfold HC;have HF:x≠y:=fun e=>ad (by simp [e]);by_cases e1:v=x
   ·subst e1
    have:v ∉ r:=fun hm=>ad (by simp [hm])
    simp [this,Ne.symm HF]
   ·by_cases ck:v=y
    ·subst ck;simp [aG,HF]
    ·simp [e1,ck,Ne.symm e1,Ne.symm ck]
theorem YX:∀ (l:List Int) (e:Int×Int),e∈G4 l→e.1∈l∧e.2∈l
 | [],e,h=>by simp [G4] at h
 | [_],e,h=>by simp [G4] at h
 | x::y::r,e,h=>by
   rw [G4] at h;rcases sj.1 h with rfl | h
   ·simp
   ·have:=YX r e h;exact ⟨by simp [this.1],by simp [this.2]⟩
theorem ain:∀ (n:Nat) (S:List Int),(∀ i∈S,0≤(ix b.2 i).1∧(ix b.2 i).1<(n:Int)∧0≤(ix b.2 i).2∧(ix b.2 i).2<(n:Int))→((upto n).map fun v=>qL b S v).sum=2*S.length:=by
 have one:∀ (x:Int) (n:Nat),((upto n).map fun v=>if x=v then 1 else 0).sum=if 0≤x∧x<(n:Int) then 1 else 0:=by
  intro x n
  induction n with
  | zero=>rw [if_neg (by omega)];rfl
  | succ n a_ =>
    rw [Oy,sZ,List.sum_append,a_];simp only [sx,tM,ve,List.sum_nil];split <;> split <;> split <;> omega
 have add:∀ (l:List Int) (f g:Int→Nat),(l.map fun v=>f v+g v).sum=(l.map f).sum+(l.map g).sum:=by
  intro l f g
  induction l with
  | nil=>rfl
  | cons x l a_=>simp only [sx,ve,a_];omega
 intro n S h
 induction S with
 | nil =>
   have:∀ l:List Int,(l.map fun v=>qL b [] v).sum=0:=fun l=>by
    induction l with
    | nil=>rfl
    | cons x l a_=>rw [sx,ve,a_,Ln]
   exact this _
 | cons i S a_ =>
   have hi:=h i (by simp);simp only [Nw];rw [add,a_ fun j aw=>h j (by simp [aw])];unfold HC;rw [add,one,one,if_pos ⟨hi.1,hi.2.1⟩,if_pos ⟨hi.2.2.1,hi.2.2.2⟩,sL];omega
theorem Tc (p1:qu b) {S:List Int} (cm:rr b S):(q' b S).length % 2=0:=by
 have bV:=p1.f6;have ai:=ain (b:=b) 6 S fun i hi=>by
  have hm:=PN (l:=b.2) (i:=i) (cm i hi);have ad:=p1.left _ hm;have af:=p1.right _ hm;exact ⟨ad.1,by omega,af.1,by omega⟩
 have key:∀ l:List Int,(l.filter fun f=>decide (qL b S f % 2=1)).length % 2=(l.map fun v=>qL b S v).sum % 2:=by
  intro l
  induction l with
  | nil=>rfl
  | cons x l a_ =>
    rw [tO,sx,ve];split
    ·rename_i h;have h:=of_decide_eq_true h;rw [sL];omega
    ·rename_i h;(have h:¬ qL b S x % 2=1:=by simpa using h);omega
 unfold q';rw [key,ai];omega
def rI (b:p3) (S:List Int):p3:=(b.1,S.map (ix b.2)++G4 (q' b S))
theorem MX (S:List Int):(rI b S).2.length=S.length+(q' b S).length / 2:=by
 unfold rI;simp [YW]
theorem Ow {S:List Int} {i:Nat} (h:i<S.length):ix (rI b S).2 (i:Int)=ix b.2 S[i]:=by
 have aG:i<(S.map (ix b.2)++G4 (q' b S)).length:=by simp;omega
 show ix (S.map (ix b.2)++G4 (q' b S)) (i:Int)=_;rw [qW aG,wa (by simpa using h),uO]
theorem aiH {S:List Int} {i:Nat} (h:S.length≤i) (af:i<(rI b S).2.length):ix (rI b S).2 (i:Int)∈G4 (q' b S):=by
 have aG:i<(S.map (ix b.2)++G4 (q' b S)).length:=af;show ix (S.map (ix b.2)++G4 (q' b S)) (i:Int)∈_;rw [qW aG,wb (by simpa using h)];exact sD _
theorem aiG (p1:qu b) {S:List Int} (cm:rr b S) (v:Int):qL (rI b S) (upto (rI b S).2.length) v % 2=0:=by
 rw [adr];show H8 (S.map (ix b.2)++G4 (q' b S)) v % 2=0;rw [adp,←We,YV _ _ ((Tb S).imp fun h e=>by omega) (Tc p1 cm)];split
 ·rename_i h;have:=(MD.1 h).2;omega
 ·rename_i h;have bV:=p1.f6;refine Classical.byContradiction fun aN=>h (MD.2 ⟨?_,by omega⟩)
  have:qL b S v≠0:=fun e=>by rw [e] at aN;exact aN rfl
  refine Classical.byContradiction fun ae=>this (RE.2 fun i hi kq=>?_);have:=Pm p1 (G3.2 (cm i hi)) kq;omega
theorem YG {S:List Int} {f g:Int} (h:q9 b S f g):q9 (rI b S) (upto (rI b S).2.length) f g:=by
 induction h with
 | refl=>exact .refl
 | step i _ hi aB aH a_ =>
   obtain ⟨k,av,e⟩:=ua hi;have ak:=MX (b:=b) S;refine .step (k:Int) a_ (G3.2 ⟨by omega,by omega⟩) ?_ ?_
   ·unfold qD at aB ⊢;rw [Ow av,e];exact aB
   ·unfold qD at aH ⊢;rw [Ow av,e];exact aH
theorem round_part (p1:qu b) {S:List Int} (cm:rr b S) (ak:S.length≤990) (aS:S≠[]) (ao:∀ x∈S,∀ y∈S,∀ f g,qD b x f→qD b y g→q9 b S f g) :
  ∃ l a,LR (rI b S)=some l∧Full (rI b S) l∧qm (rI b S) a l=some a:=by
 have hlen:=MX (b:=b) S;have SQ:0<S.length:=uz.2 aS;have aq:(q' b S).length≤6:=sH (tH _ _) (by rw [GN];omega);have fQ:ix (rI b S).2 0=ix b.2 S[0]:=Ow (i:=0) SQ;obtain ⟨l,ad,af,aG⟩:=ajL (t:=rI b S) (aiG p1 cm) (by omega) (by omega) fun i hi=>by
  by_cases WY:i<S.length
  ·refine ⟨(ix b.2 S[i]).1,.inl (by rw [Ow WY]),?_⟩;rw [fQ];exact YG (ao _ (sD _) _ (sD WY) _ _ (.inl rfl) (.inl rfl))
  ·have hm:=aiH (b:=b) (S:=S) (by omega) hi;refine ⟨(ix (rI b S).2 (i:Int)).1,.inl rfl,?_⟩;have Jb:=(MD.1 (YX _ _ hm).1).2
   have:¬ ∀ x∈S,¬ qD b x (ix (rI b S).2 (i:Int)).1:=fun aN=>by
    rw [RE.2 aN] at Jb;simp at Jb
   have:∃ x∈S,qD b x (ix (rI b S).2 (i:Int)).1:=Classical.byContradiction fun aN=>this fun x al aQ=>aN ⟨x,al,aQ⟩
   obtain ⟨x,al,aQ⟩:=this;rw [fQ];exact YG (ao _ (sD SQ) x al _ _ (.inl rfl) aQ)
 exact ⟨l,_,ad,af,aG⟩
theorem q4.adi {S:List Int} {out:List (List Int)} (h:q4 b S out) {r:List Int} (aj:r∈out):∀ x∈r,∀ y∈r,∀ f g,qD b x f→qD b y g→q9 b r f g:=by
 intro x al y a0 f g aQ aO;have ao:=h.HP r aj x al y a0 f g aQ aO;clear aO
 induction ao with
 | refl=>exact .refl
 | step i Cp hi aB aH a_=>exact .step i a_ (h.closed aj al aQ Cp i hi aB) aB aH
end
end Go.Proofs.YtfakoboiahbhaaaGreat.Ab


namespace Go.Proofs.YtfakoboiahbhaaaGreat.Ab
open Go
def rG (S:List Int):Row→Row→List Row
 | own,[]=>if 0<own.length then [own] else []
 | own,p::r=>if p.1<(S.length:Int) then rG S (own++[(ix S p.1,p.2)]) r else own::rG S [] r
section
variable {b:p3} {S:List Int}
theorem Yk:∀ (m l:Row) (own:Row),(∀ p∈m,p.1<(S.length:Int))→rG S own (m++l)=rG S (own++m.map fun p=>(ix S p.1,p.2)) l
 | [],l,own,_=>by simp
 | p::m,l,own,h=>by
   rw [uX,rG,if_pos (h p (by simp)),Yk m l _ fun q a3=>h q (by simp [a3])];simp
theorem acF {p:Int×Int} (ad:0≤p.1) (af:p.1<(S.length:Int)):qo (rI b S) p=qo b (ix S p.1,p.2)∧fin (rI b S) p=fin b (ix S p.1,p.2):=by
 obtain ⟨i,hi⟩:∃ i:Nat,p.1=(i:Int):=⟨p.1.toNat,by omega⟩;unfold qo fin;rw [hi,Ow (by omega),qW (by omega)];exact ⟨rfl,rfl⟩
theorem Qk (cm:rr b S):∀ (l own:Row),(∀ p∈own,rP b p)→(∀ p∈l,rP (rI b S) p)→∀ r∈rG S own l,∀ p∈r,rP b p
 | [],own,ad,_=>by
   rw [rG];split
   ·intro r aj;rw [sK.1 aj];exact ad
   ·intro r aj;simp at aj
 | q::l,own,ad,af=>by
   rw [rG];have a3:=af q (by simp);split
   ·rename_i aU;refine Qk cm l _ (fun p aC=>?_) fun p aC=>af p (by simp [aC]);rcases sN.1 aC with aC | aC
    ·exact ad p aC
    ·rw [sK.1 aC];have hm:ix S q.1∈S:=by
      obtain ⟨i,hi⟩:∃ i:Nat,q.1=(i:Int):=⟨q.1.toNat,by have:=a3.1;omega⟩;rw [hi,qW (by omega)];exact sD _
     exact ⟨(cm _ hm).1,(cm _ hm).2,a3.2.2.1,a3.2.2.2⟩
   ·intro r aj;rcases sj.1 aj with rfl | aj
    ·exact ad
    ·exact Qk cm l [] (fun p aC=>absurd aC (by simp)) (fun p aC=>af p (by simp [aC])) r aj
theorem Qj:∀ (l own:Row) (jl a e:Int),qm b jl own=some a→qm (rI b S) a l=some e→(∀ p∈l,rP (rI b S) p)→∀ r∈rG S own l,∃ a c,qm b a r=some c
 | [],own,jl,a,e,ad,_,_=>by
   rw [rG];split
   ·intro r aj;rw [sK.1 aj];exact ⟨_,_,ad⟩
   ·intro r aj;simp at aj
 | q::l,own,jl,a,e,ad,af,aG=>by
   rw [rG];obtain ⟨cb,b8⟩:=Ii.1 af;have a3:=aG q (by simp);split
   ·rename_i aU;obtain ⟨bo,cI⟩:=acF (b:=b) a3.1 aU;refine Qj l _ jl (fin (rI b S) q) e ?_ b8 fun p aC=>aG p (by simp [aC]);rw [IA,ad,r_];exact JE.2 ⟨by rw [←bo];exact cb,cI.symm⟩
   ·intro r aj;rcases sj.1 aj with rfl | aj
    ·exact ⟨_,_,ad⟩
    ·exact Qj l [] _ _ e rfl b8 (fun p aC=>aG p (by simp [aC])) r aj
def GO (S:List Int) (p:Int×Int):Bool:=decide (p.1<(S.length:Int))
theorem Qi:∀ (l own:Row),(rG S own l).flatten.map (·.1)=own.map (·.1)++(l.filter (GO S)).map fun p=>ix S p.1
 | [],own=>by
   rw [rG];split
   ·simp
   ·have:own=[]:=tu.1 (by omega)
    simp [this]
 | q::l,own=>by
   rw [rG,tO];split
   ·rename_i h;have aX:GO S q=true:=decide_eq_true h;rw [Qi l,if_pos aX];simp
   ·rename_i h;(have aX:¬ GO S q=true:=by simpa [GO] using h);rw [tS,sZ,Qi l,if_neg aX];simp
theorem Uw {q:Int×Int} (a3:GO S q=false):∀ (m own:Row),(rG S own (m++[q])).length=(m.filter fun p=>!GO S p).length+1
 | [],own=>by
   have:¬ q.1<(S.length:Int):=by simpa [GO] using a3
   rw [ub,rG,if_neg this];simp [rG]
 | p::m,own=>by
   rw [uX,rG,tO];split
   ·rename_i h;have aX:GO S p=true:=decide_eq_true h;rw [Uw a3 m,aX];simp
   ·rename_i h;(have aX:GO S p=false:=by simpa [GO] using h);rw [sL,Uw a3 m,aX];simp
theorem Tl {α:Type} (p:α→Bool):∀ (l:List α) (i:Nat),(posOf p l i=-1∧∀ x∈l,p x=false)∨∃ dJ q kI,l=dJ++q::kI∧p q=true∧posOf p l i=((i+dJ.length:Nat):Int)
 | [],i=>.inl ⟨rfl,fun x al=>by simp at al⟩
 | x::l,i=>by
   rw [posOf];by_cases h:p x=true
   ·rw [if_pos h];exact .inr ⟨[],x,l,rfl,h,rfl⟩
   ·rw [if_neg h];rcases Tl p l (i+1) with ⟨ad,af⟩ | ⟨dJ,q,kI,rfl,af,aG⟩
    ·refine .inl ⟨ad,fun y a0=>?_⟩;rcases sj.1 a0 with rfl | a0
     ·simpa using h
     ·exact af y a0
    ·refine .inr ⟨x::dJ,q,kI,rfl,af,?_⟩;rw [aG,sL];congr 1;omega
theorem Full.perm {t:p3} {l l':Row} (h:Full t l) (aC:l'.Perm l):Full t l' :=
 ⟨fun p N6=>h.ok p (aC.mem_iff.1 N6),(aC.map _).nodup_iff.2 h.rV,fun i hi=>(aC.map (·.1)).mem_iff.2 (h.all i hi)⟩
theorem Full.upto {t:p3} {l:Row} (h:Full t l):(l.map (·.1)).Perm (upto t.2.length):=by
 refine (uR h.rV (Jk _)).2 fun x=>?_;rw [G3];constructor
 ·intro al;obtain ⟨p,aC,rfl⟩:=sm.1 al;have:=h.ok p aC;exact ⟨this.1,this.2.1⟩
 ·rintro ⟨ad,af⟩;obtain ⟨i,rfl⟩:∃ i:Nat,x=(i:Int):=⟨x.toNat,by omega⟩;exact h.all i (by omega)
theorem Full.own {l:Row} (h:Full (rI b S) l):((l.filter (GO S)).map fun p=>ix S p.1).Perm S:=by
 have ad:((l.filter (GO S)).map (·.1)).Perm (Ab.upto S.length):=by
  refine (uR ((List.filter_sublist.map _).nodup h.rV) (Jk _)).2 fun x=>?_;rw [G3,sm];constructor
  ·rintro ⟨p,aC,rfl⟩;rw [sO] at aC;exact ⟨(h.ok p aC.1).1,by simpa [GO] using aC.2⟩
  ·rintro ⟨ad,af⟩;have hm:x∈l.map (·.1):=h.upto.mem_iff.2 (G3.2 ⟨ad,by rw [MX];omega⟩);obtain ⟨p,aC,rfl⟩:=sm.1 hm;exact ⟨p,sO.2 ⟨aC,decide_eq_true af⟩,rfl⟩
 have af:=ad.map (ix S);rw [Xr,tr] at af;exact af
theorem Wn {α:Type} (q:α→Bool):∀ l:List α,l.length=(l.filter q).length+(l.filter fun x=>!q x).length
 | []=>rfl
 | x::l=>by
   rw [tO,tO,sL,Wn q l];cases q x <;> simp <;> omega
theorem Full.threads {l:Row} (h:Full (rI b S) l):(l.filter fun p=>!GO S p).length=(q' b S).length / 2:=by
 have ad:=h.upto.length_eq;have af:=h.own.length_eq;rw [sV] at ad af;rw [GN,MX] at ad;have aG:=Wn (GO S) l;omega
def Jh (S:List Int) (l:Row):Row:=let c:=posOf (fun p=>!GO S p) l 0;if 0≤c then l.drop (c+1).toNat++l.take (c+1).toNat else l
theorem ahS (l:Row):(Jh S l=l∧∀ p∈l,GO S p=true)∨∃ dJ q kI,l=dJ++q::kI∧GO S q=false∧Jh S l=(kI++dJ)++[q]:=by
 unfold Jh;rcases Tl (fun p=>!GO S p) l 0 with ⟨ad,af⟩ | ⟨dJ,q,kI,rfl,af,aG⟩
 ·left;rw [ad];exact ⟨rfl,fun p aC=>by simpa using af p aC⟩
 ·right;refine ⟨dJ,q,kI,rfl,by simpa using af,?_⟩;rw [aG];simp only [sP];rw [if_pos (by omega),show ((dJ.length:Int)+1).toNat=dJ.length+1 by omega];have e:dJ++q::kI=(dJ++[q])++kI:=by simp
  rw [e,List.drop_left' (by simp),List.take_left' (by simp),sA]
structure Va (b:p3) (S:List Int) (R:List Row):Prop extends RowsOf b S R where
 ne:∀ r∈R,r≠[]
 len:R.length=max 1 ((q' b S).length / 2)
theorem XD (p1:qu b) (cm:rr b S) (aS:S≠[]) {l:Row} {a:Int} (bB:Full (rI b S) l) (aO:qm (rI b S) a l=some a):Va b S (rG S [] (Jh S l)):=by
 have SQ:0<S.length:=uz.2 aS;have SR:=bB.threads;have lS:=Tc p1 cm;rcases ahS (S:=S) l with ⟨ad,af⟩ | ⟨dJ,q,kI,rfl,af,aG⟩
 ·rw [ad];have jw:RowsOf b S (rG S [] l):=⟨Qk cm l [] (fun p aC=>absurd aC (by simp)) bB.ok,Qj l [] a a a rfl aO bB.ok,by rw [Qi];simpa using bB.own⟩;have e:(l.filter fun p=>!GO S p)=[]:=List.filter_eq_nil_iff.2 fun p aC=>by simp [af p aC]
  rw [e] at SR;simp only [uK] at SR;have ak:0<l.length:=by
   have:=bB.upto.length_eq;rw [sV,GN,MX] at this;omega
  have ai:rG S [] l=[l.map fun p=>(ix S p.1,p.2)]:=by
   have:=Yk (S:=S) l [] [] fun p aC=>of_decide_eq_true (af p aC);rw [sU,ub] at this;rw [this,rG,if_pos (by simpa using ak)]
  refine ⟨jw,fun r aj=>?_,?_⟩
  ·rw [ai] at aj;rw [sK.1 aj];intro e;have:=congrArg List.length e;simp at this;rw [this] at ak;simp at ak
  ·rw [ai,←SR];rfl
 ·rw [aG];have Ic:(kI++dJ++[q]).Perm (dJ++q::kI):=by
   rw [show dJ++q::kI=(dJ++[q])++kI by simp,sA];exact wg
  have Py:=bB.perm Ic;have SL:∃ aM,qm (rI b S) aM (kI++dJ++[q])=some aM:=by
   rw [show dJ++q::kI=(dJ++[q])++kI by simp,IA] at aO;obtain ⟨c,cb,b8⟩:=qa aO;refine ⟨c,?_⟩;rw [sA,IA,b8];exact cb
  obtain ⟨aM,SL⟩:=SL;have jw:RowsOf b S (rG S [] (kI++dJ++[q])):=⟨Qk cm _ [] (fun p aC=>absurd aC (by simp)) Py.ok,Qj _ [] aM aM aM rfl SL Py.ok,by rw [Qi];simpa using Py.own⟩;have ae6:=Py.threads;rw [uP,su] at ae6;have aeZ:([q].filter fun p=>!GO S p).length=1:=by simp [af]
  have hlen:=Uw af (kI++dJ) [];have SJ:=jw.few;have hle:=tH (fun r:Row=>!r.isEmpty) (rG S [] (kI++dJ++[q]));refine ⟨jw,fun r aj=>?_,by omega⟩;have heq:((rG S [] (kI++dJ++[q])).filter fun r=>!r.isEmpty).length=(rG S [] (kI++dJ++[q])).length:=by omega
  have:=List.length_filter_eq_length_iff.1 heq r aj;intro e;rw [e] at this;simp at this
end
end Go.Proofs.YtfakoboiahbhaaaGreat.Ab


namespace Go.Proofs.YtfakoboiahbhaaaGreat.Ab
open Go
set_option maxRecDepth 20000
set_option maxHeartbeats 4000000
theorem Rel.S6 {J:List Nat} {S:Nat→Nat→Prop} {w:World} {cells:List I} {v:Value} (h:Rel J S w (.bU cells) v):Rel J S w (.bU (cells.map I.gR)) v:=by
 cases h with
 | bU _ b o f k eL =>
   refine .bU _ b o f (fun j u aw=>?_) (fun j u aw=>?_)
   ·rw [sr] at aw;simp only [rZ] at aw;obtain ⟨x,al,rfl⟩:=aw;obtain ⟨aB,aH,aR,bj⟩:=k j x al;exact ⟨aB,aH,yf aR,bj⟩
   ·rw [sr] at aw;simp only [rZ] at aw;obtain ⟨x,al,rfl⟩:=aw;exact (eL j x al).gR
theorem lg.S6 {P:Program} {k:FuncId} {cs:List I} {v:I} (h:lg P k [.bU (cs.map I.gR)] v):lg P k [.bU cs] v :=
 ⟨⟨h.1.1,h.1.2.1,fun B U J S w vs ah aN ae=>h.1.2.2 B U J S w vs ah aN ⟨by simpa using ae.len,fun i u x hu al=>by
   cases i with
   | zero =>
     obtain rfl:=Option.some.inj hu;exact (ae.rel 0 _ x rfl al).S6
   | succ i=>simp at hu,fun i u x hu al=>by
   cases i with
   | zero=>obtain rfl:=Option.some.inj hu;exact aV.b3 rfl
   | succ i=>simp at hu⟩⟩,h.2⟩
theorem call7 {P:Program} {k:FuncId} {H:List au} {lo id:Nat} {l cs:List I} {v:I} (bD:lo≤id) (ah:H[id]?=some (.cells l)) (ao:l.map I.view=cs) (aC:cq 8 (.bU cs)=true) {ds:List I} (aZ:cs.map I.gR=ds) (h:lg P k [.bU ds] v):om P 7 lo (.fn k) [.ptr id 0] H v.cr (H.set id .dead):=by
 have h:lg P k [.bU cs] v:=lg.S6 (by rw [aZ];exact h);refine ⟨_,D2 (Yc (by simp [aC]) h []),?_⟩;simp only [eS,bD,if_true,ah,ao,aC];show ((kP (.fn k) [.bU cs] [] 0 v []) (.fn k) [.bU cs] [] 0).bind _=_;rw [D1,r_];show (bJ [] 0 0 0 8 v).map _=_;rw [oR h.2];rfl
theorem adQ:((List.range 24).all fun n=>match Qc [] 129 [.ay [] 0 .full,.int .i64 ((n+1:Nat):Int)] with | some v=>HO 3 v (.ay [] 0 (.own 2)) | none=>false)=true:=by kernel_rfl
def UL (s:List (Int×Int)) (n:Int):Option (List (Int×Int)):=p5 (s=[]∧0<n∧n≤24) (some s)
theorem ajX {s v:List (Int×Int)} {n:Int} (h:UL s n=some v):qp 129 [.ay [] 0 .full,hP n] (.ay (v.flatMap pY) v.length (.own 2)):=by
 obtain ⟨⟨rfl,aS,ad⟩,h⟩:=qn h;obtain rfl:=Option.some.inj h;obtain ⟨k,rfl⟩:∃ k:Nat,n=((k+1:Nat):Int):=⟨n.toNat-1,by omega⟩;have:=sy.1 adQ k (sG.2 (by omega));split at this
 ·rename_i v ae;rw [Mp _ _ _ this] at ae;exact rX (l:=[]) (by simp) ae
 ·cases this

noncomputable def aau:ey :=
 Gz [gL 2 [.hG 0] .box,gL 3 [.iA (.bool false)] .iQ] (Gz [F6 4 2 0,Gl 5 4,Gl 6 1,Gk 7 6,F1 8 5 7 .geq,Gp 3 8] .ret)
theorem afD:zf Tryz.prog Vn 105=some (aau,9,[.tmp 3]):=by kernel_rfl
def Oz (p:(Int×Int)) (gO:p8):Option Bool :=
 some (decide ((gO.length:Int)≤p.1))
theorem UJ {p:(Int×Int)} {gO:p8} {v:Bool} (h:Oz p gO=some v):qp 105 [(.agg [(hP p.1),(hP p.2)]),(.bU [(.ay (gO.map hP) gO.length .shared)])] (B v):=by
 refine qN dH afD rfl rfl fun Q bl=>?_;have jw:qv [.tmp 3] Q (fun v=>(B v)) v:=fun T H bI=>bl _ T H bI;unfold Oz at h;unfold aau;conv=>whnf
 exact p7 h jw rfl rfl

noncomputable def QK:ey :=
 .loop (some (Ez false [0, 1, 2, 1, 5, 3, 24])) (Gz [gL 12 [.sl 11, .sl 10] (.bin .lss)] (.seq (.cond (.sl 12) .skip (.exit 0)) (.seq (.block 1 (Gz [gL 13 [.sl 9, .sl 11] (.pM 1), Gl 14 13, Gp 5 14] (Gz [Gp 15 3, Gp 16 5, Gk 17 16, F1 18 15 17 .add, Gp 3 18] (Gz [Gn 19 3, F0 20 19 0 .lss] (.cond (.sl 20) (Gs [gL 21 [.iA (.str (ByteArray.mk (Array.mk [108, 101, 110, 32, 111, 117, 116, 32, 111, 102, 32, 114, 97, 110, 103, 101])))] (.other (Oper.mk (some 21) (Op.makeInterface 9 (Operand.const (Value.string (ByteArray.mk (Array.mk [108, 101, 110, 32, 111, 117, 116, 32, 111, 102, 32, 114, 97, 110, 103, 101]))))) 20 "slices.go:496" (Array.mk []) none) 0), ⟨none, [.hJ 21], none, none, .other (Oper.mk none (Op.panic (Operand.tmp 21)) 0 "slices.go:496" (Array.mk [Edge.mk 0 Ground.data]) none) 0⟩]) .skip))))) (Gs [FZ 22 11 1, Gp 11 22]))))
noncomputable def QL:ey :=
 .loop (some (Ez false [6,1,18,3,8])) (Gz [gL 28 [.sl 27,.sl 26] (.bin .lss)] (.seq (.cond (.sl 28) .skip (.exit 2)) (.seq (.block 3 (Gz [gL 29 [.sl 25,.sl 27] (.pM 1),Gl 30 29,Gp 8 30] (Gs [Gp 31 6,Gp 32 8,gL 33 [.hG 31,.hG 32] (.app 2 16),Gp 6 33]))) (Gs [FZ 34 27 1,Gp 27 34]))))
noncomputable def aav:ey :=
 Gz [gL 2 [.iA (.ay [] 0 .full)] (.nil 2)] (Gz [Gm 3 0] (.seq (Gz [Gn 9 0,gL 10 [.sl 9] .pV,Gm 11 0] (.block 0 QK)) (Gz [Gp 23 3,gL 24 [.iA (.func 129 [] []),.iA (.ay [] 0 .full),.sl 23] (.call 0),Gp 6 24] (.seq (Gz [Gp 25 0,gL 26 [.sl 25] .pV,Gm 27 0] (.block 2 QL)) (Gz [Gp 35 6,Gp 2 35] .ret)))))
theorem afE:zf Tryz.prog O8 106=some (aav,36,[.tmp 2]):=by kernel_rfl
def KZ (slices:qx) (p9:Int→Option p_):Nat→Int→Int→Option p_
 | 0,_,_=>none
 | m+1,s1,s2 =>
   if (decide (s2<(slices.length:Int)))=true then
    p5 (0≤s2∧s2<(slices.length:Int)) <|
    if (decide ((w (s1+((ix slices s2).length:Int)))<(0:Int)))=true then
     none
    else
     KZ slices p9 m (w (s1+((ix slices s2).length:Int))) (w (s2+(1:Int)))
   else
    p9 s1
def K0 (slices:qx) (qq:p_→Option p_):Nat→p_→Int→Option p_
 | 0,_,_=>none
 | m+1,s3,Gy =>
   if (decide (Gy<(slices.length:Int)))=true then
    p5 (0≤Gy∧Gy<(slices.length:Int)) <|
    p5 ((s3.length+(ix slices Gy).length)*16≤140737488355328) <|
    K0 slices qq m (s3++(ix slices Gy)) (w (Gy+(1:Int)))
   else
    qq s3
def M1 (slices:qx):Option p_ :=
 KZ slices (fun xZ =>
   (UL [] xZ).bind fun r1 =>
   K0 slices (fun oi =>
     some oi) p6 r1 (0:Int)) p6 (0:Int) (0:Int)
theorem ajM {slices:qx} {p9:Int→Option p_} {s1:Int} {s2:Int} {v:p_} {Q:qY}   (q7:∀ (xZ:Int) (p4:List I),p9 xZ=some v→qI 36 [(0,(.ay (slices.map (qB pY)) slices.length .shared)),(3,(hP xZ))] p4→Q (.exit 0) p4 []) {T:List I} (bX:eQ (Ez false [0,1,2,1,5,3,24]) T=GG 36 [(0,(.ay (slices.map (qB pY)) slices.length .shared)),(3,(hP s1)),(9,(.ay (slices.map (qB pY)) slices.length .shared)),(10,(hP (slices.length:Int))),(11,(hP s2))]) (h:KZ slices p9 p6 s1 s2=some v) :
  dB Tryz.prog O8 106 0 none QK T [] Q:=by
 unfold QK;refine wp_loop bX ?_;refine .intro (fun m T H=>∃ (s1 s2:Int),T=GG 36 [(0,(.ay (slices.map (qB pY)) slices.length .shared)),(3,(hP s1)),(9,(.ay (slices.map (qB pY)) slices.length .shared)),(10,(hP (slices.length:Int))),(11,(hP s2))]∧H=[]∧KZ slices p9 m s1 s2=some v) p6 ⟨s1,s2,rfl,rfl,h⟩ ?_;clear h bX;rintro m T H ⟨s1,s2,rfl,rfl,h⟩;cases m
 ·exact qT h
 rename_i m;rw [KZ.eq_2] at h;conv=>whnf
 refine bs h (fun eT h=>?_) fun eT h=>?_
 ·rw [eT];conv=>whnf
  refine qj h id fun fj h=>?_;rw [rJ (qB pY) slices s2 fj];conv=>whnf
  refine bs h (fun qk h=>?_) fun qk h=>?_
  ·rw [qk];(conv=>whnf);exact qT h
  ·rw [qk];(conv=>whnf);exact ⟨m,sf m,(w (s1+((ix slices s2).length:Int))),(w (s2+(1:Int))),rfl,rfl,h⟩
 ·rw [eT];conv=>whnf
  exact q7 _ _ h ⟨rfl,rfl⟩
theorem ajN {slices:qx} {qq:p_→Option p_} {s3:p_} {Gy:Int} {v:p_} {Q:qY}   (Hk:∀ (oi:p_) (p4:List I),qq oi=some v→qI 36 [(6,(p2 oi (.own 2)))] p4→Q (.exit 2) p4 []) {T:List I} (bX:eQ (Ez false [6,1,18,3,8]) T=GG 36 [(6,(p2 s3 (.own 2))),(25,(.ay (slices.map (qB pY)) slices.length .shared)),(26,(hP (slices.length:Int))),(27,(hP Gy))]) (h:K0 slices qq p6 s3 Gy=some v) :
  dB Tryz.prog O8 106 0 none QL T [] Q:=by
 unfold QL;refine wp_loop bX ?_;refine .intro (fun m T H=>∃ (s3:p_) (Gy:Int),T=GG 36 [(6,(p2 s3 (.own 2))),(25,(.ay (slices.map (qB pY)) slices.length .shared)),(26,(hP (slices.length:Int))),(27,(hP Gy))]∧H=[]∧K0 slices qq m s3 Gy=some v) p6 ⟨s3,Gy,rfl,rfl,h⟩ ?_;clear h bX;rintro m T H ⟨s3,Gy,rfl,rfl,h⟩;cases m
 ·exact qT h
 rename_i m;rw [K0.eq_2] at h;conv=>whnf
 refine bs h (fun qC h=>?_) fun qC h=>?_
 ·rw [qC];conv=>whnf
  refine qj h id fun rk h=>?_;rw [rJ (qB pY) slices Gy rk];conv=>whnf
  obtain ⟨qM,h⟩:=qn h;refine ⟨by first | rfl | (simp;done) | exact G0 pY _ ql _,by have:=qM;omega,rfl,qM,?_⟩
  erw [VW pY s3 (ix slices Gy)];conv=>whnf
  exact ⟨m,sf m,(s3++(ix slices Gy)),(w (Gy+(1:Int))),rfl,rfl,h⟩
 ·rw [qC];conv=>whnf
  exact Hk _ _ h ⟨rfl,rfl⟩
theorem UK {slices:qx} {v:p_} (h:M1 slices=some v):qp 106 [(.ay (slices.map (qB pY)) slices.length .shared)] (.ay (v.flatMap pY) v.length .shared):=by
 refine qN dH afE rfl (qX (fun _=>(pZ rfl (pZ rfl rfl))) _ _ _) fun Q bl=>?_;have jw:qv [.tmp 2] Q (fun v=>(p2 v .shared)) v:=fun T H bI=>bl _ T H bI;unfold M1 at h;unfold aav;obtain ⟨Hd,qy⟩:∃ c,QK=c:=⟨_,rfl⟩;rw [qy];obtain ⟨I3,ru⟩:∃ c,QL=c:=⟨_,rfl⟩;rw [ru];conv=>whnf
 subst qy;refine ajM ?_ (by exact rfl) h;intro xZ p4 h qf;obtain ⟨qE,rfl⟩:=qf.ex;conv=>whnf
 obtain ⟨r1,qw,h⟩:=qa h;refine ⟨_,_,acQ (pZ rfl (pZ rfl rfl)) (ajX qw) _ _,?_⟩;conv=>whnf
 subst ru;refine ajN ?_ (by exact rfl) h;intro oi p4 h qf;obtain ⟨qE,rfl⟩:=qf.ex;conv=>whnf
 exact p7 h jw rfl rfl

noncomputable def Q_:ey :=
 .loop (some (Ez false [0,1,2,1,1,2,12,3,10,3,98])) (Gz [gL 35 [.sl 34,.sl 33] (.bin .lss)] (.seq (.cond (.sl 35) .skip (.exit 2)) (.seq (.block 3 (Gz [gL 36 [.sl 32,.sl 34] (.pM 1),Gl 37 36,Gp 8 37] (Gt [gL 38 [.sl 6] (.oP 0),F6 39 38 1,gL 40 [.hJ 39] .take,Gn 41 0,gL 42 [.hJ 41] .zB,F6 43 42 0,F6 44 43 1,Gl 45 44,Gp 46 8,Gh 47 45 46 2,gL 48 [.hJ 47] (.pT (.str 2)),gL 49 [.hJ 48] (.x' 1 2 [.int .i64 0,.int .i64 0] [0]),gL 50 [.hG 40,.hG 49] (.app 2 16),gL 51 [.sl 6] (.oP 0),F6 52 51 1,⟨none,[.hG 52,.hG 50],none,none,.st 1⟩]))) (Gs [FZ 53 34 1,Gp 34 53]))))
noncomputable def Nf:ey :=
 .loop (some (Ez false [0,1,2,1,1,2,2,2,8,3,111])) (.seq (Gz [Gn 57 10,FZ 58 57 1,Gn 59 9,Gk 60 59,F1 61 58 60 .lss] (.cond (.sl 61) .skip (.exit 4))) (.seq (.block 5 (Gt [gL 64 [.sl 6] (.oP 0),F6 65 64 1,gL 66 [.hJ 65] .take,Gn 67 9,Gn 68 10,Gh 69 67 68 1,Gl 70 69,Gn 71 9,Gn 72 10,FZ 73 72 1,Gh 74 71 73 1,Gl 75 74,gL 76 [.hJ 70,.hJ 75] (.build [.int .i64 0,.int .i64 0] [(0,1),(1,1)]),gL 77 [.hJ 76] (.x' 1 2 [.int .i64 0,.int .i64 0] [0]),gL 78 [.hG 66,.hG 77] (.app 2 16),gL 79 [.sl 6] (.oP 0),F6 80 79 1,⟨none,[.hG 80,.hG 78],none,none,.st 1⟩])) (Gs [Gp 62 10,FZ 63 62 2,Gp 10 63])))
noncomputable def Q':ey :=
 .loop (some (Ez false [0,1,2,1,1,1,7,1,5,3,75,3,33])) (Gz [gL 100 [.sl 99,.sl 98] (.bin .lss)] (.seq (.cond (.sl 100) .skip (.exit 6)) (.seq (.block 7 (Gz [gL 101 [.sl 97,.sl 99] (.pM 2),gL 102 [.hJ 101] (.pT (.str 2)),gL 15 [] (.alloc [.int .i64 0,.int .i64 0]),⟨none,[.sl 15,.hG 102],none,none,.st 2⟩] (.seq (Gz [gL 103 [.sl 15] (.oP 0),Gl 104 103,gL 105 [.sl 5] (.pT .one),Gk 106 105,F1 107 104 106 .lss] (.cond (.sl 107) (.seq (Gt [Gp 108 13,gL 109 [.sl 5] (.pT .one),gL 110 [.sl 15] (.oP 0),Gl 111 110,Gh 112 109 111 1,Gl 113 112,gL 114 [.sl 15] (.oP 1),Gl 115 114,gL 116 [.hJ 113,.hJ 115] (.build [.int .i64 0,.int .i64 0] [(0,1),(1,1)]),gL 117 [.hJ 116] (.x' 1 2 [.int .i64 0,.int .i64 0] [0]),gL 118 [.hG 108,.hG 117] (.app 2 16),Gp 13 118]) (.exit 7)) .skip)) (Gs [Gp 119 3,Gp 120 13,gL 121 [.hJ 120] (.x' 1 1 [.ay [] 0 .full] [0]),gL 122 [.hG 119,.hG 121] (.app 1 24),Gp 3 122,gL 13 [.iA (.ay [] 0 .full)] (.nil 2)])))) (Gs [FZ 123 99 1,Gp 99 123]))))
noncomputable def Ra:ey :=
 Gz [gL 13 [.iA (.ay [] 0 .full)] (.nil 2)] (.seq (Gz [Gp 97 11,gL 98 [.sl 97] .pV,Gm 99 0] (.block 6 Q')) (Gz [Gn 124 13,Gk 125 124,F0 126 125 0 .gtr] (.cond (.sl 126) (Gs [Gp 127 3,Gp 128 13,gL 129 [.hJ 128] (.x' 1 1 [.ay [] 0 .full] [0]),gL 130 [.hG 127,.hG 129] (.app 1 24),Gp 3 130]) .skip)))
noncomputable def Rb:ey :=
 .loop (some (Ez false [0,1,2,1,15,3,111])) (Gz [gL 22 [.sl 21,.sl 20] (.bin .lss)] (.seq (.cond (.sl 22) .skip (.exit 0)) (.seq (.block 1 (Gz [gL 23 [.sl 19,.sl 21] (.pM 1),Gl 24 23,gL 5 [] (.alloc [.ay [] 0 .full]),⟨none,[.sl 5,.hG 24],none,none,.st 1⟩] (Gz [Gn 25 0,gL 26 [.hJ 25] .zB,F6 27 26 0,F6 28 27 0,Gl 29 28,gL 30 [.hJ 29] (.build [.int .i64 0,.ay [] 0 .full] [(0,1)]),gL 31 [.hJ 30] (.build [.int .i64 0,.ay [] 0 .full] [(0,2)]),gL 6 [] (.alloc [.int .i64 0,.ay [] 0 .full]),⟨none,[.sl 6,.hG 31],none,none,.st 2⟩] (.seq (Gz [gL 32 [.sl 5] (.pT .one),gL 33 [.sl 32] .pV,Gm 34 0] (.block 2 Q_)) (Gz [Gn 54 0,gL 55 [.sl 5] (.pT .one),gL 56 [.iA (.func 76 [] []),.sl 54,.sl 55] (.call 3),Gp 9 56] (.seq (Gz [Gm 10 0] (.block 4 Nf)) (Gz [gL 81 [.iA (.func 104 [] []),.sl 6] (.call 7),Gp 11 81] (.seq (Gz [Gn 82 11,gL 83 [.sl 5] (.zv 105 0 1),gL 84 [.iA (.func 94 [] []),.sl 82,.sl 83] (.call 6),Gp 12 84] (Gz [Gn 85 12,F0 86 85 0 .geq] (.cond (.sl 86) (Gt [Gn 87 11,Gn 88 12,FZ 89 88 1,gL 90 [.hG 87,.hG 89] (.AX 2 true false false),Gn 91 11,Gn 92 12,FZ 93 92 1,gL 94 [.hG 91,.hG 93] (.AX 2 false true false),gL 95 [.hJ 90,.hJ 94] (.x' 2 1 [.ay [] 0 .full] [0,1]),gL 96 [.iA (.func 106 [] []),.sl 95] (.call 3),Gp 11 96]) .skip))) Ra)))))))) (Gs [FZ 131 21 1,Gp 21 131]))))
noncomputable def aa5:ey :=
 Gz [gL 2 [.iA (.ay [] 0 .full)] (.nil 1)] (Gz [gL 3 [.iA (.ay [] 0 .full)] (.nil 1)] (.seq (Gz [Gn 16 0,Gn 17 0,gL 18 [.iA (.func 77 [] []),.sl 17] (.call 3),gL 19 [.iA (.func 79 [] []),.sl 16,.sl 18] (.call 3),gL 20 [.sl 19] .pV,Gm 21 0] (.block 0 Rb)) (Gz [Gp 132 3,Gp 2 132] .ret)))
theorem agd:zf Tryz.prog JY 83=some (aa5,133,[.tmp 2]):=by kernel_rfl
def Md (t:qb) (r2:rB) (s2:Int) (qq:p_→Option qx):Nat→Int→p_→Option qx
 | 0,_,_=>none
 | m+1,s3,Gy =>
   if (decide (s3<((ix r2 s2).length:Int)))=true then
    p5 (0≤s3∧s3<((ix r2 s2).length:Int)) <|
    p5 (0≤(ix (ix r2 s2) s3)∧(ix (ix r2 s2) s3)<(t.2.length:Int)) <|
    p5 ((Gy.length+1)*16≤140737488355328) <|
    Md t r2 s2 qq m (w (s3+(1:Int))) (Gy++[(ix t.2 (ix (ix r2 s2) s3))])
   else
    qq Gy
def IZ (r3:p8) (q2:p_→Option qx):Nat→Int→p_→Option qx
 | 0,_,_=>none
 | m+1,qe,qi =>
   if (decide ((w (qe+(1:Int)))<(r3.length:Int)))=true then
    p5 (0≤qe∧qe<(r3.length:Int)) <|
    p5 (0≤(w (qe+(1:Int)))∧(w (qe+(1:Int)))<(r3.length:Int)) <|
    p5 ((qi.length+1)*16≤140737488355328) <|
    IZ r3 q2 m (w (qe+(2:Int))) (qi++[((ix r3 qe),(ix r3 (w (qe+(1:Int)))))])
   else
    q2 qi
def Ld (r2:rB) (s2:Int) (dr:p_) (LF:qx→p_→Option qx):Nat→qx→p_→Int→Option qx
 | 0,_,_,_=>none
 | m+1,Hr,Hv,rD =>
   if (decide (rD<(dr.length:Int)))=true then
    p5 (0≤rD∧rD<(dr.length:Int)) <|
    if (decide ((ix dr rD).1<((ix r2 s2).length:Int)))=true then
     p5 (0≤(ix dr rD).1∧(ix dr rD).1<((ix r2 s2).length:Int)) <|
     p5 ((Hv.length+1)*16≤140737488355328) <|
     Ld r2 s2 dr LF m Hr (Hv++[((ix (ix r2 s2) ((ix dr rD).1)),(ix dr rD).2)]) (w (rD+(1:Int)))
    else
     p5 ((Hr.length+1)*24≤140737488355328) <|
     Ld r2 s2 dr LF m (Hr++[Hv]) [] (w (rD+(1:Int)))
   else
    LF Hr Hv
def Lc (r2:rB) (s1:qx) (s2:Int) (Oa:qx→Option qx) (dr:p_):Option qx :=
 Ld r2 s2 dr (fun xZ oi =>
   if (decide ((0:Int)<(oi.length:Int)))=true then
    p5 ((xZ.length+1)*24≤140737488355328) <|
    Oa (xZ++[oi])
   else
    Oa xZ) p6 s1 ([]:List (Int×Int)) (0:Int)
def H4 (t:qb) (r2:rB) (p9:qx→Option qx):Nat→qx→Int→Option qx
 | 0,_,_=>none
 | m+1,s1,s2 =>
   if (decide (s2<(r2.length:Int)))=true then
    p5 (0≤s2∧s2<(r2.length:Int)) <|
    Md t r2 s2 (fun xZ =>
      (Lb t (ix r2 s2)).bind fun r3 =>
      IZ r3 (fun xZ =>
        (LR (t.1,xZ)).bind fun r4 =>
        (Le r4 (fun qF=>Oz qF (ix r2 s2))).bind fun q8 =>
        if (decide ((0:Int)≤q8))=true then
         p5 (0≤(w (q8+(1:Int)))∧(w (q8+(1:Int)))≤(r4.length:Int)) <|
         p5 (0≤(w (q8+(1:Int)))∧(w (q8+(1:Int)))≤(r4.length:Int)) <|
         (M1 [(r4.drop (w (q8+(1:Int))).toNat),(r4.take (w (q8+(1:Int))).toNat)]).bind fun Hu =>
         Lc r2 s1 s2 (fun FW =>
           H4 t r2 p9 m FW (w (s2+(1:Int)))) Hu
        else
         Lc r2 s1 s2 (fun FW =>
           H4 t r2 p9 m FW (w (s2+(1:Int)))) r4) p6 (0:Int) xZ) p6 (0:Int) ([]:List (Int×Int))
   else
    p9 s1
def JP (t:qb):Option qx :=
 (M' t).bind fun r1 =>
 (JN t r1).bind fun r2 =>
 H4 t r2 (fun Lf =>
   some Lf) p6 ([]:List p_) (0:Int)
theorem akP {t:qb} {r2:rB} {s2:Int} {qq:p_→Option qx} {s3:Int} {Gy:p_} {s1:qx} {v:qx} {Q:qY}  {qR:List au} {GL:il} (Hk:∀ (xZ:p_) (p4:List I),qq xZ=some v→qI 133 [(0,(.bU [(hP t.1),(p2 t.2 .shared)])),(3,(.ay (s1.map (qB pY)) s1.length (.uniq 1))),(5,(.ptr (qR).length 0)),(6,(.ptr ((qR)++[au.cells [(qg (ix r2 s2) .shared)]]).length 0)),(19,(.ay (r2.map jh) r2.length .shared)),(20,(hP (r2.length:Int))),(21,(hP s2))] p4→Q (.exit 2) p4 (((qR)++[au.cells [(qg (ix r2 s2) .shared)]])++[au.cells [(hP t.1),(p2 xZ .full)]])) (aeG:∀ (xZ:p_) (p4:List I),qq xZ=some v→qI 133 [(0,(.bU [(hP t.1),(p2 t.2 .shared)])),(3,(.ay (s1.map (qB pY)) s1.length (.uniq 1))),(5,(.ptr (qR).length 0)),(6,(.ptr ((qR)++[au.cells [(qg (ix r2 s2) .shared)]]).length 0)),(19,(.ay (r2.map jh) r2.length .shared)),(20,(hP (r2.length:Int))),(21,(hP s2))] p4→Q (.exit 2) p4 (((qR)++[au.cells [(qg (ix r2 s2) .shared)]])++[au.cells [(hP t.1),(p2 xZ (.own 2))]])) (IM:(GL=il.full∨GL=(.own 2))) {T:List I} (bX:eQ (Ez false [0,1,2,1,1,2,12,3,10,3,98]) T=GG 133 [(0,(.bU [(hP t.1),(p2 t.2 .shared)])),(3,(.ay (s1.map (qB pY)) s1.length (.uniq 1))),(5,(.ptr (qR).length 0)),(6,(.ptr ((qR)++[au.cells [(qg (ix r2 s2) .shared)]]).length 0)),(19,(.ay (r2.map jh) r2.length .shared)),(20,(hP (r2.length:Int))),(21,(hP s2)),(32,(qg (ix r2 s2) .shared)),(33,(hP ((ix r2 s2).length:Int))),(34,(hP s3))]) (h:Md t r2 s2 qq p6 s3 Gy=some v) :
  dB Tryz.prog JY 83 0 none Q_ T (((qR)++[au.cells [(qg (ix r2 s2) .shared)]])++[au.cells [(hP t.1),(.ay (Gy.flatMap pY) Gy.length GL)]]) Q:=by
 unfold Q_;refine wp_loop bX ?_;refine .intro (fun m T H=>∃ (s3:Int) (Gy:p_) (GL:il),(GL=il.full∨GL=(.own 2))∧T=GG 133 [(0,(.bU [(hP t.1),(p2 t.2 .shared)])),(3,(.ay (s1.map (qB pY)) s1.length (.uniq 1))),(5,(.ptr (qR).length 0)),(6,(.ptr ((qR)++[au.cells [(qg (ix r2 s2) .shared)]]).length 0)),(19,(.ay (r2.map jh) r2.length .shared)),(20,(hP (r2.length:Int))),(21,(hP s2)),(32,(qg (ix r2 s2) .shared)),(33,(hP ((ix r2 s2).length:Int))),(34,(hP s3))]∧H=(((qR)++[au.cells [(qg (ix r2 s2) .shared)]])++[au.cells [(hP t.1),(.ay (Gy.flatMap pY) Gy.length GL)]])∧Md t r2 s2 qq m s3 Gy=some v) p6 ⟨s3,Gy,_,IM,rfl,rfl,h⟩ ?_;clear h bX;rintro m T H ⟨s3,Gy,GL,IM,rfl,rfl,h⟩;cases m
 ·exact qT h
 rename_i m;rw [Md.eq_2] at h;rcases IM with rfl | rfl
 ·conv=>whnf
  refine bs h (fun qC h=>?_) fun qC h=>?_
  ·rw [qC];(conv=>whnf);refine qj h id fun rk h=>?_;rw [rJ hP (ix r2 s2) s3 rk];(conv=>whnf);refine DW (x:=au.cells [(hP t.1),(p2 Gy .full)]) (by first | exact qh.h | rfl | (simp [sb,I.settle];done)) ?_
   (conv=>whnf);refine qj h id fun qM h=>?_;rw [qU pY 2 ql t.2 (ix (ix r2 s2) s3) qM];(conv=>whnf);obtain ⟨qP,h⟩:=qn h;refine ⟨by first | rfl | (simp;done) | exact G0 pY _ ql _,by have:=qP;omega,by decide,qP,by first | rfl | (simp;done) | exact G0 pY _ ql _,?_⟩
   erw [Hz pY Gy (ix t.2 (ix (ix r2 s2) s3))];(conv=>whnf);refine DW (x:=au.cells [(hP t.1),(p2 Gy .full)]) (by first | exact qh.h | rfl | (simp [sb,I.settle];done)) ?_
   (conv=>whnf);rw [q5];exact ⟨m,sf m,(w (s3+(1:Int))),(Gy++[(ix t.2 (ix (ix r2 s2) s3))]),_,(.inr rfl),rfl,rfl,h⟩
  ·rw [qC];(conv=>whnf);exact Hk _ _ h ⟨rfl,rfl⟩
 ·conv=>whnf
  refine bs h (fun qC h=>?_) fun qC h=>?_
  ·rw [qC];(conv=>whnf);refine qj h id fun rk h=>?_;rw [rJ hP (ix r2 s2) s3 rk];(conv=>whnf);refine DW (x:=au.cells [(hP t.1),(p2 Gy (.own 2))]) (by first | exact qh.h | rfl | (simp [sb,I.settle];done)) ?_
   (conv=>whnf);rw [q5];refine qj h id fun qM h=>?_;rw [qU pY 2 ql t.2 (ix (ix r2 s2) s3) qM];(conv=>whnf);obtain ⟨qP,h⟩:=qn h;refine ⟨by first | rfl | (simp;done) | exact G0 pY _ ql _,by have:=qP;omega,rfl,qP,?_⟩
   erw [Hz pY Gy (ix t.2 (ix (ix r2 s2) s3))];(conv=>whnf);refine DW (x:=au.cells [(hP t.1),(p2 Gy .shared)]) (by first | exact qh.h | rfl | (simp [sb,I.settle];done)) ?_
   (conv=>whnf);rw [q5];exact ⟨m,sf m,(w (s3+(1:Int))),(Gy++[(ix t.2 (ix (ix r2 s2) s3))]),_,(.inr rfl),rfl,rfl,h⟩
  ·rw [qC];(conv=>whnf);exact aeG _ _ h ⟨rfl,rfl⟩
theorem akQ {r3:p8} {q2:p_→Option qx} {qe:Int} {qi:p_} {t:qb} {r2:rB} {s1:qx} {s2:Int} {v:qx} {Q:qY}  {qR:List au} {GL:il} (IP:∀ (xZ:p_) (p4:List I),q2 xZ=some v→qI 133 [(0,(.bU [(hP t.1),(p2 t.2 .shared)])),(3,(.ay (s1.map (qB pY)) s1.length (.uniq 1))),(5,(.ptr (qR).length 0)),(6,(.ptr ((qR)++[au.cells [(qg (ix r2 s2) .shared)]]).length 0)),(19,(.ay (r2.map jh) r2.length .shared)),(20,(hP (r2.length:Int))),(21,(hP s2))] p4→Q (.exit 4) p4 (((qR)++[au.cells [(qg (ix r2 s2) .shared)]])++[au.cells [(hP t.1),(p2 xZ .full)]])) (aeH:∀ (xZ:p_) (p4:List I),q2 xZ=some v→qI 133 [(0,(.bU [(hP t.1),(p2 t.2 .shared)])),(3,(.ay (s1.map (qB pY)) s1.length (.uniq 1))),(5,(.ptr (qR).length 0)),(6,(.ptr ((qR)++[au.cells [(qg (ix r2 s2) .shared)]]).length 0)),(19,(.ay (r2.map jh) r2.length .shared)),(20,(hP (r2.length:Int))),(21,(hP s2))] p4→Q (.exit 4) p4 (((qR)++[au.cells [(qg (ix r2 s2) .shared)]])++[au.cells [(hP t.1),(p2 xZ (.own 2))]])) (IM:(GL=il.full∨GL=(.own 2))) {T:List I} (bX:eQ (Ez false [0,1,2,1,1,2,2,2,8,3,111]) T=GG 133 [(0,(.bU [(hP t.1),(p2 t.2 .shared)])),(3,(.ay (s1.map (qB pY)) s1.length (.uniq 1))),(5,(.ptr (qR).length 0)),(6,(.ptr ((qR)++[au.cells [(qg (ix r2 s2) .shared)]]).length 0)),(9,(qg r3 .shared)),(10,(hP qe)),(19,(.ay (r2.map jh) r2.length .shared)),(20,(hP (r2.length:Int))),(21,(hP s2))]) (h:IZ r3 q2 p6 qe qi=some v) :
  dB Tryz.prog JY 83 0 none Nf T (((qR)++[au.cells [(qg (ix r2 s2) .shared)]])++[au.cells [(hP t.1),(.ay (qi.flatMap pY) qi.length GL)]]) Q:=by
 unfold Nf;refine wp_loop bX ?_;refine .intro (fun m T H=>∃ (qe:Int) (qi:p_) (GL:il),(GL=il.full∨GL=(.own 2))∧T=GG 133 [(0,(.bU [(hP t.1),(p2 t.2 .shared)])),(3,(.ay (s1.map (qB pY)) s1.length (.uniq 1))),(5,(.ptr (qR).length 0)),(6,(.ptr ((qR)++[au.cells [(qg (ix r2 s2) .shared)]]).length 0)),(9,(qg r3 .shared)),(10,(hP qe)),(19,(.ay (r2.map jh) r2.length .shared)),(20,(hP (r2.length:Int))),(21,(hP s2))]∧H=(((qR)++[au.cells [(qg (ix r2 s2) .shared)]])++[au.cells [(hP t.1),(.ay (qi.flatMap pY) qi.length GL)]])∧IZ r3 q2 m qe qi=some v) p6 ⟨qe,qi,_,IM,rfl,rfl,h⟩ ?_;clear h bX;rintro m T H ⟨qe,qi,GL,IM,rfl,rfl,h⟩;cases m
 ·exact qT h
 rename_i m;rw [IZ.eq_2] at h;rcases IM with rfl | rfl
 ·conv=>whnf
  refine bs h (fun qG h=>?_) fun qG h=>?_
  ·rw [qG];(conv=>whnf);refine DW (x:=au.cells [(hP t.1),(p2 qi .full)]) (by first | exact qh.h | rfl | (simp [sb,I.settle];done)) ?_
   (conv=>whnf);refine qj h id fun rE h=>?_;rw [rJ hP r3 qe rE];(conv=>whnf);refine qj h id fun rh h=>?_;rw [rJ hP r3 (w (qe+(1:Int))) rh];(conv=>whnf);obtain ⟨rm,h⟩:=qn h;refine ⟨by first | rfl | (simp;done) | exact G0 pY _ ql _,by have:=rm;omega,by decide,rm,by first | rfl | (simp;done) | exact G0 pY _ ql _,?_⟩
   erw [Hz pY qi ((ix r3 qe),(ix r3 (w (qe+(1:Int)))))];(conv=>whnf);refine DW (x:=au.cells [(hP t.1),(p2 qi .full)]) (by first | exact qh.h | rfl | (simp [sb,I.settle];done)) ?_
   (conv=>whnf);rw [q5];exact ⟨m,sf m,(w (qe+(2:Int))),(qi++[((ix r3 qe),(ix r3 (w (qe+(1:Int)))))]),_,(.inr rfl),rfl,rfl,h⟩
  ·rw [qG];(conv=>whnf);exact IP _ _ h ⟨rfl,rfl⟩
 ·conv=>whnf
  refine bs h (fun qG h=>?_) fun qG h=>?_
  ·rw [qG];(conv=>whnf);refine DW (x:=au.cells [(hP t.1),(p2 qi (.own 2))]) (by first | exact qh.h | rfl | (simp [sb,I.settle];done)) ?_
   (conv=>whnf);rw [q5];refine qj h id fun rE h=>?_;rw [rJ hP r3 qe rE];(conv=>whnf);refine qj h id fun rh h=>?_;rw [rJ hP r3 (w (qe+(1:Int))) rh];(conv=>whnf);obtain ⟨rm,h⟩:=qn h;refine ⟨by first | rfl | (simp;done) | exact G0 pY _ ql _,by have:=rm;omega,rfl,rm,?_⟩
   erw [Hz pY qi ((ix r3 qe),(ix r3 (w (qe+(1:Int)))))];(conv=>whnf);refine DW (x:=au.cells [(hP t.1),(p2 qi .shared)]) (by first | exact qh.h | rfl | (simp [sb,I.settle];done)) ?_
   (conv=>whnf);rw [q5];exact ⟨m,sf m,(w (qe+(2:Int))),(qi++[((ix r3 qe),(ix r3 (w (qe+(1:Int)))))]),_,(.inr rfl),rfl,rfl,h⟩
  ·rw [qG];(conv=>whnf);exact aeH _ _ h ⟨rfl,rfl⟩
theorem akS {r2:rB} {s2:Int} {dr:p_} {LF:qx→p_→Option qx} {Hr:qx} {Hv:p_} {rD:Int} {t:qb} {v:qx} {Q:qY} {bQ:au} {qR:List au} {Nq:List au} (aeI:∀ (xZ:qx) (oi:p_) (qs:List au) (p4:List I),LF xZ oi=some v→qI 133 [(0,(.bU [(hP t.1),(p2 t.2 .shared)])),(3,(.ay (xZ.map (qB pY)) xZ.length (.uniq 1))),(13,(p2 oi (.uniq 2))),(19,(.ay (r2.map jh) r2.length .shared)),(20,(hP (r2.length:Int))),(21,(hP s2))] p4→Q (.exit 6) p4 (qs)) {T:List I} (bX:eQ (Ez false [0,1,2,1,1,1,7,1,5,3,75,3,33]) T=GG 133 [(0,(.bU [(hP t.1),(p2 t.2 .shared)])),(3,(.ay (Hr.map (qB pY)) Hr.length (.uniq 1))),(5,(.ptr (qR).length 0)),(13,(p2 Hv (.uniq 2))),(19,(.ay (r2.map jh) r2.length .shared)),(20,(hP (r2.length:Int))),(21,(hP s2)),(97,(p2 dr .shared)),(98,(hP (dr.length:Int))),(99,(hP rD))]) (h:Ld r2 s2 dr LF p6 Hr Hv rD=some v) :
  dB Tryz.prog JY 83 0 none Q' T ((((qR)++[au.cells [(qg (ix r2 s2) .shared)]])++[bQ])++Nq) Q:=by
 unfold Q';refine wp_loop bX ?_;refine .intro (fun m T H=>∃ (Hr:qx) (Hv:p_) (rD:Int) (Nq:List au),T=GG 133 [(0,(.bU [(hP t.1),(p2 t.2 .shared)])),(3,(.ay (Hr.map (qB pY)) Hr.length (.uniq 1))),(5,(.ptr (qR).length 0)),(13,(p2 Hv (.uniq 2))),(19,(.ay (r2.map jh) r2.length .shared)),(20,(hP (r2.length:Int))),(21,(hP s2)),(97,(p2 dr .shared)),(98,(hP (dr.length:Int))),(99,(hP rD))]∧H=((((qR)++[au.cells [(qg (ix r2 s2) .shared)]])++[bQ])++Nq)∧Ld r2 s2 dr LF m Hr Hv rD=some v) p6 ⟨Hr,Hv,rD,Nq,rfl,rfl,h⟩ ?_;clear h bX;rintro m T H ⟨Hr,Hv,rD,Nq,rfl,rfl,h⟩;cases m
 ·exact qT h
 rename_i m;rw [Ld.eq_2] at h;conv=>whnf
 refine bs h (fun HU h=>?_) fun HU h=>?_
 ·rw [HU];conv=>whnf
  refine qj h id fun Lu h=>?_;rw [qU pY 2 ql dr rD Lu];conv=>whnf
  refine DW (x:=au.cells [(hP (0:Int)),(hP (0:Int))]) (by first | exact qh.h | rfl | (simp [sb,I.settle];done)) ?_
  conv=>whnf
  rw [q5];refine DW (x:=au.cells [(hP (ix dr rD).1),(hP (ix dr rD).2)]) (by first | exact qh.h | rfl | (simp [sb,I.settle];done)) ?_
  conv=>whnf
  refine DW (x:=au.cells [(qg (ix r2 s2) .shared)]) (by first | exact qh.h | rfl | (simp [sb,I.settle];done)) ?_
  conv=>whnf
  refine bs h (fun Jt h=>?_) fun Jt h=>?_
  ·rw [Jt];(conv=>whnf);refine DW (x:=au.cells [(qg (ix r2 s2) .shared)]) (by first | exact qh.h | rfl | (simp [sb,I.settle];done)) ?_
   (conv=>whnf);refine DW (x:=au.cells [(hP (ix dr rD).1),(hP (ix dr rD).2)]) (by first | exact qh.h | rfl | (simp [sb,I.settle];done)) ?_
   (conv=>whnf);refine qj h id fun Ia h=>?_;rw [rJ hP (ix r2 s2) ((ix dr rD).1) Ia];(conv=>whnf);refine DW (x:=au.cells [(hP (ix dr rD).1),(hP (ix dr rD).2)]) (by first | exact qh.h | rfl | (simp [sb,I.settle];done)) ?_
   (conv=>whnf);obtain ⟨I9,h⟩:=qn h;refine ⟨by first | rfl | (simp;done) | exact G0 pY _ ql _,by have:=I9;omega,rfl,I9,?_⟩
   erw [Hz pY Hv ((ix (ix r2 s2) ((ix dr rD).1)),(ix dr rD).2)];(conv=>whnf);exact ⟨m,sf m,Hr,(Hv++[((ix (ix r2 s2) ((ix dr rD).1)),(ix dr rD).2)]),(w (rD+(1:Int))),_,rfl,(VX _ _ _),h⟩
  ·rw [Jt];(conv=>whnf);obtain ⟨I_,h⟩:=qn h;refine ⟨by first | rfl | simp,by have:=I_;omega,rfl,I_,?_⟩
   erw [Lj (qB pY) Hr Hv];(conv=>whnf);exact ⟨m,sf m,(Hr++[Hv]),[],(w (rD+(1:Int))),_,rfl,(VX _ _ _),h⟩
 ·rw [HU];conv=>whnf
  exact aeI _ _ _ _ h ⟨rfl,rfl⟩
theorem Na {r2:rB} {s1:qx} {s2:Int} {Oa:qx→Option qx} {dr:p_} {t:qb} {v:qx} {Q:qY} {bQ:au} {p4:List I} {qR:List au} (W0:∀ (FW:qx) (qs:List au) (p4:List I),Oa FW=some v→qI 133 [(0,(.bU [(hP t.1),(p2 t.2 .shared)])),(3,(.ay (FW.map (qB pY)) FW.length (.uniq 1))),(19,(.ay (r2.map jh) r2.length .shared)),(20,(hP (r2.length:Int))),(21,(hP s2))] p4→Q .normal p4 (qs)) (qf:qI 133 [(0,(.bU [(hP t.1),(p2 t.2 .shared)])),(3,(.ay (s1.map (qB pY)) s1.length (.uniq 1))),(5,(.ptr (qR).length 0)),(11,(p2 dr .shared)),(19,(.ay (r2.map jh) r2.length .shared)),(20,(hP (r2.length:Int))),(21,(hP s2))] p4) (h:Lc r2 s1 s2 Oa dr=some v) :
  dB Tryz.prog JY 83 0 none Ra p4 (((qR)++[au.cells [(qg (ix r2 s2) .shared)]])++[bQ]) Q:=by
 obtain ⟨qE,rfl⟩:=qf.ex;unfold Lc at h;unfold Ra;obtain ⟨Nt,G'⟩:∃ c,Q'=c:=⟨_,rfl⟩;rw [G'];conv=>whnf
 subst G';refine ajI ?_;refine akS ?_ (by exact rfl) h;intro xZ oi qs p4 h qf;obtain ⟨qE,rfl⟩:=qf.ex;conv=>whnf
 refine bs h (fun Ib h=>?_) fun Ib h=>?_
 ·rw [Ib];conv=>whnf
  obtain ⟨J5,h⟩:=qn h;refine ⟨by first | rfl | simp,by have:=J5;omega,rfl,J5,?_⟩
  erw [Lj (qB pY) xZ oi];conv=>whnf
  exact W0 _ _ _ h ⟨rfl,rfl⟩
 ·rw [Ib];conv=>whnf
  exact W0 _ _ _ h ⟨rfl,rfl⟩
theorem akR {Hl:p8} {q2:p_→Option qx} {HX:Int} {IV:p_} {t:qb} {r2:rB} {s1:qx} {s2:Int} {v:qx} {Q:qY}  {qR:List au} (IP:∀ (Ng:p_) (p4:List I),q2 Ng=some v→qI 133 [(0,(.bU [(hP t.1),(p2 t.2 .shared)])),(3,(.ay (s1.map (qB pY)) s1.length (.uniq 1))),(5,(.ptr (qR).length 0)),(6,(.ptr ((qR)++[au.cells [(qg (ix r2 s2) .shared)]]).length 0)),(19,(.ay (r2.map jh) r2.length .shared)),(20,(hP (r2.length:Int))),(21,(hP s2))] p4→Q (.exit 4) p4 (((qR)++[au.cells [(qg (ix r2 s2) .shared)]])++[au.cells [(hP t.1),(p2 Ng (.own 2))]])) {T:List I} (bX:eQ (Ez false [0,1,2,1,1,2,2,2,8,3,111]) T=GG 133 [(0,(.bU [(hP t.1),(p2 t.2 .shared)])),(3,(.ay (s1.map (qB pY)) s1.length (.uniq 1))),(5,(.ptr (qR).length 0)),(6,(.ptr ((qR)++[au.cells [(qg (ix r2 s2) .shared)]]).length 0)),(9,(qg Hl .shared)),(10,(hP HX)),(19,(.ay (r2.map jh) r2.length .shared)),(20,(hP (r2.length:Int))),(21,(hP s2))]) (h:IZ Hl q2 p6 HX IV=some v) :
  dB Tryz.prog JY 83 0 none Nf T (((qR)++[au.cells [(qg (ix r2 s2) .shared)]])++[au.cells [(hP t.1),(p2 IV (.own 2))]]) Q:=by
 unfold Nf;refine wp_loop bX ?_;refine .intro (fun m T H=>∃ (HX:Int) (IV:p_),T=GG 133 [(0,(.bU [(hP t.1),(p2 t.2 .shared)])),(3,(.ay (s1.map (qB pY)) s1.length (.uniq 1))),(5,(.ptr (qR).length 0)),(6,(.ptr ((qR)++[au.cells [(qg (ix r2 s2) .shared)]]).length 0)),(9,(qg Hl .shared)),(10,(hP HX)),(19,(.ay (r2.map jh) r2.length .shared)),(20,(hP (r2.length:Int))),(21,(hP s2))]∧H=(((qR)++[au.cells [(qg (ix r2 s2) .shared)]])++[au.cells [(hP t.1),(p2 IV (.own 2))]])∧IZ Hl q2 m HX IV=some v) p6 ⟨HX,IV,rfl,rfl,h⟩ ?_;clear h bX;rintro m T H ⟨HX,IV,rfl,rfl,h⟩;cases m
 ·exact qT h
 rename_i m;rw [IZ.eq_2] at h;conv=>whnf
 refine bs h (fun Lv h=>?_) fun Lv h=>?_
 ·rw [Lv];conv=>whnf
  refine DW (x:=au.cells [(hP t.1),(p2 IV (.own 2))]) (by first | exact qh.h | rfl | (simp [sb,I.settle];done)) ?_
  conv=>whnf
  rw [q5];refine qj h id fun NW h=>?_;rw [rJ hP Hl HX NW];conv=>whnf
  refine qj h id fun Sf h=>?_;rw [rJ hP Hl (w (HX+(1:Int))) Sf];conv=>whnf
  obtain ⟨Mv,h⟩:=qn h;refine ⟨by first | rfl | (simp;done) | exact G0 pY _ ql _,by have:=Mv;omega,rfl,Mv,?_⟩
  erw [Hz pY IV ((ix Hl HX),(ix Hl (w (HX+(1:Int)))))];conv=>whnf
  refine DW (x:=au.cells [(hP t.1),(p2 IV .shared)]) (by first | exact qh.h | rfl | (simp [sb,I.settle];done)) ?_
  conv=>whnf
  rw [q5];exact ⟨m,sf m,(w (HX+(2:Int))),(IV++[((ix Hl HX),(ix Hl (w (HX+(1:Int)))))]),rfl,rfl,h⟩
 ·rw [Lv];conv=>whnf
  exact IP _ _ h ⟨rfl,rfl⟩
theorem akO {t:qb} {r2:rB} {p9:qx→Option qx} {s1:qx} {s2:Int} {v:qx} {Q:qY}   (q7:∀ (Lf:qx) (qs:List au) (p4:List I),p9 Lf=some v→qI 133 [(3,(.ay (Lf.map (qB pY)) Lf.length (.uniq 1)))] p4→Q (.exit 0) p4 (qs)) {T:List I} (bX:eQ (Ez false [0,1,2,1,15,3,111]) T=GG 133 [(0,(.bU [(hP t.1),(p2 t.2 .shared)])),(3,(.ay (s1.map (qB pY)) s1.length (.uniq 1))),(19,(.ay (r2.map jh) r2.length .shared)),(20,(hP (r2.length:Int))),(21,(hP s2))]) (h:H4 t r2 p9 p6 s1 s2=some v) :
  dB Tryz.prog JY 83 0 none Rb T [] Q:=by
 unfold Rb;obtain ⟨Hd,qy⟩:∃ c,Q_=c:=⟨_,rfl⟩;rw [qy];obtain ⟨I3,ru⟩:∃ c,Nf=c:=⟨_,rfl⟩;rw [ru];obtain ⟨Rz,Hg⟩:∃ c,Ra=c:=⟨_,rfl⟩;rw [Hg];refine wp_loop bX ?_;refine .intro (fun m T H=>∃ (s1:qx) (s2:Int) (qR:List au),T=GG 133 [(0,(.bU [(hP t.1),(p2 t.2 .shared)])),(3,(.ay (s1.map (qB pY)) s1.length (.uniq 1))),(19,(.ay (r2.map jh) r2.length .shared)),(20,(hP (r2.length:Int))),(21,(hP s2))]∧H=(qR)∧H4 t r2 p9 m s1 s2=some v) p6 ⟨s1,s2,[],rfl,rfl,h⟩ ?_;clear h bX;rintro m T H ⟨s1,s2,qR,rfl,rfl,h⟩;cases m
 ·exact qT h
 rename_i m;rw [H4.eq_2] at h;conv=>whnf
 refine bs h (fun qk h=>?_) fun qk h=>?_
 ·rw [qk];conv=>whnf
  refine qj h id fun qw h=>?_;rw [rJ jh r2 s2 qw];conv=>whnf
  refine DW (x:=au.cells [(.ay [] 0 .full)]) (by first | exact qh.h | rfl | (simp [sb,I.settle];done)) ?_
  conv=>whnf
  rw [q5];refine DW (x:=au.cells [(hP (0:Int)),(.ay [] 0 .full)]) (by first | exact qh.h | rfl | (simp [sb,I.settle];done)) ?_
  conv=>whnf
  rw [q5];refine DW (x:=au.cells [(qg (ix r2 s2) .shared)]) (by first | exact qh.h | rfl | (simp [sb,I.settle];done)) ?_
  conv=>whnf
  subst qy;refine akP ?_ ?_ (.inl rfl) (by exact rfl) h
  ·intro xZ p4 h qf;obtain ⟨qE,rfl⟩:=qf.ex;(conv=>whnf);refine DW (x:=au.cells [(qg (ix r2 s2) .shared)]) (by first | exact qh.h | rfl | (simp [sb,I.settle];done)) ?_
   (conv=>whnf);obtain ⟨r3,q3,h⟩:=qa h;refine ⟨qc.pl,_,UY q3,?_⟩;(conv=>whnf);subst ru;refine akQ ?_ ?_ (.inl rfl) (by exact rfl) h
   ·intro xZ p4 h qf;obtain ⟨qE,rfl⟩:=qf.ex;(conv=>whnf);obtain ⟨r4,rM,h⟩:=qa h;refine ⟨_,_,call7 (l:=[(hP t.1),(p2 xZ .full)]) (cs:=[(hP t.1),(p2 xZ .full)]) (sq _) (by first | exact qh.h | rfl | (simp [sb,I.settle];done)) rfl (ra (pZ rfl (pZ (qX (fun _=>(pZ rfl (pZ rfl rfl))) _ _ _) rfl))) (ds:=[(hP t.1),(p2 xZ .shared)]) rfl (UI rM),?_⟩
    rw [q5];(conv=>whnf);obtain ⟨q8,Iw,h⟩:=qa h;refine ⟨_,_,Is (cs:=[(p2 r4 .shared),(.func 105 [] [(.bU [(qg (ix r2 s2) .shared)])])]) (bs:=[(p2 r4 .shared),(.func 105 [] [(.bU [(qg (ix r2 s2) .shared)])])]) (rn rfl (rn (Kg rQ (rn (Ji (cs:=[(qg (ix r2 s2) .shared)]) (by first | exact qh.h | rfl | (simp [sb,I.settle];done)) rfl) rQ)) rQ)) (by rfl) (by exact (pZ (qX (fun _=>(pZ rfl (pZ rfl rfl))) _ _ _) (pZ (JB rfl (pZ (ra (pZ (rK (fun _=>rfl) _ _ _) rfl)) rfl)) rfl))) (QH ⟨(pZ (ra (pZ (rK (fun _=>rfl) _ _ _) rfl)) rfl),by simp⟩ (fun _ _ a0=>UJ a0) Iw) rfl,?_⟩
    (conv=>whnf);refine bs h (fun Ha h=>?_) fun Ha h=>?_
    ·rw [Ha];(conv=>whnf);refine qj h id fun HT h=>?_;erw [Uu pY 2 ql r4 (w (q8+(1:Int))) HT];(conv=>whnf);refine qj h id fun GU h=>?_;erw [MW pY 2 ql r4 (w (q8+(1:Int))) GU];(conv=>whnf);obtain ⟨Hu,Ix,h⟩:=qa h;refine ⟨(pZ (Tn (pZ (qX (fun _=>(pZ rfl (pZ rfl rfl))) _ _ _) (pZ (qX (fun _=>(pZ rfl (pZ rfl rfl))) _ _ _) rfl))) rfl),_,UK Ix,HM,?_⟩;(conv=>whnf);subst Hg;refine Na ?_ (by exact ⟨rfl,rfl⟩) h;intro FW qs p4 h qf;obtain ⟨qE,rfl⟩:=qf.ex;(conv=>whnf);exact ⟨m,sf m,FW,(w (s2+(1:Int))),_,rfl,rfl,h⟩
    ·rw [Ha];(conv=>whnf);subst Hg;refine Na ?_ (by exact ⟨rfl,rfl⟩) h;intro FW qs p4 h qf;obtain ⟨qE,rfl⟩:=qf.ex;(conv=>whnf);exact ⟨m,sf m,FW,(w (s2+(1:Int))),_,rfl,rfl,h⟩
   ·intro xZ p4 h qf;obtain ⟨qE,rfl⟩:=qf.ex;(conv=>whnf);obtain ⟨HH,NU,h⟩:=qa h;refine ⟨_,_,call7 (l:=[(hP t.1),(p2 xZ (.own 2))]) (cs:=[(hP t.1),(p2 xZ .shared)]) (sq _) (by first | exact qh.h | rfl | (simp [sb,I.settle];done)) rfl (ra (pZ rfl (pZ (qX (fun _=>(pZ rfl (pZ rfl rfl))) _ _ _) rfl))) (ds:=[(hP t.1),(p2 xZ .shared)]) rfl (UI NU),?_⟩
    rw [q5];(conv=>whnf);obtain ⟨JD,R7,h⟩:=qa h;refine ⟨_,_,Is (cs:=[(p2 HH .shared),(.func 105 [] [(.bU [(qg (ix r2 s2) .shared)])])]) (bs:=[(p2 HH .shared),(.func 105 [] [(.bU [(qg (ix r2 s2) .shared)])])]) (rn rfl (rn (Kg rQ (rn (Ji (cs:=[(qg (ix r2 s2) .shared)]) (by first | exact qh.h | rfl | (simp [sb,I.settle];done)) rfl) rQ)) rQ)) (by rfl) (by exact (pZ (qX (fun _=>(pZ rfl (pZ rfl rfl))) _ _ _) (pZ (JB rfl (pZ (ra (pZ (rK (fun _=>rfl) _ _ _) rfl)) rfl)) rfl))) (QH ⟨(pZ (ra (pZ (rK (fun _=>rfl) _ _ _) rfl)) rfl),by simp⟩ (fun _ _ a0=>UJ a0) R7) rfl,?_⟩
    (conv=>whnf);refine bs h (fun NV h=>?_) fun NV h=>?_
    ·rw [NV];(conv=>whnf);refine qj h id fun R8 h=>?_;erw [Uu pY 2 ql HH (w (JD+(1:Int))) R8];(conv=>whnf);refine qj h id fun R9 h=>?_;erw [MW pY 2 ql HH (w (JD+(1:Int))) R9];(conv=>whnf);obtain ⟨LK,R_,h⟩:=qa h;refine ⟨(pZ (Tn (pZ (qX (fun _=>(pZ rfl (pZ rfl rfl))) _ _ _) (pZ (qX (fun _=>(pZ rfl (pZ rfl rfl))) _ _ _) rfl))) rfl),_,UK R_,HM,?_⟩;(conv=>whnf);subst Hg;refine Na ?_ (by exact ⟨rfl,rfl⟩) h;intro U8 qs p4 h qf;obtain ⟨qE,rfl⟩:=qf.ex;(conv=>whnf);exact ⟨m,sf m,U8,(w (s2+(1:Int))),_,rfl,rfl,h⟩
    ·rw [NV];(conv=>whnf);subst Hg;refine Na ?_ (by exact ⟨rfl,rfl⟩) h;intro U8 qs p4 h qf;obtain ⟨qE,rfl⟩:=qf.ex;(conv=>whnf);exact ⟨m,sf m,U8,(w (s2+(1:Int))),_,rfl,rfl,h⟩
  ·intro xZ p4 h qf;obtain ⟨qE,rfl⟩:=qf.ex;(conv=>whnf);refine DW (x:=au.cells [(qg (ix r2 s2) .shared)]) (by first | exact qh.h | rfl | (simp [sb,I.settle];done)) ?_
   (conv=>whnf);obtain ⟨Hl,Se,h⟩:=qa h;refine ⟨qc.pl,_,UY Se,?_⟩;(conv=>whnf);subst ru;refine akR ?_ (by exact rfl) h;intro Ng p4 h qf;obtain ⟨qE,rfl⟩:=qf.ex;(conv=>whnf);obtain ⟨JC,NY,h⟩:=qa h;refine ⟨_,_,call7 (l:=[(hP t.1),(p2 Ng (.own 2))]) (cs:=[(hP t.1),(p2 Ng .shared)]) (sq _) (by first | exact qh.h | rfl | (simp [sb,I.settle];done)) rfl (ra (pZ rfl (pZ (qX (fun _=>(pZ rfl (pZ rfl rfl))) _ _ _) rfl))) (ds:=[(hP t.1),(p2 Ng .shared)]) rfl (UI NY),?_⟩
   rw [q5];(conv=>whnf);obtain ⟨LJ,Sg,h⟩:=qa h;refine ⟨_,_,Is (cs:=[(p2 JC .shared),(.func 105 [] [(.bU [(qg (ix r2 s2) .shared)])])]) (bs:=[(p2 JC .shared),(.func 105 [] [(.bU [(qg (ix r2 s2) .shared)])])]) (rn rfl (rn (Kg rQ (rn (Ji (cs:=[(qg (ix r2 s2) .shared)]) (by first | exact qh.h | rfl | (simp [sb,I.settle];done)) rfl) rQ)) rQ)) (by rfl) (by exact (pZ (qX (fun _=>(pZ rfl (pZ rfl rfl))) _ _ _) (pZ (JB rfl (pZ (ra (pZ (rK (fun _=>rfl) _ _ _) rfl)) rfl)) rfl))) (QH ⟨(pZ (ra (pZ (rK (fun _=>rfl) _ _ _) rfl)) rfl),by simp⟩ (fun _ _ a0=>UJ a0) Sg) rfl,?_⟩
   (conv=>whnf);refine bs h (fun NZ h=>?_) fun NZ h=>?_
   ·rw [NZ];(conv=>whnf);refine qj h id fun Sh h=>?_;erw [Uu pY 2 ql JC (w (LJ+(1:Int))) Sh];(conv=>whnf);refine qj h id fun Si h=>?_;erw [MW pY 2 ql JC (w (LJ+(1:Int))) Si];(conv=>whnf);obtain ⟨Og,N0,h⟩:=qa h;refine ⟨(pZ (Tn (pZ (qX (fun _=>(pZ rfl (pZ rfl rfl))) _ _ _) (pZ (qX (fun _=>(pZ rfl (pZ rfl rfl))) _ _ _) rfl))) rfl),_,UK N0,HM,?_⟩;(conv=>whnf);subst Hg;refine Na ?_ (by exact ⟨rfl,rfl⟩) h;intro U7 qs p4 h qf;obtain ⟨qE,rfl⟩:=qf.ex;(conv=>whnf);exact ⟨m,sf m,U7,(w (s2+(1:Int))),_,rfl,rfl,h⟩
   ·rw [NZ];(conv=>whnf);subst Hg;refine Na ?_ (by exact ⟨rfl,rfl⟩) h;intro U7 qs p4 h qf;obtain ⟨qE,rfl⟩:=qf.ex;(conv=>whnf);exact ⟨m,sf m,U7,(w (s2+(1:Int))),_,rfl,rfl,h⟩
 ·rw [qk];conv=>whnf
  exact q7 _ _ _ h ⟨rfl,rfl⟩
theorem aak {t:qb} {v:qx} (h:JP t=some v):qp 83 [(.bU [(hP t.1),(.ay (t.2.flatMap pY) t.2.length .shared)])] (.ay (v.map (qB pY)) v.length .shared):=by
 refine qN dH agd rfl (rK (fun _=>(qX (fun _=>(pZ rfl (pZ rfl rfl))) _ _ _)) _ _ _) fun Q bl=>?_;have jw:qv [.tmp 2] Q (fun v=>(.ay (v.map (qB pY)) v.length .shared)) v:=fun T H bI=>bl _ T H bI;unfold JP at h;unfold aa5;obtain ⟨V4,J0⟩:∃ c,Rb=c:=⟨_,rfl⟩;rw [J0];conv=>whnf
 obtain ⟨r1,eT,h⟩:=qa h;refine ⟨qc.pl,_,U0 eT,?_⟩;conv=>whnf
 obtain ⟨r2,fj,h⟩:=qa h;refine ⟨qc.pl,_,aac fj,?_⟩;conv=>whnf
 subst J0;refine akO ?_ (by exact rfl) h;intro Lf qs p4 h qf;obtain ⟨qE,rfl⟩:=qf.ex;conv=>whnf
 exact p7 h jw rfl rfl
end Go.Proofs.YtfakoboiahbhaaaGreat.Ab


namespace Go.Proofs.YtfakoboiahbhaaaGreat.Ab
open Go
theorem ajO {x y:Row} (h:0<x.length+y.length) (af:x.length+y.length≤24):M1 [x,y]=some (x++y):=by
 have fQ:ix [x,y] (0:Int)=x:=rfl;have e1:ix [x,y] (1:Int)=y:=rfl;have w0:w ((0:Int)+1)=1:=by decide
 have bC:w ((1:Int)+1)=2:=by decide
 have ak:([x,y]:List Row).length=2:=rfl;rw [M1,show p6=18446744073709551613+3 from rfl,KZ,ak,if_pos (by decide),p' (by decide),fQ,H2 (n:=(0:Int)+(x.length:Int)) (by omega),if_neg (by simp),w0,KZ,ak,if_pos (by decide),p' (by decide),e1,H2 (n:=(0:Int)+(x.length:Int)+(y.length:Int)) (by omega),if_neg (by simp;omega),bC,KZ,ak,if_neg (by decide),UL,p' ⟨rfl,by omega,by omega⟩,r_,K0,ak,if_pos (by decide),p' (by decide),fQ,p' (by simp;omega),w0,K0,ak,if_pos (by decide),p' (by decide),e1,p' (by simp;omega),bC,K0,ak,if_neg (by decide)];rfl
section
variable {b t:p3} {S:List Int} {r2:List (List Int)} {s2:Int}
theorem aai (he:ix r2 s2=S) (cm:rr t S) (ak:S.length≤1000) {k:Row→Option (List Row)}:∀ (m i:Nat) (z:Int),z=i→i≤S.length→S.length-i<m→Md t r2 s2 k m z ((S.take i).map (ix t.2))=k (S.map (ix t.2))
 | 0,_,_,_,_,h=>absurd h (by omega)
 | m+1,i,_,rfl,hi,hm=>by
   rw [Md,he];by_cases h:(i:Int)<(S.length:Int)
   ·(have qJ:i<S.length:=by omega);have ai:=cm _ (sD qJ);rw [if_pos (decide_eq_true h),p' ⟨by omega,h⟩,qW qJ,p' ai,p' (by simp;omega),rj i (by omega)];(have e:(S.take i).map (ix t.2)++[ix t.2 S[i]]=(S.take (i+1)).map (ix t.2):=by rw [Ki qJ,sZ];rfl);rw [e];exact aai he cm ak m (i+1) _ rfl (by omega) (by omega)
   ·rw [if_neg (by simpa using h),show i=S.length by omega,tC]
theorem aaj {o:List Int} (aq:o.length≤1000) {k:Row→Option (List Row)}:∀ (m i:Nat) (z:Int) (acc:Row),z=i→acc.length+o.length≤10000+i→o.length+2-i<m→i≤o.length+1→acc.length≤10000+i→IZ o k m z acc=k (acc++G4 (o.drop i))
 | 0,_,_,_,_,_,h,_,_=>absurd h (by omega)
 | m+1,i,_,acc,rfl,cd,hm,hi,alq=>by
   rw [IZ,rj i (by omega)];by_cases h:((i+1:Nat):Int)<(o.length:Int)
   ·(have ad:i<o.length:=by omega);(have af:i+1<o.length:=by omega);rw [if_pos (decide_eq_true h),p' ⟨by omega,by omega⟩,p' ⟨by omega,h⟩,p' (by omega),qW ad,qW af,H2 (n:=(i:Int)+2) (by omega),aaj aq m (i+2) _ _ (by omega) (by simp;omega) (by omega) (by omega) (by simp;omega)];rw [sQ ad,sQ af,G4];simp
   ·rw [if_neg (by simpa using h)]
    have:G4 (o.drop i)=[]:=by
     have ak:(o.drop i).length≤1:=by simp;omega
     match o.drop i,ak with
     | [],_=>rfl
     | [_],_=>rfl
     | _::_::_,h=>simp at h
    rw [this,sU]
theorem U1 (he:ix r2 s2=S) {dr:Row} {T:p3} (aw:∀ p∈dr,rP T p) (ak:dr.length≤1000) {k:List Row→Option (List Row)}:∀ (m i:Nat) (z:Int) (out:List Row) (own:Row),z=i→i≤dr.length→dr.length-i<m→out.length≤1000+i→own.length≤i →
  Ld r2 s2 dr (fun xZ oi=>if (decide ((0:Int)<(oi.length:Int)))=true then p5 ((xZ.length+1)*24≤140737488355328) <| k (xZ++[oi]) else k xZ) m out own z=k (out++rG S own (dr.drop i))
 | 0,_,_,_,_,_,_,h,_,_=>absurd h (by omega)
 | m+1,i,_,out,own,rfl,hi,hm,ad,af=>by
   rw [Ld,he];by_cases h:(i:Int)<(dr.length:Int)
   ·(have qJ:i<dr.length:=by omega);have aC:=aw _ (sD qJ);rw [if_pos (decide_eq_true h),p' ⟨by omega,h⟩,qW qJ,sQ qJ,rG,rj i (by omega)];by_cases aU:dr[i].1<(S.length:Int)
    ·rw [if_pos (decide_eq_true aU),if_pos aU,p' ⟨aC.1,aU⟩,p' (by omega)];exact U1 he aw ak m (i+1) _ out _ rfl (by omega) (by omega) (by omega) (by simp;omega)
    ·rw [if_neg (by simpa using aU),if_neg aU,p' (by omega),U1 he aw ak m (i+1) _ (out++[own]) [] rfl (by omega) (by omega) (by simp;omega) (by simp)];simp
   ·rw [if_neg (by simpa using h),List.drop_eq_nil_of_le (by omega),rG];by_cases aS:0<own.length
    ·rw [if_pos (by simpa using aS),if_pos aS,p' (by omega)]
    ·rw [if_neg (by simpa using aS),if_neg aS,sU]
theorem akV {s:List (Int×Int)} {f:Int×Int→Option Bool} {p:Int×Int→Bool} (aQ:∀ x∈s,f x=some (p x)) (ai:s.length≤140737488355328):Le s f=some (posOf p s 0):=by
 have:=U3 aQ ai p6 0 0 rfl (sq _) (ri (by omega));rw [sM] at this;rw [Le,this]
def Jz (b:p3) (r:List Int):Nat:=max 1 ((q' b r).length / 2)
theorem ags (r:List Int):Jz b r≤3:=by
 have aq:(q' b r).length≤6:=sH (tH _ _) (by rw [GN];omega);unfold Jz;omega
def Lo (b:p3):Nat:=((parts b).map (Jz b)).sum
theorem aah (p1:qu b) {P:List (List Int)} (B_:q4 b (upto b.2.length) P) {k:List Row→Option (List Row)}:∀ (m i:Nat) (z:Int) (out:List Row),z=i→i≤P.length→P.length-i<m→RowsOf b (P.take i).flatten out→(∀ r∈out,r≠[])→out.length=((P.take i).map (Jz b)).sum →
  ∃ GM,H4 b P k m out z=k GM∧RowsOf b P.flatten GM∧(∀ r∈GM,r≠[])∧GM.length=(P.map (Jz b)).sum
 | 0,_,_,_,_,_,h,_,_,_=>absurd h (by omega)
 | m+1,i,_,out,rfl,hi,hm,jw,bM,hlen=>by
   have dy:=p1.len;have bV:=p1.f6;have SJ:=B_.few Jj;rw [H4];by_cases h:(i:Int)<(P.length:Int)
   ·(have qJ:i<P.length:=by omega);obtain ⟨S,Pz⟩:∃ S,S=P[i]:=⟨_,rfl⟩;(have PA:S∈P:=by rw [Pz];exact sD qJ);(have he:ix P (i:Int)=S:=by rw [qW qJ,Pz]);have NT:rr b S:=B_.LA Jj S PA;(have adY:S.Nodup:=(B_.so S PA).imp fun h e=>by omega);have R5:S.length≤b.2.length:=J_ adY NT;have I7:=B_.ne S PA;obtain ⟨l,a,al,bB,aO⟩:=round_part p1 NT (by omega) I7 (B_.adi PA);have R4:=XD p1 NT I7 bB aO;have aq:(q' b S).length≤6:=sH (tH _ _) (by rw [GN];omega);have Gb:l.length=S.length+(q' b S).length / 2:=by
     have:=bB.upto.length_eq
     rwa [sV,GN,MX] at this
    (have alC:0<l.length:=by have:=uz.2 I7;omega);have ae5:∀ l:List (List Int),(l.map (Jz b)).sum≤3*l.length:=fun l=>by
     induction l with
     | nil=>simp
     | cons x l a_=>rw [sx,ve,sL];have:=ags (b:=b) x;omega
    have CT:out.length≤30:=by
     have:=ae5 (P.take i);rw [sY] at this;omega
    have Jd:∃ GM,H4 b P k m (out++rG S [] (Jh S l)) (w ((i:Int)+1))=k GM∧RowsOf b P.flatten GM∧(∀ r∈GM,r≠[])∧GM.length=(P.map (Jz b)).sum:=by
     rw [rj i (by omega)];refine aah p1 B_ m (i+1) _ _ rfl (by omega) (by omega) ?_ ?_ ?_
     ·rw [Ki qJ,uS,←Pz];simpa using jw.app R4.toRowsOf
     ·intro r aj;rcases sN.1 aj with aj | aj
      ·exact bM r aj
      ·exact R4.ne r aj
     ·rw [su,hlen,R4.len,Ki qJ,sZ,List.sum_append,←Pz];simp [Jz]
    have aw:∀ (g4:Nat) (l':Row),l'=Jh S l→(∀ p∈l',rP (rI b S) p)→l'.length≤1000→Lc P out (i:Int) (fun FW=>H4 b P k m FW (w ((i:Int)+1))) l'=H4 b P k m (out++rG S [] (Jh S l)) (w ((i:Int)+1)):=fun _ l' e dz e9=>by
     rw [Lc];refine (U1 (T:=rI b S) (k:=fun FW=>H4 b P k m FW (w ((i:Int)+1))) he dz e9 p6 0 0 out [] rfl (by omega) (ri (by omega)) (by omega) (by simp)).trans ?_;rw [sM,e]
    rw [if_pos (decide_eq_true h),p' ⟨by omega,h⟩]
    have e9:=aai (t:=b) (r2:=P) (s2:=(i:Int)) (S:=S) he NT (by omega) (k:=fun xZ =>
      (Lb b (ix P (i:Int))).bind fun r3 =>
      IZ r3 (fun xZ =>
        (LR (b.1,xZ)).bind fun r4 =>
        (Le r4 (fun qF=>Oz qF (ix P (i:Int)))).bind fun q8 =>
        if (decide ((0:Int)≤q8))=true then
         p5 (0≤(w (q8+(1:Int)))∧(w (q8+(1:Int)))≤(r4.length:Int)) <|
         p5 (0≤(w (q8+(1:Int)))∧(w (q8+(1:Int)))≤(r4.length:Int)) <|
         (M1 [(r4.drop (w (q8+(1:Int))).toNat),(r4.take (w (q8+(1:Int))).toNat)]).bind fun Hu =>
         Lc P out (i:Int) (fun FW =>
           H4 b P k m FW (w ((i:Int)+(1:Int)))) Hu
        else
         Lc P out (i:Int) (fun FW =>
           H4 b P k m FW (w ((i:Int)+(1:Int)))) r4) p6 (0:Int) xZ) p6 0 0 rfl (by omega) (ri (by omega))
    rw [tq,tM] at e9;rw [e9,he,UW p1 NT (by omega),r_,aaj (by omega) p6 0 0 _ rfl (by simp;omega) (ri (by omega)) (by omega) (by simp;omega),sM];have nx:LR (b.1,S.map (ix b.2)++G4 (q' b S))=some l:=al;rw [nx,r_,akV (p:=fun p=>!GO S p) (fun p _=>by rw [Oz];unfold GO;congr 1;by_cases ao:p.1<(S.length:Int) <;> simp [ao] <;> omega) (by omega),r_];rcases Tl (fun p=>!GO S p) l 0 with ⟨ad,af⟩ | ⟨dJ,q,kI,aeJ,af,aG⟩
    ·rw [ad,if_neg (by decide),aw 0 l (by unfold Jh;rw [ad];rfl) bB.ok (by omega)];exact Jd
    ·(have cC:dJ.length+1≤l.length:=by rw [aeJ];simp);have ae0:Jh S l=l.drop (dJ.length+1)++l.take (dJ.length+1):=by
      unfold Jh;rw [aG];simp only [sP];rw [if_pos (by omega),show ((dJ.length:Int)+1).toNat=dJ.length+1 by omega]
     rw [aG,sP,if_pos (by simp),rj _ (by omega),p' ⟨by omega,by omega⟩,p' ⟨by omega,by omega⟩,te,ajO (by simp;omega) (by simp;omega),r_,aw 0 _ ae0.symm ?_ ?_]
     ·exact Jd
     ·intro p aC;rcases sN.1 aC with aC | aC
      ·exact bB.ok p (List.mem_of_mem_drop aC)
      ·exact bB.ok p (List.mem_of_mem_take aC)
     ·simp;omega
   ·rw [if_neg (by simpa using h)]
    have:i=P.length:=by omega
    subst this;rw [tC] at jw hlen;exact ⟨out,rfl,jw,bM,hlen⟩
structure Mn (b:p3) (R:List Row):Prop extends RowsOf b (upto b.2.length) R where
 ne:∀ r∈R,r≠[]
 len:R.length=Lo b
theorem q4.flat {P:List (List Int)} {S:List Int} (cm:S.Nodup) (B_:q4 b S P):P.flatten.Perm S:=by
 refine (uR B_.Ws cm).2 fun x=>?_;rw [B_.mem x,List.mem_flatten]
theorem aag (p1:qu b):∃ R,JP b=some R∧Mn b R:=by
 obtain ⟨ad,af,_⟩:=JO p1;have hlen:=p1.len;obtain ⟨R,r1,r2,r3,r4⟩:=aah p1 af (k:=fun Lf=>some Lf) p6 0 0 [] rfl (by omega) (ri (by have:=af.few Jj;omega)) (by rw [tq];exact RowsOf.nil) (fun r aj=>absurd aj (by simp)) (by simp);refine ⟨R,?_,⟨⟨r2.ok,r2.go,r2.all.trans (af.flat (Jk _))⟩,r3,r4⟩⟩;rw [JP,UZ (by omega),r_,ad,r_];exact r1
end
end Go.Proofs.YtfakoboiahbhaaaGreat.Ab


namespace Go.Proofs.YtfakoboiahbhaaaGreat.Ab
open Go
instance {d:Nat} {l:List I} [h:qc d l]:qc d (l.map I.gR):=⟨by
 have h:=h.pl;rw [sy] at h ⊢;intro u hu;obtain ⟨v,ae,rfl⟩:=sm.1 hu;have:=h v ae;cases d with
 | zero=>simp [cq] at this
 | succ d=>cases v with
   | ay cs n c=>cases c <;> exact this
   | _=>exact this⟩
end Go.Proofs.YtfakoboiahbhaaaGreat.Ab


namespace Go.Proofs.YtfakoboiahbhaaaGreat.Ab
open Go
set_option maxRecDepth 20000
set_option maxHeartbeats 4000000

end Go.Proofs.YtfakoboiahbhaaaGreat.Ab


namespace Go.Proofs.YtfakoboiahbhaaaGreat.Ab
open Go
set_option maxRecDepth 20000
set_option maxHeartbeats 4000000
noncomputable def aaK:ey :=
 Gz [gL 1 [.hG 0] .box,Gm 2 0,Gm 3 0] (Gz [gL 7 [.hJ 1] (.pT (.str 2)),gL 8 [.iA (.func 64 [] []),.sl 7] (.call 3),Gp 6 8,GJ 9 6 0,gL 10 [.hJ 6] (.ext 1),Gp 4 9,Gp 5 10] (.seq (Gz [Gn 11 5,F0 12 11 0 .neq] (.cond (.sl 12) (Gz [Gp 13 5,Gm 2 0,Gp 3 13] .ret) .skip)) (Gz [Gp 14 4,gL 15 [.iA (.func 83 [] []),.sl 14] (.call 3),Gk 16 15,Gp 2 16,Gm 3 0] .ret)))
theorem afT:zf Tryz.prog VB 35=some (aaK,17,[.tmp 2,.tmp 3]):=by kernel_rfl
def OI (b:qb):Option (Int×Int) :=
 (Im b).bind fun r1 =>
 match r1 with
 | (none,q1) =>
   if (decide (q1≠(0:Int)))=true then
    some ((0:Int),q1)
   else
    none
 | (some bR,q1) =>
   if (decide (q1≠(0:Int)))=true then
    some ((0:Int),q1)
   else
    (JP bR).bind fun r2 =>
    some ((r2.length:Int),(0:Int))
theorem akq {b:qb} {v:(Int×Int)} (h:OI b=some v):qp 35 [(.agg [(hP b.1),(.ay (b.2.flatMap pY) b.2.length .shared)])] (.tuple [(hP v.1),(hP v.2)]):=by
 refine qN dH afT rfl (Ih (pZ rfl (pZ rfl rfl))) fun Q bl=>?_;have jw:qv [.tmp 2,.tmp 3] Q (fun v=>(.tuple [(hP v.1),(hP v.2)])) v:=fun T H bI=>bl _ T H bI;unfold OI at h;unfold aaK;conv=>whnf
 obtain ⟨r1,eT,h⟩:=qa h;rcases r1 with ⟨_ | bR,q1⟩
 ·refine ⟨qc.pl,_,IH eT,?_⟩;conv=>whnf
  refine bs h (fun fj h=>?_) fun fj h=>?_
  ·rw [fj];(conv=>whnf);exact p7 h jw rfl rfl
  ·rw [fj];(conv=>whnf);exact qT h
 ·refine ⟨qc.pl,_,IH eT,?_⟩;conv=>whnf
  refine bs h (fun qk h=>?_) fun qk h=>?_
  ·rw [qk];(conv=>whnf);exact p7 h jw rfl rfl
  ·rw [qk];(conv=>whnf);obtain ⟨r2,qw,h⟩:=qa h;refine ⟨qc.pl,_,aak qw,?_⟩;(conv=>whnf);exact p7 h jw rfl rfl

end Go.Proofs.YtfakoboiahbhaaaGreat.Ab


namespace Go.Proofs.YtfakoboiahbhaaaGreat.Ab
open Go
section
variable {b:p3} {S:List Int}
theorem Tg (p1:qu b):∀ r∈parts b,rr b r∧r.length≤10:=fun r aj=>by
 have h:=(JO p1).2.1;have dy:=p1.len;have ad:=h.LA Jj r aj;exact ⟨ad,sH (J_ ((h.so r aj).imp fun h e=>by omega) ad) dy⟩
theorem agD (p1:qu b):(parts b).length≤10:=sH ((JO p1).2.1.few Jj) p1.len
theorem OO (p1:qu b):Im b=some (some b,0):=by
 rw [Im,Qv b (by have:=p1.len;omega),r_,G8.2 p1];rfl
theorem ON (ag:b.2.length≤1000) (h:qK b≠0):Im b=some (none,qK b):=by
 rw [Im,Qv b ag,r_,if_pos (by simpa using h)]
def NA (b:p3):Int×Int:=if qK b≠0 then (0,qK b) else (Lo b,0)
theorem Wl (p1:qu b):NA b=((Lo b:Int),0):=by unfold NA;rw [if_neg (by rw [G8.2 p1];simp)]
theorem adz (h:qK b≠0):NA b=(0,qK b):=by unfold NA;rw [if_pos h]
theorem akp (ag:b.2.length≤1000):OI b=some (NA b):=by
 rw [OI];by_cases h:qK b=0
 ·have p1:=G8.1 h;obtain ⟨R,ad,af⟩:=aag p1;rw [OO p1,r_,Wl p1];show (if decide ((0:Int)≠0)=true then _ else (JP b).bind fun r2=>some ((r2.length:Int),(0:Int)))=_;rw [if_neg (by decide),ad,r_,af.len]
 ·rw [ON ag h,r_,adz h];show (if decide (qK b≠0)=true then some ((0:Int),qK b) else none)=_;rw [if_pos (by simpa using h)]
def Lh (b:p3) (S:List Int):Prop:=∀ x∈S,∀ y∈S,∀ f g,qD b x f→qD b y g→q9 b S f g
theorem q4.one {out:List (List Int)} (h:q4 b S out) (aS:S≠[]):out.length=1↔Lh b S:=by
 constructor
 ·intro ad;obtain ⟨r,rfl⟩:∃ r,out=[r]:=List.length_eq_one_iff.1 ad;intro x al y a0 f g aQ aO;have hm:∀ z∈S,z∈r:=fun z bm=>by
   obtain ⟨q,a3,W8⟩:=(h.mem z).1 bm;rw [sK.1 a3] at W8;exact W8
  exact h.HP r (by simp) x (hm x al) y (hm y a0) f g aQ aO
 ·intro bI;obtain ⟨x,al⟩:=vC S aS;obtain ⟨r,aj,IQ⟩:=(h.mem x).1 al;have all:∀ q∈out,q=r:=fun q a3=>by
   obtain ⟨y,a0⟩:=vC q (h.ne q a3);have W7:=(h.mem y).2 ⟨q,a3,a0⟩;have:=h.closed aj IQ (f:=(ix b.2 x).1) (g:=(ix b.2 y).1) (.inl rfl) (bI x al y W7 _ _ (.inl rfl) (.inl rfl)) y W7 (.inl rfl);exact h.uniq a3 aj a0 this
  match out,aj,all,h with
  | [q],_,_,_=>rfl
  | q::fL::l,_,all,h =>
    exfalso;have e1:=all q (by simp);have ck:=all fL (by simp);obtain ⟨y,a0⟩:=vC q (h.ne q (by simp));exact (List.pairwise_cons.1 h.rf).1 fL (by simp) y a0 (by rw [ck,←e1];exact a0)
end
end Go.Proofs.YtfakoboiahbhaaaGreat.Ab


namespace Go.Proofs.YtfakoboiahbhaaaGreat.Ab
open Go
set_option maxRecDepth 20000
set_option maxHeartbeats 4000000
def Qq (i:Int) (gO:qb) (a':Int):Option Bool :=
 p5 (0≤i∧i<(gO.2.length:Int)) <|
 if (decide ((ix gO.2 i).1=a'))=true then
  some true
 else
  p5 (0≤i∧i<(gO.2.length:Int)) <|
  some (decide ((ix gO.2 i).2=a'))

def Qr (s:p8) (MZ:Int) (p9:Unit→Option Int):Nat→Int→Option Int
 | 0,_=>none
 | m+1,s1 =>
   if (decide (s1<(s.length:Int)))=true then
    p5 (0≤s1∧s1<(s.length:Int)) <|
    if (decide (MZ=(ix s s1)))=true then
     some s1
    else
     Qr s MZ p9 m (w (s1+(1:Int)))
   else
    p9 ()
def ZB (s:p8) (MZ:Int):Option Int :=
 Qr s MZ (fun _ =>
   some (-1:Int)) p6 (0:Int)

def UM (s:p8) (MZ:Int):Option Bool :=
 (ZB s MZ).bind fun r1 =>
 some (decide ((0:Int)≤r1))
end Go.Proofs.YtfakoboiahbhaaaGreat.Ab
