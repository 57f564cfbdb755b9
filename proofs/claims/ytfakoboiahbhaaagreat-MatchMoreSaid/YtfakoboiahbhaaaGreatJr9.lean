
import Derived.Test.YtfakoboiahbhaaaGreatJr8
import Derived.Test.YtfakoboiahbhaaaGreatJr4
import Derived.Test.YtfakoboiahbhaaaGreatProg
import Derived.KernelRfl
import Derived.Test.YtfakoboiahbhaaaGreatJr5
set_option linter.unusedSimpArgs false
set_option linter.unusedVariables false
set_option linter.unusedSectionVars false

open Int renaming toNat_natCast→th
open List renaming all_eq_true→sC,append_assoc→sj,append_nil→sN,cons_append→uS,drop_eq_getElem_cons→sT,drop_zero→sO,exists_mem_of_ne_nil→vF,ext_getElem?→tO,filter_append→t_,filter_cons→tc,find?_eq_none→vh,flatMap_cons→tZ,flatten_append→uV,flatten_cons→tI,getD_eq_getElem?_getD→sG,getElem?_append→sc,getElem?_eq_none→tB,getElem?_eq_some_iff→sa,getElem?_map→su,getElem?_set_ne→si,getElem?_set_self→sg,getElem?_take→sV,getElem_append_left→wg,getElem_append_right→wh,getElem_map→uT,getElem_mem→sE,getElem_of_mem→ui,getElem_set→wi,length_append→sm,length_cons→sH,length_eq_zero_iff→s_,length_filter_le→tJ,length_map→sZ,length_nil→uF,length_pos_iff→ug,length_set→td,length_singleton→tn,length_take→sR,map_append→sY,map_cons→se,map_map→ud,map_nil→tt,mem_append→sS,mem_append_left→ve,mem_cons→sk,mem_filter→sM,mem_map→ss,mem_range→sJ,mem_reverse→wm,mem_singleton→sB,nil_append→tW,nodup_append→ua,nodup_cons→uh,nodup_range→uc,pairwise_append→u6,pairwise_iff_getElem→ti,pairwise_map→uQ,perm_append_comm→wk,perm_ext_iff_of_nodup→uL,range_succ→vg,reverse_perm→vG,set_set→sQ,sum_cons→tj,take_length→tz,take_of_length_le→tQ,take_zero→tf
open Nat renaming le_refl→sb,le_trans→sI,lt_succ_self→sv,min_eq_left→tq,zero_add→sP,zero_le→sr
open Option renaming bind_some→r_,map_eq_some_iff→rZ
namespace Go.Proofs.YtfakoboiahbhaaaGreat.Ab
open Go
theorem Hf {n:Nat} {x:Int}:x∈upto n↔0≤x∧x<(n:Int):=by
 unfold upto;rw [ss];constructor
 ·rintro ⟨j,aw,rfl⟩;have:=sJ.1 aw;omega
 ·rintro ⟨ad,af⟩;exact ⟨x.toNat,sJ.2 (by omega),by omega⟩
theorem Iy (n:Nat):(upto n).Nodup:=by
 unfold upto;exact uQ.2 (uc.imp fun h e=>h (by omega))
section
variable {b:p3}
theorem G2.acM {f g:Int} (h:G2 b (-1) f g):rf b (upto b.2.length) f g:=by
 obtain ⟨n,h⟩:=h
 induction n generalizing g with
 | zero=>rw [show f=g from h];exact .refl
 | succ n a_ =>
   obtain ⟨c,ad,af⟩:=h;obtain ⟨i,hi,_,aG⟩:=af.Ia;refine .step (i:Int) (a_ ad) (Hf.2 ⟨by omega,by omega⟩) ?_ ?_
   ·rcases aG with ⟨aG,_⟩ | ⟨aG,_⟩
    ·exact .inl aG
    ·exact .inr aG
   ·rcases aG with ⟨_,aG⟩ | ⟨_,aG⟩
    ·exact .inr aG
    ·exact .inl aG
theorem Q4 {i f g:Int} (hi:i∈upto b.2.length) (ad:qI b i f) (af:qI b i g):G2 b (-1) f g:=by
 have hi:=Hf.1 hi;obtain ⟨j,rfl⟩:∃ j:Nat,i=(j:Int):=⟨i.toNat,by omega⟩;have he:=Hg.of (b:=b) (wo := -1) (i:=j) (by omega) (by omega);rcases ad with rfl | rfl <;> rcases af with rfl | rfl
 ·exact G2.refl _
 ·exact he.MO
 ·exact he.symm.MO
 ·exact G2.refl _
theorem rf.MO {f g:Int} (h:rf b (upto b.2.length) f g):G2 b (-1) f g:=by
 induction h with
 | refl=>exact G2.refl _
 | step i _ hi aB aH a_=>exact a_.trans (Q4 hi aB aH)
theorem Ob (p2:qu b) {i f:Int} (hi:i∈upto b.2.length) (h:qI b i f):0≤f∧f<b.1:=by
 have hi:=Hf.1 hi;obtain ⟨j,rfl⟩:∃ j:Nat,i=(j:Int):=⟨i.toNat,by omega⟩;have:=TI p2 (i:=j) (by omega);rcases h with rfl | rfl <;> omega
structure IC (key:Int→Int) (i:Nat) (seen:List Int) (out:List (List Int)):Prop where
 len:out.length=seen.length
 rW:seen.Nodup
 par:∀ (j:Nat) (h:j<out.length) (aX:j<seen.length) (x:Int),x∈out[j]↔0≤x∧x<(i:Int)∧key x=seen[j]
 so:∀ r∈out,r.Pairwise (·<·)
 ne:∀ r∈out,r≠[]
 all:∀ x:Int,0≤x→x<(i:Int)→key x∈seen
 aZ:out.Pairwise fun x y=>ix x 0<ix y 0
theorem IC.new {key:Int→Int} {i:Nat} {seen:List Int} {out:List (List Int)} (h:IC key i seen out) (aN:key i ∉ seen):IC key (i+1) (seen++[key i]) (out++[[(i:Int)]]):=by
 have ak:=h.len;refine ⟨by simp [ak],?_,fun j aw ef x=>?_,fun r aj=>?_,fun r aj=>?_,fun x ad af=>?_,?_⟩
 ·rw [ua];exact ⟨h.rW,by simp,fun a cd c ao e=>by simp only [sB] at ao;subst ao;subst e;exact aN cd⟩
 ·by_cases lW:j<out.length
  ·rw [wg lW,wg (by omega),h.par j lW (by omega) x];constructor
   ·rintro ⟨aB,aH,aR⟩;exact ⟨aB,by omega,aR⟩
   ·rintro ⟨aB,aH,aR⟩;refine ⟨aB,?_,aR⟩
    have:x≠(i:Int):=fun e=>aN (by rw [←e,aR];exact sE _)
    omega
  ·(have e:j=out.length:=by simp at aw;omega);subst e;rw [wh (by omega),wh (by omega)];simp only [Nat.sub_self,ak,List.getElem_cons_zero,sB];constructor
   ·rintro rfl;exact ⟨by omega,by omega,rfl⟩
   ·rintro ⟨aB,aH,aR⟩;refine Classical.byContradiction fun al=>aN ?_;rw [←aR];exact h.all x aB (by omega)
 ·rcases sS.1 aj with aj | aj
  ·exact h.so r aj
  ·simp only [sB] at aj;subst aj;simp
 ·rcases sS.1 aj with aj | aj
  ·exact h.ne r aj
  ·simp only [sB] at aj;subst aj;simp
 ·by_cases al:x=(i:Int)
  ·subst al;simp
  ·exact ve _ (h.all x ad (by omega))
 ·refine u6.2 ⟨h.aZ,by simp,fun r aj q a3=>?_⟩;simp only [sB] at a3;subst a3;obtain ⟨j,aw,rfl⟩:=ui aj;have:=((h.par j aw (by omega) _).1 (head_mem (h.ne _ aj))).2.1;show ix out[j] 0<(i:Int);exact this
theorem IC.fL {key:Int→Int} {i k:Nat} {seen:List Int} {out:List (List Int)} (h:IC key i seen out) (av:k<seen.length) (po:seen[k]=key i):IC key (i+1) seen (out.set k (out[k]'(by have:=h.len;omega)++[(i:Int)])):=by
 have ak:=h.len;have OA:k<out.length:=by omega
 have bM:=h.ne _ (sE OA);have ad7:ix (out[k]++[(i:Int)]) 0=ix out[k] 0:=by
  cases e:out[k] with
  | nil=>exact absurd e bM
  | cons a r=>rfl
 refine ⟨by simpa using ak,h.rW,fun j aw ef x=>?_,fun r aj=>?_,fun r aj=>?_,fun x ad af=>?_,?_⟩
 ·rw [wi];split
  ·rename_i e;subst e;rw [sS,h.par k OA ef x,sB];constructor
   ·rintro (⟨aB,aH,aR⟩ | rfl)
    ·exact ⟨aB,by omega,aR⟩
    ·exact ⟨by omega,by omega,po.symm⟩
   ·rintro ⟨aB,aH,aR⟩;by_cases al:x=(i:Int)
    ·exact .inr al
    ·exact .inl ⟨aB,by omega,aR⟩
  ·rename_i e;rw [h.par j (by simpa using aw) ef x];constructor
   ·rintro ⟨aB,aH,aR⟩;exact ⟨aB,by omega,aR⟩
   ·rintro ⟨aB,aH,aR⟩;refine ⟨aB,?_,aR⟩
    have:x≠(i:Int):=fun ex=>by
     subst ex;exact ti.1 h.rW |> fun aC=>by
      rcases Nat.lt_or_gt_of_ne e with aU | aU
      ·exact aC k j av ef aU (by rw [po,aR])
      ·exact aC j k ef av aU (by rw [po,aR])
    omega
 ·rcases List.mem_or_eq_of_mem_set aj with aj | rfl
  ·exact h.so r aj
  ·refine u6.2 ⟨h.so _ (sE OA),by simp,fun x al y a0=>?_⟩;simp only [sB] at a0;subst a0;exact ((h.par k OA av x).1 al).2.1
 ·rcases List.mem_or_eq_of_mem_set aj with aj | rfl
  ·exact h.ne r aj
  ·simp
 ·by_cases al:x=(i:Int)
  ·subst al;rw [←po];exact sE _
  ·exact h.all x ad (by omega)
 ·refine ti.2 fun a c cd ao adG=>?_;have a3:∀ (a:Nat) (cd:a<out.length),ix ((out.set k (out[k]++[(i:Int)]))[a]'(by simpa using cd)) 0=ix out[a] 0:=fun a cd=>by
   rw [wi];split
   ·rename_i e;subst e;exact ad7
   ·rfl
  rw [a3 a (by simpa using cd),a3 c (by simpa using ao)];exact ti.1 h.aZ a c (by simpa using cd) (by simpa using ao) adG
theorem IC.parts (p2:qu b) {N:List Int} (B7:Qu b (-1) N) {seen:List Int} {out:List (List Int)} (h:IC (fun s=>ix N (ix b.2 s).1) b.2.length seen out):q2 b (upto b.2.length) out:=by
 have ak:=h.len;have OB:∀ x∈upto b.2.length,0≤(ix b.2 x).1∧(ix b.2 x).1<b.1:=fun x al=>Ob p2 al (.inl rfl);have Iu:∀ (j:Nat) (aw:j<out.length) (x:Int),x∈out[j]→x∈upto b.2.length:=fun j aw x al=>by
  have:=(h.par j aw (by omega) x).1 al;exact Hf.2 ⟨this.1,this.2.1⟩
 refine ⟨h.ne,h.so,fun x=>?_,ti.2 fun i j hi aw gY x al iP=>?_,fun r aj x al y a0 f g aQ aO=>?_,fun r aj q a3 x al y a0 f aQ aO=>?_⟩
 ·constructor
  ·intro al;have nz:=Hf.1 al;obtain ⟨j,aw,e⟩:=ui (h.all x nz.1 nz.2);exact ⟨_,sE (show j<out.length by omega),(h.par j (by omega) aw x).2 ⟨nz.1,nz.2,e.symm⟩⟩
  ·rintro ⟨r,aj,al⟩;obtain ⟨j,aw,rfl⟩:=ui aj;exact Iu j aw x al
 ·have ad:=(h.par i hi (by omega) x).1 al;have af:=(h.par j aw (by omega) x).1 iP;exact ti.1 h.rW i j (by omega) (by omega) gY (by rw [←ad.2.2,←af.2.2])
 ·obtain ⟨j,aw,rfl⟩:=ui aj;have ad:=(h.par j aw (by omega) x).1 al;have af:=(h.par j aw (by omega) y).1 a0;have KR:=Iu j aw x al;have Na:=Iu j aw y a0;have ao:=(B7.iff (OB x KR) (OB y Na)).1 (by rw [ad.2.2,af.2.2]);exact ((rf.one KR aQ (.inl rfl)).trans ao.acM).trans (rf.one Na (.inl rfl) aO)
 ·obtain ⟨i,hi,rfl⟩:=ui aj;obtain ⟨j,aw,rfl⟩:=ui a3;have ad:=(h.par i hi (by omega) x).1 al;have af:=(h.par j aw (by omega) y).1 a0;have KR:=Iu i hi x al;have Na:=Iu j aw y a0;have ao:G2 b (-1) (ix b.2 x).1 (ix b.2 y).1:=(Q4 KR (.inl rfl) aQ).trans (Q4 Na aO (.inl rfl));have e:=(B7.iff (OB x KR) (OB y Na)).2 ao;have ck:seen[i]'(by omega)=seen[j]'(by omega):=by rw [←ad.2.2,←af.2.2];exact e
  have gY:i=j:=by
   refine Classical.byContradiction fun bM=>?_;rcases Nat.lt_or_gt_of_ne bM with aU | aU
   ·exact ti.1 h.rW i j (by omega) (by omega) aU ck
   ·exact ti.1 h.rW j i (by omega) (by omega) aU ck.symm
  subst gY;rfl
end
end Go.Proofs.YtfakoboiahbhaaaGreat.Ab


namespace Go.Proofs.YtfakoboiahbhaaaGreat.Ab
open Go
section
variable {b:p3}
theorem IC.few {key:Int→Int} {i:Nat} {seen:List Int} {out:List (List Int)} (h:IC key i seen out):out.length≤i:=by
 have hm:=Kc (l:=out.map fun r=>ix r 0) (n:=i) (by
  refine uQ.2 (h.aZ.imp fun HS e=>by omega)) fun x al=>by
  obtain ⟨r,aj,rfl⟩:=ss.1 al;obtain ⟨j,aw,rfl⟩:=ui aj;have:=(h.par j aw (by have:=h.len;omega) _).1 (head_mem (h.ne _ aj));exact ⟨this.1,this.2.1⟩
 simpa using hm
theorem IC.zero {key:Int→Int}:IC key 0 [] []:=⟨rfl,by simp,fun j h=>absurd h (by simp),fun r aj=>absurd aj (by simp),fun r aj=>absurd aj (by simp),fun x ad af=>by omega,by simp⟩
def parts (b:p3):List (List Int):=(JV b (upto b.2.length)).getD []
theorem IP:ri b (upto b.2.length):=fun x al=>Hf.1 al
theorem Ln (p2:qu b):JV b (upto b.2.length)=some (parts b)∧q2 b (upto b.2.length) (parts b)∧(parts b).Pairwise fun x y=>ix x 0<ix y 0:=by
 obtain ⟨out,ad,af,aG⟩:=Z6 (b:=b) (S:=upto b.2.length) p2.len (Iy _) IP
 have:parts b=out:=by unfold parts;rw [ad];rfl
 rw [this];exact ⟨ad,af,aG⟩
end
end Go.Proofs.YtfakoboiahbhaaaGreat.Ab


namespace Go.Proofs.YtfakoboiahbhaaaGreat.Ab
open Go
noncomputable def St:eA :=
 .j2 true [gO 21 [.sl 3] (.pV .one),Gl 22 4,gO 23 [.hL 22] (.build [.int .i64 0,.int .i64 0] [(0,1)]),gO 24 [.sl 3] (.pV .one),Gl 25 4,gO 26 [.hL 25,.iC (.int .i64 1)] (.build [.int .i64 0,.int .i64 0] [(0,1),(1,1)]),⟨none,[.hL 21,.hL 23,.iC (.int .i64 1)],none,none,.zo (.str 2)⟩,⟨none,[.hL 24,.hL 26,.iC (.int .i64 1)],none,none,.zo (.str 2)⟩]
noncomputable def Sw:eA :=
 .block 1 (Gx [Gl 20 18,Gm 4 20] St)
noncomputable def Xy:eA :=
 .j2 false [gO 84 [.sl 1] (.pV .one),gO 85 [.hL 10] (.pV (.str 2)),gO 86 [.iC (.func 68 [] []),.sl 84,.sl 85] (.call 3),Gm 83 86,GH 87 83 0,gO 88 [.hL 83] (.ext 1),⟨none,[.sl 7,.hI 87],none,none,.st 1⟩]
noncomputable def Sx:eA :=
 Gx [Gm 79 5,gO 80 [.sl 10] (.pV (.str 2)),gO 81 [.hL 80] (.x_ 1 2 [.int .i64 0,.int .i64 0] [0]),gO 82 [.hI 79,.hI 81] (.x2 2 16),Gm 5 82] Xy
noncomputable def Sy:eA :=
 Gx [gO 74 [.sl 6] (.other (Oper.mk (some 74) (Op.load 25 (Operand.tmp 6)) 25 "table.go:177" (Array.mk []) none) 5), gO 75 [.sl 6] (.pV .one), Gi 76 75, FY 77 76 1 .sub, gO 78 [.hI 74, .hI 77] (.AW 2 false true false), ⟨none, [.sl 6, .hI 78], none, none, .st 1⟩] Sx
noncomputable def Sz:eA :=
 Gx [gO 68 [.sl 6] (.pV .one),gO 69 [.sl 6] (.pV .one),Gi 70 69,FY 71 70 1 .sub,Gf 72 68 71 2,gO 73 [.hL 72] (.pV (.str 2)),gO 10 [] (.alloc [.int .i64 0,.int .i64 0]),⟨none,[.sl 10,.hI 73],none,none,.st 2⟩] Sy
noncomputable def SD:eA :=
 .Am (.sl 40) [41] (Gu Go.Proofs.Tryz.prog 104 0) (Gv Go.Proofs.Tryz.prog 104 0)
noncomputable def SA:eA :=
 .block 3 (.seq (Gx [Gl 38 8,gO 39 [.sl 7] (.pV .one),gO 40 [.sl 38,.sl 39] (.call 3)] (.block 4 SD)) (.seq (Gx [gO 65 [.sl 6] (.pV .one),Gi 66 65,FY 67 66 0 .eql] (.cond (.sl 67) (.exit 2) .skip)) Sz))
noncomputable def O7:eA :=
 .loop (some (Ex false [1,1,1,1,1,4,83])) SA
noncomputable def SB:eA :=
 .block 2 O7
noncomputable def SC:eA :=
 Gx [Gl 89 5, gO 90 [.iC (.func 128 [] []), .hI 89] (.call 1)] (Gx [⟨some 91, [.hI 5], none, some 5, .other (Oper.mk (some 91) (Op.move (Operand.tmp 5)) 25 "table.go:182" (Array.mk []) none) 2⟩, Gm 2 91] .ret)
noncomputable def Su:eA :=
 Gx [gO 28 [.sl 1] (.pV .one),gO 29 [.hL 28] .zA,F4 30 29 0,F4 31 30 1,Gj 32 31,gO 33 [.hL 32,.iC (.int .i64 0)] (.pO 2),F4 34 33 0,Gj 35 34,gO 7 [] (.alloc [.int .i64 0]),⟨none,[.sl 7,.hI 35],none,none,.st 1⟩] (Gx [gO 36 [.sl 1] (.pV .one),gO 37 [.hL 36] (.zu 89 1 0),Gm 8 37] (.seq .skip (.seq SB SC)))
noncomputable def O8:eA :=
 .loop (some (Ex false [1,1,1,1,13,2,73])) (Gx [gO 19 [.sl 18,.sl 17] (.bin .lss)] (.seq (.cond (.sl 19) .skip (.exit 0)) (.seq Sw (Gq [FX 27 18 1,Gm 18 27]))))
noncomputable def Sv:eA :=
 .seq (Gx [gO 12 [.sl 1] (.pV .one),gO 13 [.hL 12] .zA,F4 14 13 0,F4 15 14 1,Gj 16 15,Gi 17 16,Gk 18 0] (.block 0 O8)) (Gx [gO 5 [.iC (.ay [] 0 .full)] .A5,gO 6 [] (.alloc [.ay [] 0 .full])] Su)
noncomputable def Xx:eA :=
 Gx [gO 1 [.hI 0] .box,gO 2 [.iC (.ay [] 0 .full)] (.nil 2)] (Gx [gO 11 [] .zv,gO 3 [] (.alloc [.junk]),⟨none,[.sl 3,.hI 11],none,none,.st 1⟩] Sv)
theorem aeX:ze Go.Proofs.Tryz.prog KB 104=some (Xx,92,[.tmp 2]):=by kernel_rfl
noncomputable def SR:eA :=
 .block 1 (Gr [Gl 14 0,Gl 15 2,Gl 16 0,Gl 17 3,Gl 18 0,Gl 19 3,Gf 20 18 19 2,gO 21 [.hL 20] (.pV (.str 2)),Gl 22 0,Gl 23 2,Gf 24 22 23 2,gO 25 [.hL 24] (.pV (.str 2)),Gf 26 14 15 2,⟨none,[.hI 26,.hI 21],none,none,.st 2⟩,Gf 27 16 17 2,⟨none,[.hI 27,.hI 25],none,none,.st 2⟩])
noncomputable def SS:eA :=
 .j2 false [Gm 10 2,FX 11 10 1,Gm 12 3,FY 13 12 1 .sub,Gm 2 11,Gm 3 13]
noncomputable def SU:eA :=
 .loop (some (Ex false [0,1,1,2,24])) (.seq (Gx [Gl 7 2,Gl 8 3,FZ 9 7 8 .lss] (.cond (.sl 9) .skip (.exit 0))) (.seq SR SS))
noncomputable def XB:eA :=
 Gx [Gl 4 0,Gi 5 4,FY 6 5 1 .sub,Gk 2 0,Gm 3 6] (.block 0 SU)
theorem ae0:ze Go.Proofs.Tryz.prog UL 128=some (XB,28,[]):=by kernel_rfl
noncomputable def Nn:eA :=
 Gx [Gj 60 1,gO 61 [.hL 9] (.pV (.str 2)),gO 62 [.iC (.func 68 [] []),.sl 60,.sl 61] (.call 3),Gm 59 62,GH 63 59 0,gO 64 [.hL 59] (.ext 1),⟨none,[.hI 7,.hI 64],none,none,.st 1⟩] (.exit 3)
noncomputable def Ss:eA :=
 Gx [gO 55 [.sl 6] (.other (Oper.mk (some 55) (Op.load 25 (Operand.tmp 6)) 25 "table.go:168" (Array.mk []) none) 5), gO 56 [.sl 9] (.pV (.str 2)), gO 57 [.hL 56] (.x_ 1 2 [.int .i64 0, .int .i64 0] [0]), gO 58 [.hI 55, .hI 57] (.x2 2 16), ⟨none, [.hI 6, .hI 58], none, none, .st 1⟩] Nn
noncomputable def O6:eA :=
 Gx [Gj 48 3,gO 49 [.sl 9] (.oR 0),Gj 50 49,gO 51 [.sl 9] (.oR 1),Gj 52 51,gO 53 [.iC (.int .i64 1),.hL 52] (.bin .sub),gO 54 [.hL 50,.hL 53] (.build [.int .i64 0,.int .i64 0] [(0,1),(1,1)]),⟨none,[.hI 48,.hI 54],none,none,.zm (.str 2)⟩] Ss
noncomputable def Sr:eA :=
 .block 5 (.seq (Gx [gO 42 [.sl 3] (.pV .one),gO 43 [.sl 9] (.pV (.str 2)),gO 44 [.hL 42,.hL 43] (.zn (.str 2) false (some (.int .i64 0))),FY 45 44 0 .eql] (.cond (.sl 45) (.exit 5) .skip)) (Gx [gO 46 [.sl 3] (.pV .one),gO 47 [.sl 9] (.pV (.str 2)),⟨none,[.hI 46,.hI 47],none,none,.zm (.str 2)⟩] O6))
noncomputable def Sq:eA :=
 .j2 false [gO 9 [] (.alloc [.int .i64 0,.int .i64 0]),⟨none,[.sl 9,.hI 41],none,none,.st 2⟩]
theorem WO:dU Tryz.prog KB (Gu Tryz.prog 104 0) 0=some Sq:=by kernel_rfl
theorem WQ:dU Tryz.prog KB (Gv Tryz.prog 104 0) 0=some Sr:=by kernel_rfl
end Go.Proofs.YtfakoboiahbhaaaGreat.Ab


namespace Go.Proofs.YtfakoboiahbhaaaGreat.Ab
open Go
def Up (P:Program) (k:FuncId) (cap:List I) (E:List I):Prop :=
 ∀ (l N:Nat) (rj:Nat→List au) (R:List au→Prop) (n:Nat),(∀ i,(rj i).length=N)→l<N→(aN:n<E.length) →
   (∀ (i:Nat) (h:i<n) (Y:List au),∃ q6,Sem P (.yield l) [E[i]'(Nat.lt_trans h aN)] (rj i++Y) 0 (.bool true) (rj (i+1)++q6)) →
   (∀ Y:List au,∃ H',R H'∧Sem P (.yield l) [E[n]] (rj n++Y) 0 (.bool false) H') →
   ∀ Y,∃ H',R H'∧Sem P (.fn k) (.yield l::cap) (rj 0++Y) 0 (.tuple []) H'
theorem ahM {t:p3} {figure:Int} {v:List (Int×Int)} (h:Kh t figure=some v):Up Tryz.prog 113 [.bU [.bU [hR t.1,.ay (t.2.flatMap p0) t.2.length .shared]],.bU [hR figure]] (v.map fun e1=>.agg [hR e1.1,hR e1.2]):=by
 unfold Kh at h;split at h
 ·rename_i al;obtain rfl:=Option.some.inj h;intro L N rj R n hlen fl aN aj M9 Y;have ao:∀ j,((List.range j).filter (rv t figure)).length=((List.range j).filter (rv t figure)).length:=fun _=>rfl;have ael:n<((List.range (2*t.2.length)).filter (rv t figure)).length:=by simpa [places] using aN
  obtain ⟨M,B6,RF,Ow⟩:∃ M,M<2*t.2.length∧rv t figure M=true∧((List.range M).filter (rv t figure)).length=n:=by
   have hm:=sE ael;obtain ⟨ad,af⟩:=sM.1 hm;(have ad:((List.range (2*t.2.length)).filter (rv t figure))[n]<2*t.2.length:=by simpa using ad);refine ⟨_,ad,af,?_⟩;have aO:=Q5 _ af ad;have jI:((List.range (2*t.2.length)).filter (rv t figure)).Nodup:=uc.filter _;obtain ⟨aG,a6⟩:=sa.1 aO;exact (List.getElem_inj jI).1 a6
  have CI:∀ a b,a≤b→((List.range a).filter (rv t figure)).length≤((List.range b).filter (rv t figure)).length:=fun a b jA=>by
   obtain ⟨d,rfl⟩:=Nat.exists_eq_add_of_le jA
   induction d with
   | zero=>exact sb _
   | succ d a_=>rw [←Nat.add_assoc,Oc];exact sI (a_ (by omega)) (Nat.le_add_right _ _)
  obtain ⟨Z,J8,J7,hle⟩:=Vp (t:=t) (figure:=figure) (L:=L) hlen ao (M:=M) Y fun r OI ag Y=>by
   have aO:=Sc (show r<2*t.2.length by omega) ag;obtain ⟨ad,af⟩:=sa.1 aO;have aU:((List.range r).filter (rv t figure)).length<n:=by
    have:=CI (r+1) M (by omega);rw [Oc,if_pos ag,Ow] at this;omega
   obtain ⟨q6,h⟩:=aj _ aU Y;refine ⟨q6,?_⟩;rw [←af];exact h
  obtain ⟨H',jy,ak⟩:=M9 (Z M++[au.cells (p0 (qY M))]);have aO:=Sc B6 RF;rw [Ow] at aO;obtain ⟨ad,af⟩:=sa.1 aO;refine ⟨H',jy,?_⟩;rw [←J8];refine Vq al hlen ao (M:=M) (by omega) J7 (.inr ⟨B6,RF,?_⟩) (ON ?_)
  ·rw [Ow,←af];exact ak
  ·have e1:=hle M (sb _);have ck:=ak.1.1;rw [Ow] at e1;rw [J8];refine sI e1 (sI ?_ ck);rw [←sj];simp
 ·cases h
theorem ahA {α:Type} {P:Program} {A:c8} {fn:FuncId} {rl:Option Nat} {k:FuncId} {cap:List I} {t:Nat} {bh:List Nat} {gu bY:Code} {T:List I} {H:List au} {Q:cB→List I→List au→Prop} {f:α→I} {L:List α} {id n:Nat} (M':Up P k cap (L.map f)) (aN:n<L.length)
  (ax:c5 T t=.func k [] cap)
  (M_:∀ (i:Nat) (h:i<n) (Y:List au),∃ q6,Sem P (.yield H.length) [f (L[i]'(Nat.lt_trans h aN))] ((H++[.loop .ready none fn (T.map I.view) bh gu bY A])++Y) 0 (.bool true) ((H++[.loop .ready none fn (T.map I.view) bh gu bY A])++q6))
  (M9:∀ (Y:List au),∃ H',(H'[H.length]?=some (.loop .done (some (.exit id)) fn (T.map I.view) bh gu bY A)∧Q (.exit id) (T.map I.settle) (H'.set H.length .dead))∧Sem P (.yield H.length) [f L[n]] ((H++[.loop .ready none fn (T.map I.view) bh gu bY A])++Y) 0 (.bool false) H')
  (gZ:inLoop H rl=true):dD P A fn 0 rl (.Am (.sl t) bh gu bY) T H Q:=by
 show hq T t _;rw [iE,ax]
 obtain ⟨H',⟨dr,CV⟩,cm⟩:=M' H.length (H.length+1) (fun _=>H++[.loop .ready none fn (T.map I.view) bh gu bY A]) (fun H'=>H'[H.length]?=some (.loop .done (some (.exit id)) fn (T.map I.view) bh gu bY A)∧Q (.exit id) (T.map I.settle) (H'.set H.length .dead)) n (fun i=>by simp) (by omega) (by simpa using aN) (fun i h Y=>by
  obtain ⟨q6,aj⟩:=M_ i h Y;exact ⟨q6,by rw [uT];exact aj⟩) (fun Y=>by
  obtain ⟨H',aj,ai⟩:=M9 Y
  exact ⟨H',aj,by rw [uT];exact ai⟩) []
 simp only [sN] at cm;exact ⟨gZ,.tuple [],H',.done,some (.exit id),fn,T.map I.view,bh,gu,bY,A,cm,dr,by decide,CV⟩
def rq (L:List Nat):List (Nat×I×I):=L.map fun r=>(r,.agg (p0 (qY r)),hR 1)
theorem Q3 (a b:Nat):gy (.agg (p0 (qY a))) (.agg (p0 (qY b)))=some (decide (a=b)):=by
 simp only [gy,p0,qY,dM,if_true,Option.map_some,Bool.and_true,Option.some.injEq];rw [Bool.eq_iff_iff];simp only [beq_iff_eq,decide_eq_true_eq,Bool.and_eq_true];omega
theorem Oe (b:Nat):∀ (L:List Nat) (n:Nat),b ∉ L→fB (.agg (p0 (qY b))) (rq L) n=some none
 | [],n,_=>rfl
 | a::L,n,h=>by
   simp only [sk,not_or] at h;simp only [rq,se,fB,Q3];rw [decide_eq_false h.1];exact Oe b L (n+1) h.2
theorem VY (b:Nat):∀ (L:List Nat) (n:Nat),b∈L→L.Nodup→∃ i,fB (.agg (p0 (qY b))) (rq L) n=some (some (n+i))∧(∃ e:Nat×I×I,(rq L)[i]?=some e∧e.2.2=hR 1)∧(rq L).eraseIdx i=rq (L.filter fun x=>decide (x≠b))
 | [],n,h,_=>absurd h (by simp)
 | a::L,n,h,aN=>by
   obtain ⟨aem,pw⟩:=uh.1 aN;by_cases e:b=a
   ·subst e;refine ⟨0,?_,⟨_,rfl,rfl⟩,?_⟩
    ·simp only [rq,se,fB,Q3,decide_true];rfl
    ·rw [List.filter_cons_of_neg (by simp)];rw [List.filter_eq_self.2 (fun x al=>by simp;intro e;subst e;exact aem al)];rfl
   ·(have ag:b∈L:=by simpa [e] using h);obtain ⟨i,ad,⟨ck,aG,a6⟩,af⟩:=VY b L (n+1) ag pw;refine ⟨i+1,?_,⟨ck,by simpa [rq] using aG,a6⟩,?_⟩
    ·simp only [rq,se,fB,Q3];rw [decide_eq_false e];simp only [rq] at ad;rw [ad];rw [show n+1+i=n+(i+1) by omega]
    ·rw [List.filter_cons_of_pos (by simp;intro cM;exact e cM.symm)];simp only [rq,se,List.eraseIdx_cons_succ] at af ⊢;rw [af]
theorem VP (L:List Nat) (k:Nat):rq L++[(k,.agg (p0 (qY k)),hR 1)]=rq (L++[k]):=by
 simp [rq]
end Go.Proofs.YtfakoboiahbhaaaGreat.Ab


namespace Go.Proofs.YtfakoboiahbhaaaGreat.Ab
open Go
set_option maxRecDepth 20000
set_option maxHeartbeats 4000000
def TM (l:List (Int×Int)) (i:Nat):List (Int×Int):=l.take i++(l.drop i).reverse
def H8 (g:List (Int×Int)) (off t:Nat):List (Int×Int):=(List.range g.length).map fun x=>if off≤x∧(x-off<t∨g.length-t≤x) then g.getD (off+g.length-1-x) (0,0) else g.getD x (0,0)
theorem K0 (g:List (Int×Int)) (off t:Nat):(H8 g off t).length=g.length:=by simp [H8]
theorem L9 (g:List (Int×Int)) (off t x:Nat) (h:x<g.length):(H8 g off t)[x]?=some (if off≤x∧(x-off<t∨g.length-t≤x) then g.getD (off+g.length-1-x) (0,0) else g.getD x (0,0)):=by
 simp [H8,h]
theorem ahx (g:List (Int×Int)) (off:Nat):H8 g off 0=g:=by
 apply tO;intro x;by_cases h:x<g.length
 ·rw [L9 g off 0 x h,if_neg (by omega)];simp [h,sG]
 ·rw [tB (by rw [K0];omega),tB (by omega)]
theorem ahw (g:List (Int×Int)) (off t:Nat) (ax:off+t<g.length-1-t):((H8 g off t).set (off+t) (g.getD (g.length-1-t) (0,0))).set (g.length-1-t) (g.getD (off+t) (0,0))=H8 g off (t+1):=by
 apply tO;intro x;by_cases h:x<g.length
 ·rw [L9 g off (t+1) x h];by_cases ad:x=g.length-1-t
  ·subst ad;rw [sg (by rw [td,K0];omega),if_pos (by omega)];congr 2;omega
  ·rw [si (by omega)];by_cases af:x=off+t
   ·subst af;rw [sg (by rw [K0];omega),if_pos (by omega)];congr 2;omega
   ·rw [si (by omega),L9 g off t x h];by_cases aG:off≤x∧(x-off<t∨g.length-t≤x)
    ·rw [if_pos aG,if_pos (by omega)]
    ·rw [if_neg aG,if_neg (by omega)]
 ·rw [tB (by simp [K0];omega),tB (by rw [K0];omega)]
theorem ahv (g:List (Int×Int)) (off t:Nat) (aq:off≤g.length) (ax:g.length-1-t≤off+t):H8 g off t=TM g off:=by
 apply tO;intro x;unfold TM;by_cases h:x<g.length
 ·rw [L9 g off t x h];by_cases ad:x<off
  ·rw [if_neg (by omega),List.getElem?_append_left (by simp;omega),sV,if_pos ad];simp [h,sG]
  ·rw [List.getElem?_append_right (by simp;omega),sR,tq aq,List.getElem?_reverse (by simp;omega),List.getElem?_drop,List.length_drop];(have e:off+(g.length-off-1-(x-off))=off+g.length-1-x:=by omega);rw [e];(have ak:off+g.length-1-x<g.length:=by omega);by_cases aG:off≤x∧(x-off<t∨g.length-t≤x)
   ·rw [if_pos aG];simp [ak,sG]
   ·rw [if_neg aG]
    have:x=off+g.length-1-x:=by omega
    rw [←this];simp [h,sG]
 ·rw [tB (by rw [K0];omega),tB (by simp;omega)]
theorem O1:∀ (l:List (Int×Int)) (i:Nat),i<l.length→(l.flatMap p0)[i*2]?=some (hR (l.getD i (0,0)).1)∧(l.flatMap p0)[i*2+1]?=some (hR (l.getD i (0,0)).2)
 | [],i,h=>absurd h (by simp)
 | p::l,0,_=>⟨rfl,rfl⟩
 | p::l,i+1,h=>by
   have:=O1 l i (by simpa using h);rw [tZ,show (i+1)*2=(i*2)+2 by omega];simpa [p0] using this
theorem Sh:∀ (l:List (Int×Int)) (i:Nat) (x:Int×Int),i<l.length→((l.flatMap p0).set (i*2) (hR x.1)).set (i*2+1) (hR x.2)=(l.set i x).flatMap p0
 | [],i,_,h=>absurd h (by simp)
 | p::l,0,x,_=>rfl
 | p::l,i+1,x,h=>by
   have:=Sh l i x (by simpa using h);rw [tZ,show (i+1)*2=(i*2)+2 by omega,show i*2+2+1=(i*2+1)+2 by omega];simp only [p0,uS,tW,List.set_cons_succ,tZ];rw [this]
theorem Jo (l:List (Int×Int)):(l.flatMap p0).length=l.length*2:=H0 p0 2 qw l
theorem ahu (g:List (Int×Int)) (aS:0<g.length) (aO:g.length≤1000000) {H:List au} {id lo Rc:Nat} (bD:lo≤id) (ah:H[id]?=some (.grow (g.flatMap p0) Rc 2)) :
  Sem Go.Proofs.Tryz.prog (.fn 128) [.ref id 0 g.length none 2] H lo (.tuple []) (H.set id (.grow (g.reverse.flatMap p0) Rc 2)):=by
 have aE:=(sa.1 ah).1;refine G4 dJ ae0 rfl ⟨by simp,fun j ad af=>by rw [si (by omega)]⟩ fun Q bl=>?_;unfold XB;obtain ⟨QR,IG⟩:∃ c,SU=c:=⟨_,rfl⟩;rw [IG];conv=>whnf
 rw [show IntKind.i64.wrap ((g.length:Int)-1)=((g.length-1:Nat):Int) by rw [Ih _ (by omega) (by omega)];omega];have ag:Nat.ble lo id=true:=Nat.ble_eq_true_of_le bD;have gs:∀ c:au,(H.set id c)[id]?=some c:=fun c=>by rw [sg aE]
 subst IG;unfold SU;obtain ⟨a',cb⟩:∃ c,SR=c:=⟨_,rfl⟩;obtain ⟨bk,b8⟩:∃ c,SS=c:=⟨_,rfl⟩;rw [cb,b8];refine wp_loop rfl ?_;refine .intro (fun m T H'=>∃ t,2*t≤g.length∧m=g.length-t∧T=GD 28 [(0,.ref id 0 g.length none 2),(2,hR t),(3,hR (g.length-1-t:Nat))]∧H'=H.set id (.grow ((H8 g 0 t).flatMap p0) Rc 2)) g.length ⟨0,by omega,rfl,rfl,?_⟩ ?_
 ·rw [ahx];obtain ⟨ad,af⟩:=sa.1 ah;rw [←af,List.set_getElem_self]
 rintro m T H' ⟨t,ax,rfl,rfl,rfl⟩;conv=>whnf
 refine Hs (fun h=>?_) (fun h=>?_)
 ·have ck:0+((g.length-1-t:Nat):Int).toNat*2=(g.length-1-t)*2:=by omega
  have dG:0+(t:Int).toNat*2=t*2:=by omega
  have ak:=K0 g 0 t;have Ra:=O1 (H8 g 0 t) (g.length-1-t) (by omega);have Rb:=O1 (H8 g 0 t) t (by omega);have v1:(H8 g 0 t).getD (g.length-1-t) (0,0)=g.getD (g.length-1-t) (0,0):=by
   rw [sG,L9 g 0 t _ (by omega),if_neg (by omega)];rfl
  have v2:(H8 g 0 t).getD t (0,0)=g.getD t (0,0):=by
   rw [sG,L9 g 0 t _ (by omega),if_neg (by omega)];rfl
  rw [v1] at Ra;rw [v2] at Rb;conv=>whnf
  subst cb;unfold SR;refine HU fun mU GZ=>?_;conv=>whnf
  refine ⟨by omega,?_⟩;conv=>whnf
  refine DU (gs _) ?_;conv=>whnf
  refine DU (by rw [ck];exact Ra.1) ?_;conv=>whnf
  refine DU (by rw [ck];exact Ra.2) ?_;conv=>whnf
  refine ⟨by omega,?_⟩;conv=>whnf
  refine DU (gs _) ?_;conv=>whnf
  refine DU (by rw [dG];exact Rb.1) ?_;conv=>whnf
  refine DU (by rw [dG];exact Rb.2) ?_;conv=>whnf
  refine ⟨by omega,?_⟩;conv=>whnf
  rw [ag];conv=>whnf
  refine DU (gs _) ?_;conv=>whnf
  refine FI (by rw [Jo];omega) ?_;conv=>whnf
  refine FI (by rw [td,Jo];omega) ?_;conv=>whnf
  refine ⟨by omega,?_⟩;conv=>whnf
  rw [ag];conv=>whnf
  rw [sQ];refine DU (gs _) ?_;conv=>whnf
  refine FI (by rw [td,td,Jo];omega) ?_;conv=>whnf
  refine FI (by rw [td,td,td,Jo];omega) ?_;conv=>whnf
  rw [sQ,ck,dG];refine GZ _ _ _ ?_;conv=>whnf
  subst b8;unfold SS;conv=>whnf
  refine ⟨g.length-(t+1),by omega,t+1,by omega,rfl,?_,?_⟩
  ·rw [←q5 t (by omega),show ((g.length-1-(t+1):Nat):Int)=IntKind.i64.wrap (((g.length-1-t:Nat):Int)-1) by rw [Ih _ (by omega) (by omega)];omega];rfl
  ·have ai:=ahw g 0 t (by omega);rw [sP] at ai;rw [←ai,←Sh _ _ _ (by rw [td];omega),←Sh _ _ _ (by omega)];rfl
 ·conv=>whnf
  have e:H8 g 0 t=g.reverse:=by
   rw [ahv g 0 t (by omega) (by omega),TM];simp
  rw [e];exact bl _ _ _ ⟨.inl rfl,⟨by simp,fun j o aw=>.inr aw⟩,rfl⟩

def rX (p:Int×Int):Nat:=(2*p.1+p.2).toNat
theorem Xn {p:Int×Int} (ad:0≤p.1) (af:0≤p.2∧p.2≤1):qY (rX p)=p:=by
 unfold qY rX;exact Prod.ext (by simp only;omega) (by simp only;omega)
def LQ (L:List Nat) (p:Int×Int):Bool:=decide (rX p∈L)
def HC (L:List Nat) (p:Int×Int):List Nat:=L.filter fun x=>decide (x≠rX p)
def Ja (L:List Nat) (p:Int×Int):List Nat:=HC (HC L p) (p.1,1-p.2)
structure rF (t:p3) (L:List Nat) (way out:List (Int×Int)) (a:Int) (q' v5:I) (x y:Nat) (H:List au):Prop where
 rW:L.Nodup
 aS:H[0]?=some (Ig t)
 ad:∃ Ho,H[1]?=some (.map (rq L) Ho)
 af:H[2]?=some (.cells [.map 1])
 aG:H[3]?=some (.cells [q'])
 a6:H[4]?=some (.cells [hR a])
 hw:(way=[]∧q'=.ay [] 0 .full)∨(q'=.cl x (x+1) way.length 2∧4<x∧∃ cs,H[x]?=some (.grow cs (x+1) 2)∧way.length*2≤cs.length∧cs.take (way.length*2)=way.flatMap p0)
 aq:(out=[]∧v5=.ay [] 0 .full)∨(v5=.cl y (y+1) out.length 2∧4<y∧H[y]?=some (.grow (out.flatMap p0) (y+1) 2))
 ne:x≠y
 JP:x<H.length
 JQ:y<H.length
 Jb:x=0∨4<x
 IU:y=2∨4<y
theorem rF.len {t:p3} {L:List Nat} {way out:List (Int×Int)} {a:Int} {q' v5:I} {x y:Nat} {H:List au} (h:rF t L way out a q' v5 x y H):4<H.length:=(sa.1 h.a6).1
theorem rF.more {t:p3} {L:List Nat} {way out:List (Int×Int)} {a:Int} {q' v5:I} {x y:Nat} {H:List au} (h:rF t L way out a q' v5 x y H) (Z:List au):rF t L way out a q' v5 x y (H++Z):=by
 obtain ⟨rW,aS,⟨Ho,ad⟩,af,aG,a6,hw,aq,ne,JP,JQ,Jb,IU⟩:=h;refine ⟨rW,qA aS,⟨Ho,qA ad⟩,qA af,qA aG,qA a6,?_,?_,ne,by simp;omega,by simp;omega,Jb,IU⟩
 ·rcases hw with hw | ⟨bC,bT,cs,rR,I4⟩
  ·exact .inl hw
  ·exact .inr ⟨bC,bT,cs,qA rR,I4⟩
 ·rcases aq with aq | ⟨bC,bT,rR⟩
  ·exact .inl aq
  ·exact .inr ⟨bC,bT,qA rR⟩
theorem rF.ahT {t:p3} {L:List Nat} {way out:List (Int×Int)} {a:Int} {q' v5:I} {x y j:Nat} {H:List au} {c:au} (h:rF t L way out a q' v5 x y H) (akW:4<j) (al:j≠x) (a0:j≠y):rF t L way out a q' v5 x y (H.set j c):=by
 obtain ⟨rW,aS,⟨Ho,ad⟩,af,aG,a6,hw,aq,ne,JP,JQ,Jb,IU⟩:=h;refine ⟨rW,qF aS (by omega),⟨Ho,qF ad (by omega)⟩,qF af (by omega),qF aG (by omega),qF a6 (by omega),?_,?_,ne,by simpa using JP,by simpa using JQ,Jb,IU⟩
 ·rcases hw with hw | ⟨bC,bT,cs,rR,I4⟩
  ·exact .inl hw
  ·exact .inr ⟨bC,bT,cs,qF rR al,I4⟩
 ·rcases aq with aq | ⟨bC,bT,rR⟩
  ·exact .inl aq
  ·exact .inr ⟨bC,bT,qF rR a0⟩
theorem J5 {H:List au} {j:Nat} {c:au} (h:j<H.length):(H.set j c)[j]?=some c:=sg h
theorem rF.map {t:p3} {L ir:List Nat} {way out:List (Int×Int)} {a:Int} {q' v5:I} {x y Ho:Nat} {H:List au} (h:rF t L way out a q' v5 x y H) (aN:ir.Nodup):rF t ir way out a q' v5 x y (H.set 1 (.map (rq ir) Ho)):=by
 have ak:=h.len;obtain ⟨rW,aS,_,af,aG,a6,hw,aq,ne,JP,JQ,Jb,IU⟩:=h;refine ⟨aN,qF aS (by omega),⟨Ho,J5 (by omega)⟩,qF af (by omega),qF aG (by omega),qF a6 (by omega),?_,?_,ne,by simpa using JP,by simpa using JQ,Jb,IU⟩
 ·rcases hw with hw | ⟨bC,bT,cs,rR,I4⟩
  ·exact .inl hw
  ·exact .inr ⟨bC,bT,cs,qF rR (by omega),I4⟩
 ·rcases aq with aq | ⟨bC,bT,rR⟩
  ·exact .inl aq
  ·exact .inr ⟨bC,bT,qF rR (by omega)⟩
theorem WJ {P:Program} {C:b6} {lo id:Nat} {o:Oper} {t e:TypeId} {x:Operand} {H:List au} {v:I} (aq:o.op=.load t x) (ax:P.underlying t=some (.slice e)) (ah:H[id]?=some (.cells [v])) (ae:v=.ay [] 0 .full∨∃ i g n z,v=.cl i g n z) :
  a8 P C lo o 5 [.ptr id 0] H=some (v,H):=by
 unfold a8;rw [aq];show dQ P lo 5 t H [.ptr id 0]=_;unfold dQ;simp only [ax,ah];rcases ae with rfl | ⟨i,g,n,z,rfl⟩ <;> rfl

abbrev aht (t:p3) (a:Int) (v5:I):List I:=(GD 92 [(1,.ptr 0 0),(3,.ptr 2 0),(5,v5),(6,.ptr 3 0),(7,.ptr 4 0),(8,.func 89 [G1 t] []),(38,.func 89 [G1 t] []),(39,hR a),(40,.func 113 [] [.bU [G1 t],.bU [hR a]])]).map I.view
noncomputable abbrev H7 (t:p3) (a:Int) (v5:I) (st:LoopState) (agx:Option Code):au:=.loop st agx 104 (aht t a v5) [41] (Gu Tryz.prog 104 0) (Gv Tryz.prog 104 0) KB
section
variable {t:p3} {L:List Nat} {way out:List (Int×Int)} {a:Int} {q' v5:I} {x y:Nat} {H:List au} {p:Int×Int}
theorem adk (jL:0≤p.1) (ns:0≤p.2∧p.2≤1) (gZ:rX p ∉ L):fB (.agg [hR p.1,hR p.2]) (rq L) 0=some none:=by
 have:=Oe (rX p) L 0 gZ;rw [Xn jL ns] at this;exact this
theorem V0 (jL:0≤p.1) (ns:0≤p.2∧p.2≤1) (gZ:rX p∈L) (aN:L.Nodup):∃ i,fB (.agg [hR p.1,hR p.2]) (rq L) 0=some (some i)∧(∃ e:Nat×I×I,(rq L)[i]?=some e∧e.2.2=hR 1)∧(rq L).eraseIdx i=rq (HC L p):=by
 obtain ⟨i,ad,af,aG⟩:=VY (rX p) L 0 gZ aN;rw [Xn jL ns,sP] at ad;exact ⟨i,ad,af,aG⟩
theorem XO (cm:rF t L way out a q' v5 x y H) (jL:0≤p.1) (ns:0≤p.2∧p.2≤1) (gZ:rX p ∉ L) (Y:List au) :
  ∃ q6,Sem Tryz.prog (.yield H.length) [.agg (p0 p)] ((H++[H7 t a v5 .ready none])++Y) 0 (.bool true) ((H++[H7 t a v5 .ready none])++q6):=by
 refine ⟨Y++[.dead],GC dJ WO WQ (Of _ _ _) rfl (ON (by simp)) ?_⟩;obtain ⟨Ho,ad⟩:=cm.ad;unfold Sq;conv=>whnf
 refine DU (x:=au.cells [(hR (0:Int)),(hR (0:Int))]) (by first | exact ql.h | rfl | (simp [sc,I.settle];done)) ?_
 conv=>whnf
 rw [ru];refine ⟨rfl,Og _ _ _ _,?_⟩;rw [TH];unfold Sr;obtain ⟨bq,d_⟩:∃ c,O6=c:=⟨_,rfl⟩;rw [d_];conv=>whnf
 refine DU (qA (qA (qA cm.af))) ?_;conv=>whnf
 refine DU (x:=au.cells [hR p.1,hR p.2]) (by first | exact ql.h | rfl | (simp [sc,I.settle];done)) ?_
 conv=>whnf
 refine ⟨rfl,_,_,qA (qA (qA ad)),none,adk jL ns gZ,?_⟩;conv=>whnf
 refine ⟨_,rfl,?_⟩;conv=>whnf
 show _∧(((H++[H7 t a v5 .busy none])++Y)++[_])[H.length]?=_∧ji ((((H++[H7 t a v5 .busy none])++Y)++[_]).set H.length _) _;exact ⟨rfl,Og _ _ _ _,by rw [TH];exact adh _ _ _ _⟩
theorem Oa (aN:L.Nodup):(HC L p).Nodup:=aN.filter _
theorem rF.push {G:List au} {cells:List I} (cm:rF t L way out a q' v5 x y G) (ao:cells=(way++[p]).flatMap p0) {b:Int} {D:List au} (qM:D=G∨(D=G.set x .dead∧4<x)) :
  rF t L (way++[p]) out b (.cl G.length (G.length+1) (way.length+1) 2) v5 G.length y (((D++[au.grow cells (G.length+1) 2,au.dead]).set 3 (au.cells [.cl G.length (G.length+1) (way.length+1) 2])).set 4 (au.cells [hR b])):=by
 subst ao;have ak:=cm.len;have Om:D.length=G.length:=by rcases qM with rfl | ⟨rfl,_⟩ <;> simp
 obtain ⟨rW,aS,⟨Ho,ad⟩,af,aG,a6,hw,aq,ne,JP,JQ,Jb,IU⟩:=cm;have MX:∀ (j:Nat) (o:au),j≠x∨D=G→G[j]?=some o→D[j]?=some o:=fun j o aw h=>by
  rcases qM with rfl | ⟨rfl,_⟩
  ·exact h
  ·rcases aw with aw | aw
   ·exact qF h (Ne.symm aw)
   ·rw [aw];exact h
 have KJ:∀ j:Nat,j≤4→j≠x∨D=G:=fun j aw=>by
  rcases qM with h | ⟨_,h⟩
  ·exact .inr h
  ·exact .inl (by omega)
 refine ⟨rW,?_,⟨Ho,?_⟩,?_,?_,?_,?_,?_,?_,?_,?_,.inr (by omega),IU⟩
 ·exact qF (qF (qA (MX 0 _ (KJ 0 (by omega)) aS)) (by omega)) (by omega)
 ·exact qF (qF (qA (MX 1 _ (KJ 1 (by omega)) ad)) (by omega)) (by omega)
 ·exact qF (qF (qA (MX 2 _ (KJ 2 (by omega)) af)) (by omega)) (by omega)
 ·exact qF (J5 (by simp;omega)) (by omega)
 ·exact J5 (by simp;omega)
 ·refine .inr ⟨by simp,by omega,(way++[p]).flatMap p0,?_,by rw [Jo];exact sb _,tQ (by rw [Jo];exact sb _)⟩;rw [←Om];exact qF (qF (LC _ _) (by omega)) (by omega)
 ·rcases aq with aq | ⟨bC,bT,rR⟩
  ·exact .inl aq
  ·exact .inr ⟨bC,bT,qF (qF (qA (MX y _ (.inl (Ne.symm ne)) rR)) (by omega)) (by omega)⟩
 ·omega
 ·simp;omega
 ·simp;omega
theorem ahG (cm:rF t L way out a q' v5 x y H) (jL:0≤p.1∧p.1<(t.2.length:Int)) (ns:0≤p.2∧p.2≤1) (gZ:rX p∈L) (RP:rX (p.1,1-p.2)∈HC L p) (RW:way.length≤1000) (Y:List au) :
  ∃ H',Sem Tryz.prog (.yield H.length) [.agg (p0 p)] ((H++[H7 t a v5 .ready none])++Y) 0 (.bool false) H' ∧
    H'[H.length]?=some (H7 t a v5 .done (some (.exit 3)))∧∃ TV oj,rF t (Ja L p) (way++[p]) out (fin t p) TV v5 oj y (H'.set H.length .dead):=by
 have aef:=cm.len;have ak3:=cm.Jb;have ad2:=cm.IU;have aeh:=cm.JP;have aei:=cm.JQ;obtain ⟨Ho,hm⟩:=cm.ad;obtain ⟨i1,f1,⟨e1,ck,dG⟩,f3⟩:=V0 jL.1 ns gZ cm.rW;obtain ⟨i2,f4,_,f5⟩:=V0 (p:=(p.1,1-p.2)) jL.1 (by simp only;omega) RP (Oa cm.rW);have y0:IntKind.i64.wrap (1-p.2)=1-p.2:=Ih _ (by omega) (by omega);obtain ⟨JB,JG⟩:∃ JB,JB=(H++[H7 t a v5 .busy none])++Y++[au.cells [hR p.1,hR p.2]]:=⟨_,rfl⟩;have Je:rF t L way out a q' v5 x y JB:=by rw [JG];exact ((cm.more _).more _).more _
 have ak9:JB.length=H.length+1+Y.length+1:=by rw [JG];simp;omega
 have cV:JB[((H++[H7 t a v5 .ready none])++Y).length]?=some (.cells [hR p.1,hR p.2]):=by rw [JG];simp [sc]
 have ag:JB[H.length]?=some (H7 t a v5 .busy none):=by rw [JG];exact Og _ _ _ _
 obtain ⟨BF,RG⟩:∃ BF,BF=((H++[H7 t a v5 .ready none])++Y).length:=⟨_,rfl⟩;have ak0:BF=H.length+1+Y.length:=by rw [RG];simp;omega
 have Ga:JB[1]?=some (.map (rq L) Ho):=by rw [JG];exact qA (qA (qA hm))
 rw [←RG] at cV;obtain ⟨HJ,IX⟩:∃ HJ,HJ=JB.set 1 (.map (rq (HC L p)) Ho):=⟨_,rfl⟩;have o1:rF t (HC L p) way out a q' v5 x y HJ:=by rw [IX];exact Je.map (Oa cm.rW)
 have aej:HJ[1]?=some (.map (rq (HC L p)) Ho):=by rw [IX];exact J5 (by omega)
 have Rm:HJ[BF]?=some (.cells [hR p.1,hR p.2]):=by rw [IX];exact qF cV (by omega)
 have eW:HJ[H.length]?=some (H7 t a v5 .busy none):=by rw [IX];exact qF ag (by omega)
 obtain ⟨q8,H3⟩:∃ q8,q8=HJ.set 1 (.map (rq (Ja L p)) Ho):=⟨_,rfl⟩;have Jf:rF t (Ja L p) way out a q' v5 x y q8:=by rw [H3];exact o1.map (Oa (Oa cm.rW))
 have Oj:q8[BF]?=some (.cells [hR p.1,hR p.2]):=by rw [H3];exact qF Rm (by omega)
 have fm:q8[H.length]?=some (H7 t a v5 .busy none):=by rw [H3];exact qF eW (by omega)
 have fa:q8.length=JB.length:=by rw [H3,IX];simp
 obtain ⟨D,qM,cells,Ce,C_⟩:∃ D:List au,(D=q8∨(D=q8.set x .dead∧4<x))∧∃ cells:List I,cells=(way++[p]).flatMap p0 ∧
   ((q'=.ay [] 0 .full∧way=[]∧D=q8∧cells=p0 p)∨(q'=.cl x (x+1) way.length 2∧D=q8.set x .dead∧∃ cs,q8[x]?=some (.grow cs (x+1) 2)∧((cs.length=way.length*2∧cells=cs++p0 p)∨(way.length*2<cs.length∧cells=cs.take (way.length*2)++p0 p)))):=by
  rcases Jf.hw with ⟨bC,bT⟩ | ⟨bC,bT,cs,rR,I4,Mi⟩
  ·exact ⟨q8,.inl rfl,p0 p,by rw [bC];simp,.inl ⟨bT,bC,rfl,rfl⟩⟩
  ·refine ⟨q8.set x .dead,.inr ⟨rfl,bT⟩,cs.take (way.length*2)++p0 p,by rw [Mi];simp,.inr ⟨bC,rfl,cs,rR,?_⟩⟩;rcases Nat.lt_or_ge (way.length*2) cs.length with h | h
   ·exact .inr ⟨h,rfl⟩
   ·exact .inl ⟨by omega,by rw [tQ (by omega)]⟩
 have Wj:=Jf.push (b:=fin t p) Ce qM;have Om:D.length=q8.length:=by rcases qM with rfl | ⟨rfl,_⟩ <;> simp
 have Wh:∀ (j:Nat) (o:au),j≠x→q8[j]?=some o→D[j]?=some o:=fun j o aw h=>by
  rcases qM with rfl | ⟨rfl,_⟩
  ·exact h
  ·exact qF h (Ne.symm aw)
 have KJ:∀ (j:Nat) (o:au),j≤4→q8[j]?=some o→D[j]?=some o:=fun j o aw h=>by
  rcases qM with rfl | ⟨rfl,a6⟩
  ·exact h
  ·exact qF h (by omega)
 obtain ⟨MG,Hu⟩:∃ MG,MG=D++[au.grow cells (q8.length+1) 2,au.dead]:=⟨_,rfl⟩;obtain ⟨JY,Jc⟩:∃ JY,JY=MG.set 3 (au.cells [.cl q8.length (q8.length+1) (way.length+1) 2]):=⟨_,rfl⟩;rw [←Hu,←Jc] at Wj;have Rn:JY[BF]?=some (.cells [hR p.1,hR p.2]):=by rw [Jc,Hu];exact qF (qA (Wh _ _ (by omega) Oj)) (by omega)
 have Rf:JY[0]?=some (Ig t):=by rw [Jc,Hu];exact qF (qA (KJ 0 _ (by omega) Jf.aS)) (by omega)
 have Rk:JY[4]?=some (.cells [hR a]):=by rw [Jc,Hu];exact qF (qA (KJ 4 _ (by omega) Jf.a6)) (by omega)
 have ak8:4<MG.length:=by rw [Hu];simp;omega
 have Rj:MG[3]?=some (.cells [q']):=by rw [Hu];exact qA (KJ 3 _ (by omega) Jf.aG)
 have qq:(JY.set 4 (au.cells [hR (fin t p)]))[H.length]?=some (H7 t a v5 .busy none):=by rw [Jc,Hu];exact qF (qF (qA (Wh _ _ (by omega) fm)) (by omega)) (by omega)
 have aeg:H.length<(JY.set 4 (au.cells [hR (fin t p)])).length:=by rw [Jc,Hu];simp;omega
 refine ⟨(JY.set 4 (au.cells [hR (fin t p)])).set H.length (H7 t a v5 .done (some (.exit 3))),?_,J5 aeg,?_⟩
 ·refine ahR (id:=3) dJ WO WQ (Of _ _ _) rfl (ON ?_) ?_
  ·rw [td,td,Jc,Hu,td];simp;omega
  unfold Sq;conv=>whnf
  refine DU (x:=au.cells [(hR (0:Int)),(hR (0:Int))]) (by first | exact ql.h | rfl | (simp [sc,I.settle];done)) ?_
  conv=>whnf
  rw [ru];refine ⟨rfl,Og _ _ _ _,?_⟩;rw [TH];unfold Sr;obtain ⟨bq,d_⟩:∃ c,O6=c:=⟨_,rfl⟩;rw [d_,←RG];erw [←JG];conv=>whnf
  refine DU Je.af ?_;conv=>whnf
  refine DU cV ?_;conv=>whnf
  refine ⟨rfl,_,_,Ga,some i1,f1,?_⟩;conv=>whnf
  refine ⟨e1,ck,?_⟩;rw [dG];conv=>whnf
  refine DU Je.af ?_;conv=>whnf
  refine DU cV ?_;conv=>whnf
  refine ⟨rfl,_,_,Ga,some i1,f1,?_⟩;conv=>whnf
  rw [f3,←IX];conv=>whnf
  subst d_;unfold O6;obtain ⟨bk,b8⟩:∃ c,Ss=c:=⟨_,rfl⟩;rw [b8];conv=>whnf
  refine DU o1.af ?_;conv=>whnf
  refine DU Rm ?_;conv=>whnf
  refine DU Rm ?_;conv=>whnf
  rw [y0];refine ⟨rfl,_,_,aej,some i2,f4,?_⟩;conv=>whnf
  erw [f5,←H3];conv=>whnf
  subst b8;unfold Ss;obtain ⟨a',cb⟩:∃ c,Nn=c:=⟨_,rfl⟩;rw [cb];conv=>whnf
  have aeE:q'=.ay [] 0 .full∨∃ i g n z,q'=.cl i g n z:=by
   rcases C_ with ⟨h,_⟩ | ⟨h,_⟩
   ·exact .inl h
   ·exact .inr ⟨_,_,_,_,h⟩
  refine ⟨_,_,fun C=>WJ rfl (e:=65) (by kernel_rfl) Jf.aG aeE,?_⟩;rcases C_ with ⟨rfl,rfl,rfl,rfl⟩ | ⟨rfl,rfl,cs,al,⟨ad,rfl⟩ | ⟨ad,rfl⟩⟩
  ·(conv=>whnf);refine DU Oj ?_;(conv=>whnf);refine ⟨⟨rfl,by decide⟩,?_⟩;(conv=>whnf);refine ⟨⟨by decide,by decide,rfl⟩,?_⟩;erw [←Hu];(conv=>whnf);refine DU Rj ?_;(conv=>whnf);erw [←Jc];(conv=>whnf);subst cb;unfold Nn;(conv=>whnf);refine DU Rf ?_;(conv=>whnf);refine DU Rn ?_;(conv=>whnf);refine ⟨(pY (qK (pY rfl (pY (qG (fun _=>(pY rfl (pY rfl rfl))) _ _ _) rfl))) (pY (I0 (pY rfl (pY rfl rfl))) rfl)),_,Jv (I5 jL),?_⟩;(conv=>whnf);refine DU Rk ?_;(conv=>whnf);exact ⟨rfl,qq,ji.refl _⟩
  ·(conv=>whnf);refine DU Oj ?_;(conv=>whnf);refine ⟨⟨rfl,by decide⟩,?_⟩;(conv=>whnf);refine DU al ?_;(conv=>whnf);refine .inl ⟨⟨rfl,rfl,rfl,ad,by decide,by omega⟩,?_⟩;erw [←Hu];(conv=>whnf);refine DU Rj ?_;(conv=>whnf);erw [←Jc];(conv=>whnf);subst cb;unfold Nn;(conv=>whnf);refine DU Rf ?_;(conv=>whnf);refine DU Rn ?_;(conv=>whnf);refine ⟨(pY (qK (pY rfl (pY (qG (fun _=>(pY rfl (pY rfl rfl))) _ _ _) rfl))) (pY (I0 (pY rfl (pY rfl rfl))) rfl)),_,Jv (I5 jL),?_⟩;(conv=>whnf);refine DU Rk ?_;(conv=>whnf);exact ⟨rfl,qq,ji.refl _⟩
  ·(conv=>whnf);refine DU Oj ?_;(conv=>whnf);refine ⟨⟨rfl,by decide⟩,?_⟩;(conv=>whnf);refine DU al ?_;(conv=>whnf);refine .inr ⟨⟨rfl,rfl,rfl,ad,by decide,by omega⟩,?_⟩;erw [←Hu];(conv=>whnf);refine DU Rj ?_;(conv=>whnf);erw [←Jc];(conv=>whnf);subst cb;unfold Nn;(conv=>whnf);refine DU Rf ?_;(conv=>whnf);refine DU Rn ?_;(conv=>whnf);refine ⟨(pY (qK (pY rfl (pY (qG (fun _=>(pY rfl (pY rfl rfl))) _ _ _) rfl))) (pY (I0 (pY rfl (pY rfl rfl))) rfl)),_,Jv (I5 jL),?_⟩;(conv=>whnf);refine DU Rk ?_;(conv=>whnf);exact ⟨rfl,qq,ji.refl _⟩
 ·rw [sQ];exact ⟨_,_,Wj.ahT (by omega) (by omega) (by omega)⟩
end

theorem VZ {α:Type} {q:α→Bool}:∀ {l:List α} {p:α},l.find? q=some p→∃ n,∃ h:n<l.length,l[n]=p∧q p=true∧∀ i (hi:i<n),q (l[i]'(by omega))=false
 | [],_,h=>by cases h
 | x::l,p,h=>by
   rw [List.find?_cons] at h;cases al:q x with
   | true =>
     rw [al] at h;obtain rfl:=Option.some.inj h;exact ⟨0,by simp,rfl,al,fun i hi=>absurd hi (by omega)⟩
   | false =>
     rw [al] at h;obtain ⟨n,ad,af,aG,a6⟩:=VZ h;refine ⟨n+1,by simpa using ad,af,aG,fun i hi=>?_⟩;cases i with
     | zero=>exact al
     | succ i=>exact a6 i (by omega)
theorem Se {b:p3} {f:Int} {p:Int×Int} (h:p∈places b f):0≤p.1∧p.1<(b.2.length:Int)∧0≤p.2∧p.2≤1∧qp b p=f:=by
 unfold places at h;obtain ⟨r,aj,rfl⟩:=ss.1 h;obtain ⟨ad,af⟩:=sM.1 aj;have ad:=sJ.1 ad;refine ⟨?_,?_,?_,?_,by simpa [rv] using af⟩ <;> unfold qY <;> simp only <;> omega
theorem X7 {α:Type} (l:List α):l=[]∨∃ (l':List α) (p:α),l=l'++[p]:=by
 rcases l.eq_nil_or_concat with h | ⟨l',p,h⟩
 ·exact .inl h
 ·exact .inr ⟨l',p,by rw [h,List.concat_eq_append]⟩
def JO (t:p3):Nat→List Nat→List (Int×Int)→List (Int×Int)→Int→Option (List (Int×Int))
 | 0,_,_,_,_=>none
 | m+1,L,way,out,a=>p6 (way.length≤1000∧out.length≤1000) <|
   match (places t a).find? (LQ L) with
   | some p=>p6 (rX (p.1,1-p.2)∈HC L p) (JO t m (Ja L p) (way++[p]) out (fin t p))
   | none=>match way.getLast? with
     | none=>some out
     | some p=>p6 (0≤p.1∧p.1<(t.2.length:Int)) (JO t m L way.dropLast (out++[p]) (qp t p))
def K2 (t:p3):Option (List (Int×Int)) :=
 p6 (0<t.2.length∧t.2.length≤1000) ((JO t p8 (List.range (2*t.2.length)) [] [] (ix t.2 0).1).bind fun out=>p6 (out.length≠0∧out.length≤1000) (some out.reverse))
section
variable {t:p3} {L:List Nat} {way out:List (Int×Int)} {a:Int} {q' v5:I} {x y:Nat} {H:List au} {p:Int×Int}
theorem rF.aiI (cm:rF t L way out a q' v5 x y H):v5.settle=v5:=by
 rcases cm.aq with ⟨_,h⟩ | ⟨h,_⟩ <;> rw [h] <;> rfl
theorem rF.pop {b:Int} (cm:rF t L (way++[p]) out a q' v5 x y H) (hw:q'=.cl x (x+1) (way.length+1) 2) {cells:List I} (ao:cells=(out++[p]).flatMap p0) {D:List au} {G:List au} (Hc:G=H.set 3 (.cells [.cl x (x+1) way.length 2])) (qM:D=G∨(D=G.set y .dead∧4<y)) :
  rF t L way (out++[p]) b (.cl x (x+1) way.length 2) (.cl G.length (G.length+1) (out.length+1) 2) x G.length ((D++[au.grow cells (G.length+1) 2,au.dead]).set 4 (au.cells [hR b])):=by
 subst ao;have ak:=cm.len;have akX:G.length=H.length:=by rw [Hc];simp
 have Om:D.length=G.length:=by rcases qM with rfl | ⟨rfl,_⟩ <;> simp
 obtain ⟨rW,aS,⟨Ho,ad⟩,af,aG,a6,mb,aq,ne,JP,JQ,Jb,IU⟩:=cm;have Hu:∀ (j:Nat) (o:au),j≠3→H[j]?=some o→G[j]?=some o:=fun j o aw h=>by rw [Hc];exact qF h (Ne.symm aw)
 have adA:∀ (j:Nat) (o:au),j≠y→G[j]?=some o→D[j]?=some o:=fun j o aw h=>by
  rcases qM with rfl | ⟨rfl,_⟩
  ·exact h
  ·exact qF h (Ne.symm aw)
 have Ol:∀ (j:Nat) (o:au),j≤4→G[j]?=some o→D[j]?=some o:=fun j o aw h=>by
  rcases qM with rfl | ⟨rfl,aX⟩
  ·exact h
  ·exact qF h (by omega)
 refine ⟨rW,?_,⟨Ho,?_⟩,?_,?_,J5 (by simp;omega),.inr ?_,.inr ⟨by simp,by omega,?_⟩,by omega,by simp;omega,by simp;omega,Jb,.inr (by omega)⟩
 ·exact qF (qA (Ol 0 _ (by omega) (Hu 0 _ (by omega) aS))) (by omega)
 ·exact qF (qA (Ol 1 _ (by omega) (Hu 1 _ (by omega) ad))) (by omega)
 ·exact qF (qA (Ol 2 _ (by omega) (Hu 2 _ (by omega) af))) (by omega)
 ·refine qF (qA (Ol 3 _ (by omega) ?_)) (by omega);rw [Hc];exact J5 (by omega)
 ·rcases mb with ⟨bC,_⟩ | ⟨bC,bT,cs,rR,I4,Mi⟩
  ·exact absurd bC (by simp)
  ·refine ⟨rfl,bT,cs,qF (qA (adA x _ ne (Hu x _ (by omega) rR))) (by omega),?_,?_⟩
   ·rw [sm] at I4;omega
   ·have:=congrArg (List.take (way.length*2)) Mi;rw [List.take_take,List.flatMap_append] at this;rw [sm,tq (by omega)] at this;rw [this,List.take_append_of_le_length (by rw [Jo];exact sb _),tQ (by rw [Jo];exact sb _)]
 ·rw [←Om];exact qF (LC _ _) (by omega)
theorem aeU {cs:List I} (h:(way.length+1)*2≤cs.length) (e:cs.take ((way.length+1)*2)=(way++[p]).flatMap p0):cs[way.length*2]?=some (hR p.1)∧cs[way.length*2+1]?=some (hR p.2):=by
 have g:=O1 (way++[p]) way.length (by simp);have ae:(way++[p]).getD way.length (0,0)=p:=by simp
 rw [ae,←e,sV,sV,if_pos (by omega),if_pos (by omega)] at g;exact g
theorem ahF {LV:List (Int×Int)} (pH:t.2.length≤1000) (Je:rF t L way out a q' v5 x y H) (h:JO t p8 L way out a=some LV)
  {Q:cB→List I→List au→Prop} (av:∀ L a q' v5 x y H Me Mf Mg YT,rF t L [] LV a q' v5 x y H→Q (.exit 2) (GD 92 [(1,.ptr 0 0),(3,.ptr 2 0),(5,v5),(6,.ptr 3 0),(7,.ptr 4 0),(8,.func 89 [G1 t] []),(38,Me),(39,Mf),(40,Mg),(67,YT)]) H)
  {T:List I} (bX:eT [false,true,false,true,false,true,true,true,true,false,false,false,false,false,false,false,false,false,false,false,false,false,false,false,false,false,false,false,false,false,false,false,false,false,false,false,false,false,false,false,false,false,false,false,false,false,false,false,false,false,false,false,false,false,false,false,false,false,false,false,false,false,false,false,false,false,false,false,false,false,false,false,false,false,false,false,false,false,false,false,false,false,false,false,false,false,false,false,false,false,false,false] T=GD 92 [(1,.ptr 0 0),(3,.ptr 2 0),(5,v5),(6,.ptr 3 0),(7,.ptr 4 0),(8,.func 89 [G1 t] [])]):dD Tryz.prog KB 104 0 none O7 T H Q:=by
 unfold O7;obtain ⟨m1,G5⟩:∃ c,SA=c:=⟨_,rfl⟩;rw [G5];refine wp_loop bX ?_;refine .intro (fun m T H=>∃ L way out a q' v5 x y,rF t L way out a q' v5 x y H∧T=GD 92 [(1,.ptr 0 0),(3,.ptr 2 0),(5,v5),(6,.ptr 3 0),(7,.ptr 4 0),(8,.func 89 [G1 t] [])]∧JO t m L way out a=some LV) p8 ⟨_,_,_,_,_,_,_,_,Je,rfl,h⟩ ?_;clear h bX Je;rintro m T H ⟨L,way,out,a,q',v5,x,y,cm,rfl,h⟩;cases m
 ·exact q9 h
 rename_i m;rw [JO.eq_2] at h;obtain ⟨⟨RW,fH⟩,h⟩:=qJ h;have Ww:Kh t a=some (places t a):=by rw [Kh,if_pos pH]
 subst G5;unfold SA;obtain ⟨akP,Wc⟩:∃ c,SD=c:=⟨_,rfl⟩;obtain ⟨fR,rQ⟩:∃ c,Sz=c:=⟨_,rfl⟩;rw [Wc,rQ];refine HU fun mU GZ=>?_;conv=>whnf
 refine DU cm.a6 ?_;conv=>whnf
 refine ⟨(pY (qK (pY rfl (pY (qG (fun _=>(pY rfl (pY rfl rfl))) _ _ _) rfl))) (pY rfl rfl)),_,akm (v:=()) rfl,?_⟩;conv=>whnf
 subst Wc;unfold SD;have OJ:=cm.aiI;cases a3:(places t a).find? (LQ L) with
 | some p =>
   rw [a3] at h;obtain ⟨RP,ak⟩:=qJ h;obtain ⟨n,aN,aeo,gZ,fX⟩:=VZ a3;have aC:=Se (List.mem_of_find?_eq_some a3);refine ahA (id:=3) (f:=fun e=>.agg (p0 e)) (ahM Ww) aN (by exact rfl) (fun i hi Y=>?_) (fun Y=>?_) (by exact rfl)
   ·have yO:=Se (sE (show i<(places t a).length by omega));exact XO cm yO.1 ⟨yO.2.2.1,yO.2.2.2.1⟩ (of_decide_eq_false (fX i hi)) Y
   ·rw [aeo];obtain ⟨H',aez,ad1,TV,oj,o0⟩:=ahG cm ⟨aC.1,aC.2.1⟩ ⟨aC.2.2.1,aC.2.2.2.1⟩ (of_decide_eq_true gZ) RP RW Y;refine ⟨H',⟨ad1,?_⟩,aez⟩;(conv=>whnf);refine GZ _ _ _ ?_;(conv=>whnf);exact ⟨m,sv m,_,_,_,_,TV,v5.settle,oj,y,by rw [OJ];exact o0,rfl,ak⟩
 | none =>
   rw [a3] at h;have fX:=vh.1 a3;refine ahC (f:=fun e=>.agg (p0 e)) (ahN Ww) (fun _=>H) (by exact rfl) rfl (fun _=>rfl) (fun i hi Y=>?_) (by exact rfl) rfl (fun Y=>?_)
   ·have yO:=Se (sE hi);exact XO cm yO.1 ⟨yO.2.2.1,yO.2.2.2.1⟩ (by have:=fX _ (sE hi);simpa [LQ] using this) Y
   have Ip:rF t L way out a q' v5 x y ((H++[.dead])++Y):=(cm.more _).more _;clear cm;obtain ⟨G,Hc⟩:∃ G,G=(H++[au.dead])++Y:=⟨_,rfl⟩;rw [←Hc] at Ip ⊢;(conv=>whnf);refine DU Ip.aG ?_;rcases Ip.hw with ⟨rfl,rfl⟩ | ⟨rfl,alc,cs,al,cC,Ci⟩
   ·obtain rfl:=Option.some.inj h;(conv=>whnf);refine GZ _ _ _ ?_;(conv=>whnf);exact av _ _ _ _ _ _ _ _ _ _ _ (by rw [OJ];exact Ip)
   ·(conv=>whnf);rcases X7 way with rfl | ⟨HI,p,rfl⟩
    ·obtain rfl:=Option.some.inj h;(conv=>whnf);refine GZ _ _ _ ?_;(conv=>whnf);exact av _ _ _ _ _ _ _ _ _ _ _ (by rw [OJ];exact Ip)
    ·rw [List.getLast?_concat] at h;obtain ⟨jL,ak⟩:=qJ h;rw [List.dropLast_concat] at ak;(have hlen:(HI++[p]).length=HI.length+1:=by simp);(have y0:IntKind.i64.wrap ((((HI++[p]).length:Nat):Int)-1)=(HI.length:Int):=by rw [hlen,Ih _ (by omega) (by omega)];omega);rw [hlen] at cC Ci RW;obtain ⟨jB,hY⟩:=aeU cC Ci;have aef:=Ip.len;have HS:=Ip.ne;have aeh:=Ip.JP;have aei:=Ip.JQ;have ad2:=Ip.IU;rw [decide_eq_false (show ¬ ((((HI++[p]).length:Nat):Int)=0) by omega)];rw [OJ];(conv=>whnf);subst rQ;unfold Sz;obtain ⟨dY,BZ⟩:∃ c,Sy=c:=⟨_,rfl⟩;rw [BZ];(conv=>whnf);refine DU Ip.aG ?_;(conv=>whnf);refine DU Ip.aG ?_;(conv=>whnf);rw [y0];refine ⟨by omega,?_⟩;(conv=>whnf);refine DU al ?_;(conv=>whnf);refine DU (by rw [show 0+(HI.length:Int).toNat*2=HI.length*2 by omega];exact jB) ?_;(conv=>whnf);refine DU (by rw [show 0+(HI.length:Int).toNat*2+1=HI.length*2+1 by omega];exact hY) ?_;(conv=>whnf);refine DU (IH _ _) ?_;(conv=>whnf);rw [ru];(conv=>whnf);obtain ⟨HJ,IX⟩:∃ HJ,HJ=G++[au.cells [hR p.1,hR p.2]]:=⟨_,rfl⟩;(have o1:rF t L (HI++[p]) out a (.cl x (x+1) (HI++[p]).length 2) v5 x y HJ:=by rw [IX];exact Ip.more _);(have adw:HJ[G.length]?=some (.cells [hR p.1,hR p.2]):=by rw [IX];exact IH _ _);(have hz:HJ.length=G.length+1:=by rw [IX];simp);erw [←IX];subst BZ;unfold Sy;obtain ⟨b7,hp⟩:∃ c,Sx=c:=⟨_,rfl⟩;rw [hp];(conv=>whnf);refine ⟨_,_,fun C=>WJ rfl (e:=65) (by kernel_rfl) o1.aG (.inr ⟨_,_,_,_,rfl⟩),?_⟩;(conv=>whnf);refine DU o1.aG ?_;(conv=>whnf);rw [y0];refine ⟨⟨by omega,by omega⟩,?_⟩;(conv=>whnf);refine DU o1.aG ?_;(conv=>whnf);obtain ⟨q8,H3⟩:∃ q8,q8=HJ.set 3 (.cells [.cl x (x+1) HI.length 2]):=⟨_,rfl⟩;(have Oi:q8[G.length]?=some (.cells [hR p.1,hR p.2]):=by rw [H3];exact qF adw (by omega));(have We:q8[0]?=some (Ig t):=by rw [H3];exact qF o1.aS (by omega));(have Wf:q8[4]?=some (.cells [hR a]):=by rw [H3];exact qF o1.a6 (by omega));(have fa:q8.length=HJ.length:=by rw [H3];simp);erw [←H3];subst hp;unfold Sx;obtain ⟨bq,d_⟩:∃ c,Xy=c:=⟨_,rfl⟩;rw [d_];rcases o1.aq with ⟨aq,rfl⟩ | ⟨rfl,Wy,a0⟩
     ·have RS:=o1.pop (b:=qp t p) (by rw [hlen]) (cells:=p0 p) (by rw [aq];simp) H3 (.inl rfl);(conv=>whnf);refine DU Oi ?_;(conv=>whnf);refine ⟨⟨rfl,by decide⟩,?_⟩;(conv=>whnf);refine ⟨⟨by decide,by decide,rfl⟩,?_⟩;have Rh:(q8++[au.grow (p0 p) (q8.length+1) 2,au.dead])[G.length]?=some (.cells [hR p.1,hR p.2]):=qA Oi;have Rg:(q8++[au.grow (p0 p) (q8.length+1) 2,au.dead])[0]?=some (Ig t):=qA We;have Rl:(q8++[au.grow (p0 p) (q8.length+1) 2,au.dead])[4]?=some (.cells [hR a]):=qA Wf;subst d_;(conv=>whnf);refine DU Rg ?_;(conv=>whnf);refine DU Rh ?_;(conv=>whnf);refine ⟨(pY (qK (pY rfl (pY (qG (fun _=>(pY rfl (pY rfl rfl))) _ _ _) rfl))) (pY (I0 (pY rfl (pY rfl rfl))) rfl)),_,Jv (I5 jL),?_⟩;(conv=>whnf);refine DU Rl ?_;(conv=>whnf);refine GZ _ _ _ ?_;(conv=>whnf);exact ⟨m,sv m,_,HI,_,_,_,_,_,_,RS,by rw [aq];rfl,ak⟩
     ·(have aeH:q8[y]?=some (.grow (out.flatMap p0) (y+1) 2):=by rw [H3];exact qF a0 (by omega));have RS:=o1.pop (b:=qp t p) (by rw [hlen]) (cells:=out.flatMap p0++p0 p) (by simp) H3 (.inr ⟨rfl,Wy⟩);(conv=>whnf);refine DU Oi ?_;(conv=>whnf);refine ⟨⟨rfl,by decide⟩,?_⟩;(conv=>whnf);refine DU aeH ?_;(conv=>whnf);refine .inl ⟨⟨rfl,rfl,rfl,Jo _,by decide,by omega⟩,?_⟩;have Rh:(q8.set y .dead++[au.grow (out.flatMap p0++p0 p) (q8.length+1) 2,au.dead])[G.length]?=some (.cells [hR p.1,hR p.2]):=qA (qF Oi (by omega));have Rg:(q8.set y .dead++[au.grow (out.flatMap p0++p0 p) (q8.length+1) 2,au.dead])[0]?=some (Ig t):=qA (qF We (by omega));have Rl:(q8.set y .dead++[au.grow (out.flatMap p0++p0 p) (q8.length+1) 2,au.dead])[4]?=some (.cells [hR a]):=qA (qF Wf (by omega));subst d_;(conv=>whnf);refine DU Rg ?_;(conv=>whnf);refine DU Rh ?_;(conv=>whnf);refine ⟨(pY (qK (pY rfl (pY (qG (fun _=>(pY rfl (pY rfl rfl))) _ _ _) rfl))) (pY (I0 (pY rfl (pY rfl rfl))) rfl)),_,Jv (I5 jL),?_⟩;(conv=>whnf);refine DU Rl ?_;(conv=>whnf);refine GZ _ _ _ ?_;(conv=>whnf);exact ⟨m,sv m,_,HI,_,_,_,_,_,_,RS,rfl,ak⟩
end

theorem agz (l:List (Int×Int)):(l.flatMap p0).map I.view=l.flatMap p0:=by
 rw [List.map_flatMap];rfl
theorem aeM {t:p3} (pH:t.2.length≤1000)
  {Q:cB→List I→List au→Prop} (av:∀ FF,Q (.exit 0) (GD 92 [(1,.ptr 0 0),(3,.ptr 2 0),(4,FF),(17,hR t.2.length),(18,hR t.2.length),(19,B (decide ((t.2.length:Int)<(t.2.length:Int))))]) [Ig t,.map (rq (List.range (2*t.2.length))) (2*t.2.length),.cells [.map 1]])
  {T:List I} (bX:eT [false,true,false,true,false,false,false,false,false,false,false,false,false,false,false,false,false,true,true,false,false,false,false,false,false,false,false,false,false,false,false,false,false,false,false,false,false,false,false,false,false,false,false,false,false,false,false,false,false,false,false,false,false,false,false,false,false,false,false,false,false,false,false,false,false,false,false,false,false,false,false,false,false,false,false,false,false,false,false,false,false,false,false,false,false,false,false,false,false,false,false,false] T=GD 92 [(1,.ptr 0 0),(3,.ptr 2 0),(17,hR t.2.length),(18,hR (0:Nat))]):dD Tryz.prog KB 104 0 none O8 T [Ig t,.map [] 0,.cells [.map 1]] Q:=by
 unfold O8;obtain ⟨bk,b8⟩:∃ c,Sw=c:=⟨_,rfl⟩;rw [b8];refine wp_loop bX ?_;refine .intro (fun m T H=>∃ i:Nat,i≤t.2.length∧m=t.2.length-i∧T=GD 92 [(1,.ptr 0 0),(3,.ptr 2 0),(17,hR t.2.length),(18,hR i)]∧H=[Ig t,.map (rq (List.range (2*i))) (2*i),.cells [.map 1]]) t.2.length ⟨0,by omega,by omega,rfl,rfl⟩ ?_;clear bX;rintro m T H ⟨i,hi,rfl,rfl,rfl⟩;conv=>whnf
 refine Hs (fun aU=>?_) (fun aU=>?_)
 ·have aU:i<t.2.length:=by omega
  have dd:I.agg [hR (i:Int),hR 0]=.agg (p0 (qY (2*i))):=by
   have:=O0 (n:=t.2.length) (i:=i) (b:=0) aU (by omega);rw [show 2*i+0=2*i by omega] at this;rw [this];rfl
  have aJ:I.agg [hR (i:Int),hR 1]=.agg (p0 (qY (2*i+1))):=by
   rw [O0 (n:=t.2.length) (i:=i) (b:=1) aU (by omega)];rfl
  have f0:fB (.agg [hR (i:Int),hR 0]) (rq (List.range (2*i))) 0=some none:=by rw [dd];exact Oe _ _ _ (by simp)
  have f1:fB (.agg [hR (i:Int),hR 1]) (rq (List.range (2*i+1))) 0=some none:=by rw [aJ];exact Oe _ _ _ (by simp)
  have fT:rq (List.range (2*i))++[(2*i,I.agg [hR (i:Int),hR 0],hR 1)]=rq (List.range (2*i+1)):=by rw [dd,VP,←vg]
  have e1:rq (List.range (2*i+1))++[(2*i+1,I.agg [hR (i:Int),hR 1],hR 1)]=rq (List.range (2*i+1+1)):=by rw [aJ,VP,←vg]
  conv=>whnf
  subst b8;unfold Sw;obtain ⟨a',cb⟩:∃ c,St=c:=⟨_,rfl⟩;rw [cb];refine HU fun mU GZ=>?_;conv=>whnf
  subst cb;unfold St;conv=>whnf
  refine ⟨rfl,_,_,rfl,none,f0,?_⟩;conv=>whnf
  refine ⟨rfl,_,_,rfl,none,(by erw [fT];exact f1),?_⟩;conv=>whnf
  erw [fT,e1];refine GZ _ _ _ ?_;conv=>whnf
  exact ⟨t.2.length-(i+1),by omega,i+1,by omega,rfl,by rw [←q5 i (by omega)] <;> rfl,rfl⟩
 ·obtain rfl:i=t.2.length:=by omega
  conv=>whnf
  exact av _
theorem TY {t:p3} {v:List (Int×Int)} (h:K2 t=some v):qg 104 [G1 t] (.ay (v.flatMap p0) v.length .shared):=by
 obtain ⟨⟨CL,pH⟩,h⟩:=qJ h;obtain ⟨out,ak,h⟩:=p' h;obtain ⟨⟨aeq,jJ⟩,h⟩:=qJ h;obtain rfl:=Option.some.inj h;refine qB dJ aeX rfl (qG (fun _=>(pY rfl (pY rfl rfl))) _ _ _) fun Q bl=>?_;have jy:∀ T H,HW [.tmp 2] (.ay (out.reverse.flatMap p0) out.reverse.length .shared) .ret T H→Q .ret T H:=fun T H bI=>bl _ T H bI;unfold Xx;obtain ⟨Vv,J4⟩:∃ c,Sv=c:=⟨_,rfl⟩;rw [J4];conv=>whnf
 subst J4;unfold Sv;obtain ⟨QR,IG⟩:∃ c,O8=c:=⟨_,rfl⟩;obtain ⟨Vu,JF⟩:∃ c,Su=c:=⟨_,rfl⟩;rw [IG,JF];conv=>whnf
 subst IG;refine aeM (t:=t) pH ?_ (by exact rfl);intro FF;conv=>whnf
 subst JF;unfold Su;obtain ⟨m2,rT⟩:∃ c,SB=c:=⟨_,rfl⟩;obtain ⟨BF,IF⟩:∃ c,SC=c:=⟨_,rfl⟩;rw [rT,IF];conv=>whnf
 refine ⟨by omega,?_⟩;conv=>whnf
 refine ahs p0 2 qw t.2 0 ⟨by omega,by omega⟩ rfl ?_;conv=>whnf
 subst rT;unfold SB;obtain ⟨akO,Wb⟩:∃ c,O7=c:=⟨_,rfl⟩;rw [Wb];conv=>whnf
 subst Wb;have cm:rF t (List.range (2*t.2.length)) [] [] (ix t.2 0).1 (.ay [] 0 .full) (.ay [] 0 .full) 0 2 [Ig t,.map (rq (List.range (2*t.2.length))) (2*t.2.length),.cells [.map 1],.cells [.ay [] 0 .full],.cells [hR (ix t.2 0).1]] :=
  ⟨uc,rfl,⟨_,rfl⟩,rfl,rfl,rfl,.inl ⟨rfl,rfl⟩,.inl ⟨rfl,rfl⟩,by decide,by simp,by simp,.inl rfl,.inl rfl⟩
 refine ahF pH cm ak ?_ (by exact rfl);intro L a q' v5 x y H Me Mf Mg YT Hl;conv=>whnf
 subst IF;unfold SC;rcases Hl.aq with ⟨rfl,_⟩ | ⟨rfl,Wy,a0⟩
 ·exact absurd rfl aeq
 conv=>whnf
 refine ⟨_,_,Ha (ahu out (by omega) (by omega) (sr _) a0),?_⟩;conv=>whnf
 refine ⟨_,_,fun C=>V7 rfl (sr _) (J5 (sa.1 a0).1) (by rw [Jo,List.length_reverse]),?_⟩;rw [agz];conv=>whnf
 rw [List.length_reverse] at jy;exact jy _ _ ⟨.inr rfl,_,rfl,_,oT (qG (fun _=>(pY rfl (pY rfl rfl))) _ _ _),rfl⟩
end Go.Proofs.YtfakoboiahbhaaaGreat.Ab


namespace Go.Proofs.YtfakoboiahbhaaaGreat.Ab
open Go
def Ht (e:Int×Int) (v:Int):Nat:=(if e.1=v then 1 else 0)+(if e.2=v then 1 else 0)
def qz (b:p3) (S:List Int) (v:Int):Nat:=(S.map fun i=>Ht (ix b.2 i) v).sum
section
variable {b t:p3}
theorem ac0 (p:Int×Int) (v:Int):Ht (ix b.2 p.1) v=(if qp b p=v then 1 else 0)+(if fin b p=v then 1 else 0):=by
 unfold Ht qp fin;by_cases h:0<p.2
 ·rw [if_pos h,if_pos h,Nat.add_comm]
 ·rw [if_neg h,if_neg h]
theorem JE (v:Int):qz b [] v=0:=rfl
theorem KF (i:Int) (S:List Int) (v:Int):qz b (i::S) v=Ht (ix b.2 i) v+qz b S v:=by simp [qz]
theorem MP (S S':List Int) (v:Int):qz b (S++S') v=qz b S v+qz b S' v:=by simp [qz]
theorem MQ {S S':List Int} (h:S.Perm S') (v:Int):qz b S v=qz b S' v:=by
 unfold qz;exact (h.map _).sum_nat
theorem QX {S:List Int} {v:Int}:qz b S v=0↔∀ i∈S,¬ qI b i v:=by
 induction S with
 | nil=>simp [JE]
 | cons i S a_ =>
   rw [KF,Nat.add_eq_zero_iff,a_];simp only [sk,forall_eq_or_imp];refine and_congr ?_ Iff.rfl;unfold Ht qI;split <;> split <;> simp [*]
theorem IL:∀ (l l':Row) (a:Int),qv b a (l++l')=(qv b a l).bind fun c=>qv b c l'
 | [],_,_=>rfl
 | p::l,l',a=>by
   rw [uS,qv,qv];split
   ·exact IL l l' _
   ·rfl
theorem Js {a c:Int} {p:Int×Int}:qv b a [p]=some c↔qp b p=a∧fin b p=c:=by
 rw [qv,qv];split
 ·rename_i h;simp [h]
 ·rename_i h;simp [h]
theorem H9 {a c:Int} {p:Int×Int} {l:Row}:qv b a (p::l)=some c↔qp b p=a∧qv b (fin b p) l=some c:=by
 rw [qv];split
 ·rename_i h;simp [h]
 ·rename_i h;simp [h]
theorem NC:∀ (l:Row) (a c v:Int),qv b a l=some c→(qz b (l.map (·.1)) v+(if a=v then 1 else 0)+(if c=v then 1 else 0)) % 2=0
 | [],a,c,v,h=>by
   have:a=c:=by simpa [qv] using h
   subst this;rw [tt,JE];split <;> rfl
 | p::l,a,c,v,h=>by
   obtain ⟨ad,af⟩:=H9.1 h;have a_:=NC l _ c v af;rw [se,KF,ac0,ad];omega
def Hp (t:p3) (p:Int×Int):Prop:=0≤p.1∧p.1<(t.2.length:Int)∧0≤p.2∧p.2≤1
theorem Im (p:Int×Int) (v:Int):qI b p.1 v↔qp b p=v∨fin b p=v:=by
 unfold qI qp fin;split
 ·exact Or.comm
 ·exact Iff.rfl
theorem adf {i:Nat} (hi:i<t.2.length) {v:Int} (h:qI t i v):∃ p∈places t v,p.1=(i:Int):=by
 rcases h with h | h
 ·exact ⟨((i:Int),0),Kb.2 ⟨by simp only;omega,by simp only;omega,by simp only;omega,by simp only;omega,h⟩,rfl⟩
 ·exact ⟨((i:Int),1),Kb.2 ⟨by simp only;omega,by simp only;omega,by simp only;omega,by simp only;omega,h⟩,rfl⟩
structure Hq (t:p3) (s:Int) (L:List Nat) (way out:Row) (a h:Int):Prop where
 iu:∀ x∈L,x<2*t.2.length
 sym:∀ i:Nat,2*i∈L↔2*i+1∈L
 ok:∀ p∈way++out,Hp t p
 Pn:((way++out).map (·.1)).Nodup
 KW:∀ i:Nat,i<t.2.length→(2*i∈L↔(i:Int) ∉ (way++out).map (·.1))
 go:qv t s way=some a
 back:qv t h out.reverse=some s
 OQ:∀ p∈out,∀ i:Nat,i<t.2.length→2*i∈L→¬ qI t i (fin t p)
theorem WC {p:Int×Int} (h:Hp t p):∃ i:Nat,p.1=(i:Int)∧i<t.2.length∧((p.2=0∧rX p=2*i∧rX (p.1,1-p.2)=2*i+1)∨(p.2=1∧rX p=2*i+1∧rX (p.1,1-p.2)=2*i)):=by
 obtain ⟨ad,af,aG,a6⟩:=h;refine ⟨p.1.toNat,by omega,by omega,?_⟩;unfold rX;simp only;rcases show p.2=0∨p.2=1 by omega with h | h
 ·left;omega
 ·right;omega
theorem af0 {L:List Nat} {p:Int×Int} {x:Nat}:x∈Ja L p↔x∈L∧x≠rX p∧x≠rX (p.1,1-p.2):=by
 unfold Ja HC;simp only [sM,decide_eq_true_eq,and_assoc]
theorem R2 {α:Type} (q:α→Bool):∀ (l:List α) (x:α),x∈l→q x=false→(l.filter q).length<l.length
 | [],_,h,_=>by simp at h
 | y::l,x,h,a3=>by
   have hle:=tJ q l;rw [tc];rcases sk.1 h with rfl | h
   ·rw [a3];simp only [Bool.false_eq_true,if_false,sH];omega
   ·have a_:=R2 q l x h a3;split <;> simp only [sH] <;> omega
theorem ac7 {L:List Nat} {p:Int×Int} (h:rX p∈L) (af:rX (p.1,1-p.2)∈HC L p):(Ja L p).length+2≤L.length:=by
 have aB:=R2 (fun x=>decide (x≠rX p)) L _ h (by simp);have aH:=R2 (fun x=>decide (x≠rX (p.1,1-p.2))) (HC L p) _ af (by simp);unfold Ja;unfold HC at aB aH ⊢;omega
theorem Hq.step {s a h:Int} {L:List Nat} {way out:Row} {p:Int×Int} (kn:Hq t s L way out a h) (aC:p∈places t a) (fl:rX p∈L):Hq t s (Ja L p) (way++[p]) out (fin t p) h∧rX (p.1,1-p.2)∈HC L p:=by
 have a3:=Kb.1 aC;have bO:Hp t p:=⟨a3.1,a3.2.1,a3.2.2.1,a3.2.2.2.1⟩;obtain ⟨i,hi,qT,al⟩:=WC bO;have Ri:2*i∈L:=by
  rcases al with al | al
  ·rw [←al.2.1];exact fl
  ·rw [kn.sym,←al.2.1];exact fl
 have adx:=(kn.sym i).1 Ri;have aZ:∀ x,x∈Ja L p↔x∈L∧x≠2*i∧x≠2*i+1:=fun x=>by
  rw [af0];rcases al with al | al <;> rw [al.2.1,al.2.2] <;> constructor <;> rintro ⟨ad,af,aG⟩ <;> exact ⟨ad,by omega,by omega⟩
 have aen:=(kn.KW i qT).1 Ri;have It:((way++[p]++out).map (·.1)).Perm (p.1::(way++out).map (·.1)):=by
  rw [←se];refine List.Perm.map _ ?_;rw [sj];exact List.perm_middle
 refine ⟨⟨fun x al=>kn.iu x ((aZ x).1 al).1,fun j=>?_,fun q a3=>?_,?_,fun j aw=>?_,?_,kn.back,fun q a3 j aw ad_=>kn.OQ q a3 j aw ((aZ _).1 ad_).1⟩,?_⟩
 ·rw [aZ,aZ,kn.sym j];constructor <;> rintro ⟨ad,af,aG⟩ <;> exact ⟨ad,by omega,by omega⟩
 ·rcases sS.1 a3 with a3 | a3
  ·rcases sS.1 a3 with a3 | a3
   ·exact kn.ok q (ve _ a3)
   ·rw [sB.1 a3];exact bO
  ·exact kn.ok q (List.mem_append_right _ a3)
 ·rw [It.nodup_iff,uh];exact ⟨by rw [hi];exact aen,kn.Pn⟩
 ·rw [aZ,kn.KW j aw,It.mem_iff,sk,hi];constructor
  ·rintro ⟨ad,af,_⟩ (aG | aG)
   ·omega
   ·exact ad aG
  ·intro ad;refine ⟨fun af=>ad (.inr af),fun e=>ad (.inl (by omega)),by omega⟩
 ·rw [IL,kn.go];exact Js.2 ⟨a3.2.2.2.2,rfl⟩
 ·unfold HC;rw [sM];rcases al with al | al <;> rw [al.2.1,al.2.2]
  ·exact ⟨adx,by simp⟩
  ·exact ⟨Ri,by simp⟩
def OM (t:p3) (L:List Nat):List Int:=(upto t.2.length).filter fun i=>decide (2*i.toNat∈L)
theorem R8 {L:List Nat} {x:Int}:x∈OM t L↔∃ i:Nat,i<t.2.length∧x=(i:Int)∧2*i∈L:=by
 unfold OM;rw [sM,Hf,decide_eq_true_eq];constructor
 ·rintro ⟨⟨ad,af⟩,aG⟩;exact ⟨x.toNat,by omega,by omega,aG⟩
 ·rintro ⟨i,ad,rfl,aG⟩;exact ⟨⟨by omega,by omega⟩,by simpa using aG⟩
theorem Hq.perm {s a h:Int} {L:List Nat} {way out:Row} (kn:Hq t s L way out a h):(upto t.2.length).Perm (OM t L++(way++out).map (·.1)):=by
 refine (uL (Iy _) ?_).2 fun x=>?_
 ·rw [ua];refine ⟨(Iy _).filter _,kn.Pn,fun x al y a0 e=>?_⟩;subst e;obtain ⟨i,hi,rfl,fl⟩:=R8.1 al;exact (kn.KW i hi).1 fl a0
 ·rw [sS,R8,Hf];constructor
  ·rintro ⟨ad,af⟩;obtain ⟨i,rfl⟩:∃ i:Nat,x=(i:Int):=⟨x.toNat,by omega⟩;by_cases hm:(i:Int)∈(way++out).map (·.1)
   ·exact .inr hm
   ·exact .inl ⟨i,by omega,rfl,(kn.KW i (by omega)).2 hm⟩
  ·rintro (⟨i,hi,rfl,_⟩ | hm)
   ·omega
   ·obtain ⟨p,aC,rfl⟩:=ss.1 hm;have:=kn.ok p aC;exact ⟨this.1,this.2.1⟩
theorem Hq.len {s a h:Int} {L:List Nat} {way out:Row} (kn:Hq t s L way out a h):way.length+out.length≤t.2.length:=by
 have:=kn.perm.length_eq;rw [rN] at this;simp at this;omega
theorem Hq.stuck {s a h:Int} {L:List Nat} {way out:Row} (kn:Hq t s L way out a h) (aA:∀ v,qz t (upto t.2.length) v % 2=0) (ai:∀ i:Nat,i<t.2.length→2*i∈L→¬ qI t i a):h=a:=by
 have aS:qz t (OM t L) a=0:=QX.2 fun x al=>by
  obtain ⟨i,hi,rfl,fl⟩:=R8.1 al;exact ai i hi fl
 have ad:=aA a;rw [MQ kn.perm,MP,aS,sY,MP] at ad;have af:=NC _ _ _ a kn.go;have aG:=NC _ _ _ a kn.back;have a6:qz t (out.reverse.map (·.1)) a=qz t (out.map (·.1)) a:=MQ ((vG out).map _) a;rw [a6] at aG;rw [if_pos rfl] at af;by_cases e:h=a
 ·exact e
 ·rw [if_neg e] at aG;omega
theorem Hq.pop {s a:Int} {L:List Nat} {way out:Row} {p:Int×Int} (kn:Hq t s L (way++[p]) out a a) (ai:∀ i:Nat,i<t.2.length→2*i∈L→¬ qI t i a):Hq t s L way (out++[p]) (qp t p) (qp t p):=by
 have It:(way++(out++[p])).Perm (way++[p]++out):=by
  rw [sj];exact List.Perm.append_left way wk
 have G7:=kn.go;rw [IL] at G7;obtain ⟨c,ad,af⟩:=p' G7;obtain ⟨aG,a6⟩:=Js.1 af;refine ⟨kn.iu,kn.sym,fun q a3=>kn.ok q (It.mem_iff.1 a3),(It.map _).nodup_iff.2 kn.Pn,fun i hi=>?_,by rw [aG];exact ad,?_,fun q a3 i hi fl=>?_⟩
 ·rw [kn.KW i hi,(It.map (·.1)).mem_iff]
 ·rw [List.reverse_append];exact H9.2 ⟨rfl,by rw [a6];exact kn.back⟩
 ·rcases sS.1 a3 with a3 | a3
  ·exact kn.OQ q a3 i hi fl
  ·rw [sB.1 a3,a6];exact ai i hi fl
theorem R5 (aA:∀ v,qz t (upto t.2.length) v % 2=0) (aN:t.2.length≤1000) {s:Int}:∀ (m:Nat) (L:List Nat) (way out:Row) (a h:Int),Hq t s L way out a h→L.length+way.length<m →
  ∃ ir GM,JO t m L way out a=some GM∧Hq t s ir [] GM s s∧∀ i:Nat,i<t.2.length→2*i∈ir→¬ qI t i s
 | 0,_,_,_,_,_,_,hm=>absurd hm (by omega)
 | m+1,L,way,out,a,h,kn,hm=>by
   have hlen:=kn.len;rw [JO,qe ⟨by omega,by omega⟩];cases aQ:(places t a).find? (LQ L) with
   | some p =>
     have aC:=List.mem_of_find?_eq_some aQ;(have fl:rX p∈L:=by simpa [LQ] using List.find?_some aQ);obtain ⟨ad,af⟩:=kn.step aC fl;have aG:=ac7 fl af;show ∃ ir GM,p6 (rX (p.1,1-p.2)∈HC L p) _=some GM∧_;rw [qe af];exact R5 aA aN m _ _ _ _ _ ad (by simp only [sm,tn];omega)
   | none =>
     have ai:∀ i:Nat,i<t.2.length→2*i∈L→¬ qI t i a:=fun i hi fl ks=>by
      obtain ⟨p,aC,e⟩:=adf hi ks;have a3:=Kb.1 aC;obtain ⟨j,aw,_,al⟩:=WC (t:=t) (p:=p) ⟨a3.1,a3.2.1,a3.2.2.1,a3.2.2.2.1⟩;(have gY:i=j:=by omega);subst gY;have fX:=vh.1 aQ p aC;refine fX ?_;simp only [LQ,decide_eq_true_eq];rcases al with al | al
      ·rw [al.2.1];exact fl
      ·rw [al.2.1];exact (kn.sym i).1 fl
     have adH:=kn.stuck aA ai;subst adH;rcases X7 way with rfl | ⟨HI,p,rfl⟩
     ·show ∃ ir GM,some out=some GM∧_;(have e:s=h:=by simpa [qv] using kn.go);subst e;exact ⟨L,out,rfl,kn,ai⟩
     ·rw [List.getLast?_concat];have bO:=kn.ok p (by simp);show ∃ ir GM,p6 (0≤p.1∧p.1<(t.2.length:Int)) (JO t m L (HI++[p]).dropLast (out++[p]) (qp t p))=some GM∧_;rw [qe ⟨bO.1,bO.2.1⟩,List.dropLast_concat];exact R5 aA aN m _ _ _ _ _ (kn.pop ai) (by simp only [sm,tn] at hm;omega)
structure Full (t:p3) (l:Row):Prop where
 ok:∀ p∈l,Hp t p
 rW:(l.map (·.1)).Nodup
 all:∀ i:Nat,i<t.2.length→(i:Int)∈l.map (·.1)
theorem Hq.all {s:Int} {L:List Nat} {out:Row} (kn:Hq t s L [] out s s) (ai:∀ i:Nat,i<t.2.length→2*i∈L→¬ qI t i s) (ao:∀ i:Nat,i<t.2.length→∃ v,qI t i v∧rf t (upto t.2.length) s v):∀ i:Nat,i<t.2.length→(i:Int)∈out.map (·.1):=by
 have adW:∀ (l:Row) (a c:Int),qv t a l=some c→∀ p∈l,qp t p=a∨∃ q∈l,fin t q=qp t p:=by
  intro l
  induction l with
  | nil=>intro a c _ p aC;simp at aC
  | cons q l a_ =>
    intro a c h p aC;obtain ⟨ad,af⟩:=H9.1 h;rcases sk.1 aC with rfl | aC
    ·exact .inl ad
    ·rcases a_ _ c af p aC with aG | ⟨fO,CT,aG⟩
     ·exact .inr ⟨q,by simp,aG.symm⟩
     ·exact .inr ⟨fO,by simp [CT],aG⟩
 have key:∀ v,rf t (upto t.2.length) s v→∀ i:Nat,i<t.2.length→2*i∈L→¬ qI t i v:=fun v ae=>by
  induction ae with
  | refl=>exact ai
  | step j _ aw aB aH a_ =>
    rename_i g F6;have ef:=Hf.1 aw;obtain ⟨k,rfl⟩:∃ k:Nat,j=(k:Int):=⟨j.toNat,by omega⟩;(have av:k<t.2.length:=by omega);have lY:2*k ∉ L:=fun h=>a_ k av h aB;have hm:(k:Int)∈out.map (·.1):=Classical.byContradiction fun aN=>lY ((kn.KW k av).2 (by simpa using aN));obtain ⟨p,aC,e⟩:=ss.1 hm;rw [←e] at aH;rcases (Im p _).1 aH with h | h
    ·rcases adW _ _ _ kn.back p (wm.2 aC) with aX | ⟨q,a3,aX⟩
     ·rw [←h,aX];exact ai
     ·intro i hi fl;rw [←h,←aX];exact kn.OQ q (wm.1 a3) i hi fl
    ·intro i hi fl;rw [←h];exact kn.OQ p aC i hi fl
 intro i hi;refine Classical.byContradiction fun aN=>?_;obtain ⟨v,ad,af⟩:=ao i hi;exact key v af i hi ((kn.KW i hi).2 (by simpa using aN)) ad
theorem ajg (aA:∀ v,qz t (upto t.2.length) v % 2=0) (aN:t.2.length≤1000) (aS:0<t.2.length) (ao:∀ i:Nat,i<t.2.length→∃ v,qI t i v∧rf t (upto t.2.length) (ix t.2 0).1 v) :
  ∃ l,K2 t=some l∧Full t l∧qv t (ix t.2 0).1 l=some (ix t.2 0).1:=by
 have kn:Hq t (ix t.2 0).1 (List.range (2*t.2.length)) [] [] (ix t.2 0).1 (ix t.2 0).1:=by
  refine ⟨fun x al=>sJ.1 al,fun i=>?_,fun p aC=>absurd aC (by simp),by simp,fun i hi=>?_,rfl,rfl,fun p aC=>absurd aC (by simp)⟩
  ·rw [sJ,sJ];omega
  ·rw [sJ];simp;omega
 obtain ⟨L,out,ad,af,aG⟩:=R5 aA aN p8 _ _ _ _ _ kn (rC (by simp;omega));have c_:=af.all aG ao;have hlen:=af.len;have bM:out.length≠0:=fun e=>by
  have:=c_ 0 aS;rw [s_.1 e] at this;simp at this
 refine ⟨out.reverse,?_,⟨fun p aC=>af.ok p (by simpa using aC),?_,fun i hi=>?_⟩,af.back⟩
 ·rw [K2,qe ⟨aS,aN⟩,ad,r_,qe ⟨bM,by omega⟩]
 ·exact ((vG out).map _).nodup_iff.2 (by simpa using af.Pn)
 ·exact ((vG out).map (·.1)).mem_iff.2 (c_ i hi)
end
end Go.Proofs.YtfakoboiahbhaaaGreat.Ab


namespace Go.Proofs.YtfakoboiahbhaaaGreat.Ab
open Go
set_option maxRecDepth 20000
set_option maxHeartbeats 4000000
noncomputable def Qa:eA :=
 .loop (some (Ex false [0,1,4,1,5,3,52])) (Gx [gO 14 [.sl 13,.sl 12] (.bin .lss)] (.seq (.cond (.sl 14) .skip (.exit 0)) (.seq (.block 1 (Gx [gO 15 [.sl 11,.sl 13] (.pO 1),Gj 16 15,Gm 7 16] (Gx [Gl 17 0,gO 18 [.hL 17] .zA,F4 19 18 0,F4 20 19 1,Gj 21 20,Gl 22 7,Gf 23 21 22 2,F4 24 23 0,Gj 25 24,gO 26 [.sl 5,.sl 25] (.y2 6 1),Gj 27 26,FX 28 27 1,gO 29 [.sl 5,.hL 25] (.y2 6 1),⟨none,[.hI 29,.hI 28],none,none,.st 1⟩] (Gq [Gl 30 0,gO 31 [.hL 30] .zA,F4 32 31 0,F4 33 32 1,Gj 34 33,Gm 35 7,Gf 36 34 35 2,F4 37 36 1,Gj 38 37,gO 39 [.sl 5,.sl 38] (.y2 6 1),Gj 40 39,FX 41 40 1,gO 42 [.sl 5,.hL 38] (.y2 6 1),⟨none,[.hI 42,.hI 41],none,none,.st 1⟩])))) (Gq [FX 43 13 1,Gm 13 43]))))
noncomputable def Qb:eA :=
 .loop (some (Ex false [8, 1, 38, 2, 17])) (Gx [gO 49 [.sl 48, .iC (.int .i64 6)] (.bin .lss)] (.seq (.cond (.sl 49) .skip (.exit 2)) (.seq (.block 3 (Gx [Gl 50 48, gO 51 [.sl 47, .sl 48] (.other (Oper.mk (some 51) (Op.index 101 (Operand.tmp 47) (Operand.tmp 48)) 3 "table.go:64" (Array.mk []) none) 0), Gm 9 50, Gm 10 51] (Gx [Gm 52 10, FY 53 52 2 .rem, FY 54 53 1 .eql] (.cond (.sl 54) (Gq [Gl 55 8, Gl 56 8, Gi 57 56, Gm 58 8, Gi 59 58, gO 60 [.hI 55, .hI 57, .hI 59] (.AW 1 false true true), Gm 61 9, gO 62 [.hL 61] (.x_ 1 1 [.int .i64 0] [0]), gO 63 [.hI 60, .hI 62] (.app 1 8), Gm 8 63]) .skip)))) (Gq [FX 64 48 1, Gm 48 64]))))
noncomputable def aa2:eA :=
 Gx [gO 4 [.iC (.ay [] 0 .full)] (.nil 1)] (Gx [gO 5 [] (.alloc [.int .i64 0, .int .i64 0, .int .i64 0, .int .i64 0, .int .i64 0, .int .i64 0])] (.seq (Gx [Gm 11 1, gO 12 [.sl 11] .w8, Gk 13 0] (.block 0 Qa)) (.seq (Gx [gO 44 [.sl 5] (.pV (.arr 6)), gO 45 [] (.build [.int .i64 0, .int .i64 0, .int .i64 0, .int .i64 0, .int .i64 0, .int .i64 0] []), gO 46 [.hL 44, .hL 45] (.other (Oper.mk (some 46) (Op.binOp .eql 101 (Operand.tmp 44) (Operand.tmp 45) 101) 4 "table.go:60" (Array.mk [Edge.mk 0 Ground.data, Edge.mk 1 Ground.data]) none) 0)] (.cond (.sl 46) (Gx [gO 4 [.iC (.ay [] 0 .full)] (.nil 1)] .ret) .skip)) (Gx [gO 8 [.iC (.ay [] 0 .full)] (.nil 1)] (.seq (Gx [gO 47 [.hL 5] (.pV (.arr 6)), Gk 48 0] (.block 2 Qb)) (Gx [Gm 65 8, Gm 4 65] .ret))))))
theorem afN:ze Tryz.prog N8 76=some (aa2,66,[.tmp 4]):=by kernel_rfl
def Ll (t:qb) (p_:qa) (p9:qa→Option qa):Nat→Int→qa→Option qa
 | 0,_,_=>none
 | m+1,s1,s2 =>
   if (decide (s1<(p_.length:Int)))=true then
    p6 (0≤s1∧s1<(p_.length:Int)) <|
    p6 (0≤(ix p_ s1)∧(ix p_ s1)<(t.2.length:Int)) <|
    p6 (0≤(ix t.2 (ix p_ s1)).1∧(ix t.2 (ix p_ s1)).1<(6:Int)∧6=s2.length) <|
    p6 (0≤(ix t.2 (ix p_ s1)).1∧(ix t.2 (ix p_ s1)).1<(6:Int)∧6=s2.length) <|
    p6 (0≤(ix p_ s1)∧(ix p_ s1)<(t.2.length:Int)) <|
    p6 (0≤(ix t.2 (ix p_ s1)).2∧(ix t.2 (ix p_ s1)).2<(6:Int)∧6=(s2.set ((ix t.2 (ix p_ s1)).1).toNat (w ((ix s2 ((ix t.2 (ix p_ s1)).1))+(1:Int)))).length) <|
    p6 (0≤(ix t.2 (ix p_ s1)).2∧(ix t.2 (ix p_ s1)).2<(6:Int)∧6=(s2.set ((ix t.2 (ix p_ s1)).1).toNat (w ((ix s2 ((ix t.2 (ix p_ s1)).1))+(1:Int)))).length) <|
    Ll t p_ p9 m (w (s1+(1:Int))) ((s2.set ((ix t.2 (ix p_ s1)).1).toNat (w ((ix s2 ((ix t.2 (ix p_ s1)).1))+(1:Int)))).set ((ix t.2 (ix p_ s1)).2).toNat (w ((ix (s2.set ((ix t.2 (ix p_ s1)).1).toNat (w ((ix s2 ((ix t.2 (ix p_ s1)).1))+(1:Int)))) ((ix t.2 (ix p_ s1)).2))+(1:Int))))
   else
    p9 s2
def JU (xY:qa) (qH:qa→Option qa):Nat→qa→Int→Option qa
 | 0,_,_=>none
 | m+1,dg,Gw =>
   if (decide (Gw<(6:Int)))=true then
    p6 (0≤Gw∧Gw<(6:Int)∧xY.length=6) <|
    p6 ((2:Int)≠0) <|
    if (decide (((ix xY Gw).tmod (2:Int))=(1:Int)))=true then
     p6 ((dg.length:Int)=(dg.length:Int)∧0≤(dg.length:Int)∧(dg.length:Int)≤(dg.length:Int)) <|
     p6 (((dg.take (dg.length:Int).toNat).length+1)*8≤140737488355328) <|
     JU xY qH m ((dg.take (dg.length:Int).toNat)++[Gw]) (w (Gw+(1:Int)))
    else
     JU xY qH m dg (w (Gw+(1:Int)))
   else
    qH dg
def Kt (t:qb) (p_:qa):Option qa :=
 Ll t p_ (fun xY =>
   p6 (xY.length=6) <|
   p6 (xY.length=6) <|
   if (decide (xY=[(0:Int),(0:Int),(0:Int),(0:Int),(0:Int),(0:Int)]))=true then
    some []
   else
    p6 (xY.length=6) <|
    JU xY (fun om =>
      some om) p8 ([]:List Int) (0:Int)) p8 (0:Int) (List.replicate 6 (0:Int))
theorem akb {t:qb} {p_:qa} {p9:qa→Option qa} {s1:Int} {s2:qa} {v:qa} {Q:rp}   (rm:∀ (xY:qa) (p5:List I),p9 xY=some v→q7 66 [(5,(.ptr 0 0))] p5→Q (.exit 0) p5 [au.cells (xY.map hR)]) {T:List I} (bX:eT (Ex false [0,1,4,1,5,3,52]) T=GD 66 [(0,(.bU [(hR t.1),(p7 t.2 .shared)])),(5,(.ptr 0 0)),(11,(qj p_ .shared)),(12,(hR (p_.length:Int))),(13,(hR s1))]) (h:Ll t p_ p9 p8 s1 s2=some v) :
  dD Tryz.prog N8 76 0 none Qa T [au.cells (s2.map hR)] Q:=by
 unfold Qa;refine wp_loop bX ?_;refine .intro (fun m T H=>∃ (s1:Int) (s2:qa),T=GD 66 [(0,(.bU [(hR t.1),(p7 t.2 .shared)])),(5,(.ptr 0 0)),(11,(qj p_ .shared)),(12,(hR (p_.length:Int))),(13,(hR s1))]∧H=[au.cells (s2.map hR)]∧Ll t p_ p9 m s1 s2=some v) p8 ⟨s1,s2,rfl,rfl,h⟩ ?_;clear h bX;rintro m T H ⟨s1,s2,rfl,rfl,h⟩;cases m
 ·exact q9 h
 rename_i m;rw [Ll.eq_2] at h;conv=>whnf
 refine bs h (fun eW h=>?_) fun eW h=>?_
 ·rw [eW];conv=>whnf
  refine qm h id fun fm h=>?_;rw [rP hR p_ s1 fm];conv=>whnf
  refine qm h id fun qd h=>?_;rw [q3 p0 2 qw t.2 (ix p_ s1) qd];conv=>whnf
  obtain ⟨qq,h⟩:=qJ h;refine ⟨⟨qq.1,qq.2.1⟩,?_⟩;replace qq:0≤(ix t.2 (ix p_ s1)).1∧(ix t.2 (ix p_ s1)).1<(s2.length:Int):=⟨qq.1,by have:=qq.2;omega⟩;conv=>whnf
  refine NB hR s2 ((ix t.2 (ix p_ s1)).1) qq ?_;conv=>whnf
  obtain ⟨qP,h⟩:=qJ h;refine ⟨⟨qP.1,qP.2.1⟩,?_⟩;replace qP:0≤(ix t.2 (ix p_ s1)).1∧(ix t.2 (ix p_ s1)).1<(s2.length:Int):=⟨qP.1,by have:=qP.2;omega⟩;conv=>whnf
  refine NG hR s2 ((ix t.2 (ix p_ s1)).1) (w ((ix s2 ((ix t.2 (ix p_ s1)).1))+(1:Int))) qP ?_;conv=>whnf
  refine qm h id fun q_ h=>?_;rw [q3 p0 2 qw t.2 (ix p_ s1) q_];conv=>whnf
  obtain ⟨qO,h⟩:=qJ h;refine ⟨⟨qO.1,qO.2.1⟩,?_⟩;replace qO:0≤(ix t.2 (ix p_ s1)).2∧(ix t.2 (ix p_ s1)).2<((s2.set ((ix t.2 (ix p_ s1)).1).toNat (w ((ix s2 ((ix t.2 (ix p_ s1)).1))+(1:Int)))).length:Int):=⟨qO.1,by have:=qO.2;omega⟩;conv=>whnf
  refine NB hR (s2.set ((ix t.2 (ix p_ s1)).1).toNat (w ((ix s2 ((ix t.2 (ix p_ s1)).1))+(1:Int)))) ((ix t.2 (ix p_ s1)).2) qO ?_;conv=>whnf
  obtain ⟨qR,h⟩:=qJ h;refine ⟨⟨qR.1,qR.2.1⟩,?_⟩;replace qR:0≤(ix t.2 (ix p_ s1)).2∧(ix t.2 (ix p_ s1)).2<((s2.set ((ix t.2 (ix p_ s1)).1).toNat (w ((ix s2 ((ix t.2 (ix p_ s1)).1))+(1:Int)))).length:Int):=⟨qR.1,by have:=qR.2;omega⟩;conv=>whnf
  refine NG hR (s2.set ((ix t.2 (ix p_ s1)).1).toNat (w ((ix s2 ((ix t.2 (ix p_ s1)).1))+(1:Int)))) ((ix t.2 (ix p_ s1)).2) (w ((ix (s2.set ((ix t.2 (ix p_ s1)).1).toNat (w ((ix s2 ((ix t.2 (ix p_ s1)).1))+(1:Int)))) ((ix t.2 (ix p_ s1)).2))+(1:Int))) qR ?_;conv=>whnf
  exact ⟨m,sv m,(w (s1+(1:Int))),((s2.set ((ix t.2 (ix p_ s1)).1).toNat (w ((ix s2 ((ix t.2 (ix p_ s1)).1))+(1:Int)))).set ((ix t.2 (ix p_ s1)).2).toNat (w ((ix (s2.set ((ix t.2 (ix p_ s1)).1).toNat (w ((ix s2 ((ix t.2 (ix p_ s1)).1))+(1:Int)))) ((ix t.2 (ix p_ s1)).2))+(1:Int)))),rfl,rfl,h⟩
 ·rw [eW];conv=>whnf
  exact rm _ _ h ⟨rfl,rfl⟩
theorem akc {xY:qa} {qH:qa→Option qa} {dg:qa} {Gw:Int} {v:qa} {Q:rp} {bA:au}  (H4:∀ (om:qa) (p5:List I),qH om=some v→q7 66 [(8,(qj om (.uniq 1)))] p5→Q (.exit 2) p5 [bA]) {T:List I} (bX:eT (Ex false [8,1,38,2,17]) T=GD 66 [(8,(qj dg (.uniq 1))),(47,(.agg ((xY.map hR)))),(48,(hR Gw))]) (h:JU xY qH p8 dg Gw=some v) :
  dD Tryz.prog N8 76 0 none Qb T [bA] Q:=by
 unfold Qb;refine wp_loop bX ?_;refine .intro (fun m T H=>∃ (dg:qa) (Gw:Int),T=GD 66 [(8,(qj dg (.uniq 1))),(47,(.agg ((xY.map hR)))),(48,(hR Gw))]∧H=[bA]∧JU xY qH m dg Gw=some v) p8 ⟨dg,Gw,rfl,rfl,h⟩ ?_;clear h bX;rintro m T H ⟨dg,Gw,rfl,rfl,h⟩;cases m
 ·exact q9 h
 rename_i m;rw [JU.eq_2] at h;conv=>whnf
 refine bs h (fun rz h=>?_) fun rz h=>?_
 ·rw [rz];conv=>whnf
  obtain ⟨rS,h⟩:=qJ h;refine ⟨_,_,fun C=>agk rfl (abi (e:=3) (len:=6) (kd:=.i64) (by kernel_rfl) (by kernel_rfl) (by kernel_rfl) (by kernel_rfl) rS.2.2 ⟨rS.1,rS.2.1⟩),?_⟩;conv=>whnf
  refine qm h id fun HD h=>?_;conv=>whnf
  refine bs h (fun GR h=>?_) fun GR h=>?_
  ·rw [GR];(conv=>whnf);refine qm h id fun HO h=>?_;erw [X5 hR dg (dg.length:Int) HO.2];(conv=>whnf);obtain ⟨G6,h⟩:=qJ h;refine ⟨by first | rfl | simp,by have:=G6;omega,by decide,G6,by first | rfl | simp,?_⟩
   erw [Ly hR (dg.take (dg.length:Int).toNat) Gw];(conv=>whnf);exact ⟨m,sv m,((dg.take (dg.length:Int).toNat)++[Gw]),(w (Gw+(1:Int))),rfl,rfl,h⟩
  ·rw [GR];(conv=>whnf);exact ⟨m,sv m,dg,(w (Gw+(1:Int))),rfl,rfl,h⟩
 ·rw [rz];conv=>whnf
  exact H4 _ _ h ⟨rfl,rfl⟩
theorem PF {t:qb} {p_:qa} {v:qa} (h:Kt t p_=some v):qg 76 [(.bU [(hR t.1),(.ay (t.2.flatMap p0) t.2.length .shared)]),(.ay (p_.map hR) p_.length .shared)] (.ay (v.map hR) v.length .shared):=by
 refine qB dJ afN rfl (ra (fun _=>rfl) _ _ _) fun Q bl=>?_;have jy:qn [.tmp 4] Q (fun v=>(qj v .shared)) v:=fun T H bI=>bl _ T H bI;unfold Kt at h;unfold aa2;obtain ⟨Hn,qC⟩:∃ c,Qa=c:=⟨_,rfl⟩;rw [qC];obtain ⟨KD,rU⟩:∃ c,Qb=c:=⟨_,rfl⟩;rw [rU];conv=>whnf
 subst qC;refine akb ?_ (by exact rfl) h;intro xY p5 h qi;obtain ⟨qZ,rfl⟩:=qi.ex;conv=>whnf
 obtain ⟨ry,h⟩:=qJ h;refine ⟨by simp [ry],?_⟩;rw [WK hR xY (fun _=>rfl) ry];conv=>whnf
 obtain ⟨q4,h⟩:=qJ h;refine ⟨_,_,fun C=>agi rfl rfl (abh .i64 (e:=3) (len:=6) (kd:=.i64) (xs:=xY) (ys:=[(0:Int),(0:Int),(0:Int),(0:Int),(0:Int),(0:Int)]) (by kernel_rfl) (by kernel_rfl) (by kernel_rfl) (by kernel_rfl) q4 rfl),?_⟩;conv=>whnf
 refine bs h (fun rV h=>?_) fun rV h=>?_
 ·rw [rV];conv=>whnf
  exact p4 h jy rfl rfl
 ·rw [rV];conv=>whnf
  obtain ⟨rE,h⟩:=qJ h;refine ⟨by simp [rE],?_⟩;rw [WK hR xY (fun _=>rfl) rE];conv=>whnf
  subst rU;refine akc ?_ (by exact rfl) h;intro om p5 h qi;obtain ⟨qZ,rfl⟩:=qi.ex;conv=>whnf
  exact p4 h jy rfl rfl

end Go.Proofs.YtfakoboiahbhaaaGreat.Ab


namespace Go.Proofs.YtfakoboiahbhaaaGreat.Ab
open Go
set_option maxRecDepth 20000
set_option maxHeartbeats 4000000
end Go.Proofs.YtfakoboiahbhaaaGreat.Ab


namespace Go.Proofs.YtfakoboiahbhaaaGreat.Ab
open Go
theorem YZ (n:Nat):(upto n).Pairwise (·<·):=by
 unfold upto;exact uQ.2 (List.pairwise_lt_range.imp fun h=>Int.ofNat_lt.2 h)
section
variable {b t:p3}
def qU (b:p3) (S:List Int):List Int:=(upto 6).filter fun f=>decide (qz b S f % 2=1)
theorem Ka {S:List Int} {f:Int}:f∈qU b S↔(0≤f∧f<6)∧qz b S f % 2=1:=by
 unfold qU;rw [sM,Hf,decide_eq_true_eq];rfl
theorem OV (S:List Int):(qU b S).Pairwise (·<·):=(YZ 6).filter _
theorem af9 {S S':List Int} (h:S.Perm S'):qU b S=qU b S':=by
 unfold qU;simp only [MQ h]
theorem ac1 (e:Int×Int) (v:Int):Ht e v≤2:=by unfold Ht;split <;> split <;> omega
theorem VL (S:List Int) (v:Int):qz b S v≤2*S.length:=by
 induction S with
 | nil=>simp [JE]
 | cons i S a_=>rw [KF,sH];have:=ac1 (ix b.2 i) v;omega
def KC (S:List Int) (x:Int):List Int:=S.set x.toNat (w (ix S x+1))
theorem N' (S:List Int) (x:Int):(KC S x).length=S.length:=by simp [KC]
theorem WG {S:List Int} {x f:Int} (al:0≤x∧x<(S.length:Int)) (aQ:0≤f∧f<(S.length:Int)) (ai:0≤ix S x∧ix S x≤100000):ix (KC S x) f=ix S f+if x=f then 1 else 0:=by
 obtain ⟨a,rfl⟩:∃ a:Nat,x=(a:Int):=⟨x.toNat,by omega⟩;obtain ⟨c,rfl⟩:∃ c:Nat,f=(c:Int):=⟨f.toNat,by omega⟩;unfold KC;rw [HH (by omega),th];by_cases h:a=c
 ·subst h;rw [KT (by omega),if_pos rfl]
 ·rw [JL (Ne.symm h),if_neg (by omega),Int.add_zero]
structure JA (b:p3) (n:Nat) (Hk S:List Int):Prop where
 len:S.length=n
 val:∀ f:Int,0≤f→f<(n:Int)→ix S f=(qz b Hk f:Int)
theorem JA.step {n:Nat} {Hk S:List Int} {i:Int} (h:JA b n Hk S) (aZ:Hk.length≤1000) (ad:0≤(ix b.2 i).1∧(ix b.2 i).1<(n:Int)) (af:0≤(ix b.2 i).2∧(ix b.2 i).2<(n:Int)):JA b n (Hk++[i]) (KC (KC S (ix b.2 i).1) (ix b.2 i).2):=by
 have ak:=h.len;have ea:=h.val _ ad.1 ad.2;have ak1:=VL (b:=b) Hk (ix b.2 i).1;have dC:=h.val _ af.1 af.2;have ak2:=VL (b:=b) Hk (ix b.2 i).2;refine ⟨by rw [N',N',ak],fun f LL Cm=>?_⟩;have e1:∀ f:Int,0≤f→f<(n:Int)→ix (KC S (ix b.2 i).1) f=ix S f+if (ix b.2 i).1=f then 1 else 0:=fun f aB aH=>WG ⟨ad.1,by omega⟩ ⟨aB,by omega⟩ ⟨by omega,by omega⟩;rw [WG ⟨af.1,by rw [N'];omega⟩ ⟨LL,by rw [N'];omega⟩ (by rw [e1 _ af.1 af.2,dC];split <;> omega),e1 f LL Cm,h.val f LL Cm,MP,KF,JE];unfold Ht;split <;> split <;> omega
theorem JA.zero (n:Nat):JA b n [] (List.replicate n 0):=⟨by simp,fun f ad af=>by rw [R1];rfl⟩
theorem Z4 (p2:qu t) {S:List Int} (cm:ri t S) (ak:S.length≤1000) {k:List Int→Option (List Int)}:∀ (m i:Nat) (z:Int) (C:List Int),z=i→i≤S.length→S.length-i<m→JA t 6 (S.take i) C →
  ∃ Uk,JA t 6 S Uk∧Ll t S k m z C=k Uk
 | 0,_,_,_,_,_,h,_=>absurd h (by omega)
 | m+1,i,_,C,rfl,hi,hm,Hl=>by
   rw [Ll];have bt:=Hl.len;have bV:=p2.f6;by_cases h:(i:Int)<(S.length:Int)
   ·(have qT:i<S.length:=by omega);have nq:=cm _ (sE qT);have ks:=OK (l:=t.2) (i:=S[i]) ⟨nq.1,nq.2⟩;have ad:=p2.left _ ks;have af:=p2.right _ ks;have cJ:=Hl.step (i:=S[i]) (by simp;omega) ⟨ad.1,by omega⟩ ⟨af.1,by omega⟩;rw [←Kj qT] at cJ;rw [if_pos (decide_eq_true h),qe ⟨by omega,h⟩,qW qT,qe nq,qe ⟨ad.1,by omega,bt.symm⟩,qe ⟨ad.1,by omega,bt.symm⟩,qe nq,qe ⟨af.1,by omega,by simp [bt]⟩,qe ⟨af.1,by omega,by simp [bt]⟩,rH i (by omega)];exact Z4 p2 cm ak m (i+1) _ _ rfl (by omega) (by omega) cJ
   ·rw [if_neg (by simpa using h)]
    have:i=S.length:=by omega
    subst this;rw [tz] at Hl;exact ⟨C,Hl,rfl⟩
theorem YM (n:Nat):((n:Int).tmod 2=1)↔n % 2=1:=by
 rw [Int.tmod_eq_emod_of_nonneg (by omega)];omega
theorem YY (q:Int→Bool) (i:Nat):(upto (i+1)).filter q=(upto i).filter q++if q (i:Int) then [(i:Int)] else []:=by
 rw [K1,t_,tc,List.filter_nil]
theorem Ua {S C:List Int} (Hl:JA t 6 S C) {k:List Int→Option (List Int)}:∀ (m i:Nat) (z:Int),z=i→i≤6→6-i<m →
  JU C k m ((upto i).filter fun f=>decide (qz t S f % 2=1)) z=k (qU t S)
 | 0,_,_,_,_,h=>absurd h (by omega)
 | m+1,i,_,rfl,hi,hm=>by
   rw [JU];have ak:((upto i).filter fun f=>decide (qz t S f % 2=1)).length≤6:=sI (tJ _ _) (by rw [rN];exact hi);by_cases h:(i:Int)<6
   ·rw [if_pos (decide_eq_true h),qe ⟨by omega,h,Hl.len⟩,qe (by decide),Hl.val i (by omega) h];by_cases aq:qz t S (i:Int) % 2=1
    ·rw [if_pos (decide_eq_true ((YM _).2 aq)),qe ⟨rfl,by omega,by omega⟩,th,tz,qe (by omega),rH i (by omega)];have ai:=YY (fun f=>decide (qz t S f % 2=1)) i;rw [if_pos (decide_eq_true aq)] at ai;rw [←ai];exact Ua Hl m (i+1) _ rfl (by omega) (by omega)
    ·rw [if_neg (by simpa [YM] using aq),rH i (by omega)];have ai:=YY (fun f=>decide (qz t S f % 2=1)) i;rw [if_neg (by simpa using aq),sN] at ai;rw [←ai];exact Ua Hl m (i+1) _ rfl (by omega) (by omega)
   ·rw [if_neg (by simpa using h)]
    have:i=6:=by omega
    subst this;rfl
theorem T' (p2:qu t) {S:List Int} (cm:ri t S) (ak:S.length≤1000):Kt t S=some (qU t S):=by
 rw [Kt]
 obtain ⟨C,Hl,aj⟩:=Z4 p2 cm ak (k:=fun xY =>
   p6 (xY.length=6) <|
   p6 (xY.length=6) <|
   if (decide (xY=[(0:Int),(0:Int),(0:Int),(0:Int),(0:Int),(0:Int)]))=true then
    some []
   else
    p6 (xY.length=6) <|
    JU xY (fun om =>
      some om) p8 ([]:List Int) (0:Int)) p8 0 0 _ rfl (by omega) (rC (by omega)) (by rw [tf];exact JA.zero 6)
 rw [aj,qe Hl.len,qe Hl.len];split
 ·rename_i h;have h:=of_decide_eq_true h;congr 1
  symm
  refine List.filter_eq_nil_iff.2 fun f aQ=>?_;have aQ:=Hf.1 aQ;have ae:=Hl.val f aQ.1 aQ.2;have e:C=List.replicate 6 (0:Int):=h;rw [e,R1] at ae
  have:qz t S f=0:=by omega
  simp [this]
 ·rw [qe Hl.len];exact Ua Hl p8 0 0 rfl (by omega) (rC (by omega))
theorem Z5 (ag:t.2.length≤1000) {k:List Int→Option (List Int)}:∀ (m i:Nat) (z:Int),z=i→i≤t.2.length→t.2.length-i<m→Lm t k m (upto i) z=k (upto t.2.length)
 | 0,_,_,_,_,h=>absurd h (by omega)
 | m+1,i,_,rfl,hi,hm=>by
   rw [Lm];by_cases h:(i:Int)<(t.2.length:Int)
   ·rw [if_pos (decide_eq_true h),qe (by rw [rN];omega),rH i (by omega),←K1];exact Z5 ag m (i+1) _ rfl (by omega) (by omega)
   ·rw [if_neg (by simpa using h),show i=t.2.length by omega]
theorem Ub (ag:t.2.length≤1000):Mz t=some (upto t.2.length):=Z5 ag p8 0 0 rfl (by omega) (rC (by omega))
def qN (b:p3):List Int:=qU b (upto b.2.length)
end
end Go.Proofs.YtfakoboiahbhaaaGreat.Ab


namespace Go.Proofs.YtfakoboiahbhaaaGreat.Ab
open Go
theorem Ya {α:Type} [BEq α] [LawfulBEq α]:∀ (a b:List α),a.Nodup→(∀ x∈a,x∈b)→a.length≤b.length
 | [],_,_,_=>sr _
 | x::a,b,aN,h=>by
   obtain ⟨ad,af⟩:=uh.1 aN;have al:=h x (by simp);have:=Ya a (b.erase x) af fun y a0=>by
    have bM:y≠x:=fun e=>ad (e ▸ a0);exact (List.mem_erase_of_ne bM).2 (h y (by simp [a0]))
   rw [List.length_erase_of_mem al] at this;have:=List.length_pos_of_mem al;simp only [sH];omega
section
variable {b t:p3}
structure RowsOf (b:p3) (S:List Int) (R:List Row):Prop where
 ok:∀ r∈R,∀ p∈r,Hp b p
 go:∀ r∈R,∃ a c,qv b a r=some c
 all:((R.flatten).map (·.1)).Perm S
theorem RowsOf.app {S S':List Int} {R KA:List Row} (h:RowsOf b S R) (aX:RowsOf b S' KA):RowsOf b (S++S') (R++KA):=by
 refine ⟨fun r aj=>?_,fun r aj=>?_,?_⟩
 ·rcases sS.1 aj with aj | aj
  ·exact h.ok r aj
  ·exact aX.ok r aj
 ·rcases sS.1 aj with aj | aj
  ·exact h.go r aj
  ·exact aX.go r aj
 ·rw [uV,sY];exact h.all.append aX.all
theorem RowsOf.nil:RowsOf b [] []:=⟨fun r aj=>absurd aj (by simp),fun r aj=>absurd aj (by simp),by simp⟩
def MR (b:p3):Row→List Int
 | []=>[]
 | p::r=>[qp b p,(qv b (qp b p) (p::r)).getD 0]
theorem ac9 {r:Row} {a c v:Int} (h:qv b a r=some c) (aq:qz b (r.map (·.1)) v % 2=1):v∈MR b r:=by
 cases r with
 | nil=>simp [JE] at aq
 | cons p r =>
   have ag:=(H9.1 h).1;have aC:=NC _ _ _ v h;show v∈[qp b p,(qv b (qp b p) (p::r)).getD 0];rw [ag,h];simp only [Option.getD_some,sk,List.not_mem_nil,or_false];by_cases ad:a=v
   ·exact .inl ad.symm
   ·by_cases af:c=v
    ·exact .inr af.symm
    ·rw [if_neg ad,if_neg af] at aC;omega
theorem VK (v:Int):∀ (R:List Row),qz b ((R.flatten).map (·.1)) v % 2=1→∃ r∈R,qz b (r.map (·.1)) v % 2=1
 | [],h=>by simp [JE] at h
 | r::R,h=>by
   rw [tI,sY,MP] at h;by_cases ad:qz b (r.map (·.1)) v % 2=1
   ·exact ⟨r,by simp,ad⟩
   ·obtain ⟨q,a3,af⟩:=VK v R (by omega);exact ⟨q,by simp [a3],af⟩
theorem VO:∀ (R:List Row),(R.flatMap (MR b)).length≤2*(R.filter fun r=>!r.isEmpty).length
 | []=>by simp
 | r::R=>by
   have a_:=VO R;rw [tZ,sm,tc];cases r with
   | nil=>simpa [MR] using a_
   | cons p r =>
     rw [if_pos (by simp)];simp only [MR,sH,uF] at *;omega
theorem RowsOf.few {S:List Int} {R:List Row} (h:RowsOf b S R):(qU b S).length≤2*(R.filter fun r=>!r.isEmpty).length:=by
 refine sI (Ya _ (R.flatMap (MR b)) ((OV S).imp fun h e=>by omega) fun v ae=>?_) (VO R);have ae:=(Ka.1 ae).2;rw [←MQ h.all] at ae;obtain ⟨r,aj,ad⟩:=VK v R ae;obtain ⟨a,c,G7⟩:=h.go r aj;exact List.mem_flatMap.2 ⟨r,aj,ac9 G7 ad⟩
def Il (l:List (Int×Int)) (v:Int):Nat:=(l.map fun e=>Ht e v).sum
theorem ac4 (e:Int×Int) (l:List (Int×Int)) (v:Int):Il (e::l) v=Ht e v+Il l v:=by simp [Il]
theorem ac3 (l l':List (Int×Int)) (v:Int):Il (l++l') v=Il l v+Il l' v:=by simp [Il]
theorem VJ (S:List Int) (v:Int):qz b S v=Il (S.map (ix b.2)) v:=by
 unfold qz Il;rw [ud];rfl
theorem W2 {α:Type} [Inhabited α] (l:List α):(upto l.length).map (ix l)=l:=by
 refine List.ext_getElem (by simp [rN]) fun i ad af=>?_;simp only [upto,uT,List.getElem_range];exact qW af
theorem ac5 (v:Int):qz b (upto b.2.length) v=Il b.2 v:=by rw [VJ,W2]
def Hd:List Int→List (Int×Int)
 | x::y::r=>(x,y)::Hd r
 | _=>[]
theorem YK:∀ (l:List Int),(Hd l).length=l.length / 2
 | []=>rfl
 | [_]=>by simp [Hd]
 | x::y::r=>by simp only [Hd,sH,YK r];omega
theorem YJ:∀ (l:List Int) (v:Int),l.Nodup→l.length % 2=0→Il (Hd l) v=if v∈l then 1 else 0
 | [],v,_,_=>by simp [Hd,Il]
 | [_],_,_,h=>by simp at h
 | x::y::r,v,aN,h=>by
   obtain ⟨ad,af⟩:=uh.1 aN;obtain ⟨aG,a6⟩:=uh.1 af;have a_:=YJ r v a6 (by simp only [sH] at h;omega);rw [Hd,ac4,a_];unfold Ht;have HS:x≠y:=fun e=>ad (by simp [e]);by_cases e1:v=x
   ·subst e1
    have:v ∉ r:=fun hm=>ad (by simp [hm])
    simp [this,Ne.symm HS]
   ·by_cases ck:v=y
    ·subst ck;simp [aG,HS]
    ·simp [e1,ck,Ne.symm e1,Ne.symm ck]
theorem YL:∀ (l:List Int) (e:Int×Int),e∈Hd l→e.1∈l∧e.2∈l
 | [],e,h=>by simp [Hd] at h
 | [_],e,h=>by simp [Hd] at h
 | x::y::r,e,h=>by
   rw [Hd] at h;rcases sk.1 h with rfl | h
   ·simp
   ·have:=YL r e h;exact ⟨by simp [this.1],by simp [this.2]⟩
theorem Yc:∀ (n:Nat) (S:List Int),(∀ i∈S,0≤(ix b.2 i).1∧(ix b.2 i).1<(n:Int)∧0≤(ix b.2 i).2∧(ix b.2 i).2<(n:Int))→((upto n).map fun v=>qz b S v).sum=2*S.length:=by
 have one:∀ (x:Int) (n:Nat),((upto n).map fun v=>if x=v then 1 else 0).sum=if 0≤x∧x<(n:Int) then 1 else 0:=by
  intro x n
  induction n with
  | zero=>rw [if_neg (by omega)];rfl
  | succ n a_ =>
    rw [K1,sY,List.sum_append,a_];simp only [se,tt,tj,List.sum_nil];split <;> split <;> split <;> omega
 have add:∀ (l:List Int) (f g:Int→Nat),(l.map fun v=>f v+g v).sum=(l.map f).sum+(l.map g).sum:=by
  intro l f g
  induction l with
  | nil=>rfl
  | cons x l a_=>simp only [se,tj,a_];omega
 intro n S h
 induction S with
 | nil =>
   have:∀ l:List Int,(l.map fun v=>qz b [] v).sum=0:=fun l=>by
    induction l with
    | nil=>rfl
    | cons x l a_=>rw [se,tj,a_,JE]
   exact this _
 | cons i S a_ =>
   have hi:=h i (by simp);simp only [KF];rw [add,a_ fun j aw=>h j (by simp [aw])];unfold Ht;rw [add,one,one,if_pos ⟨hi.1,hi.2.1⟩,if_pos ⟨hi.2.2.1,hi.2.2.2⟩,sH];omega
theorem Nd (p2:qu b) {S:List Int} (cm:ri b S):(qU b S).length % 2=0:=by
 have bV:=p2.f6;have ai:=Yc (b:=b) 6 S fun i hi=>by
  have hm:=OK (l:=b.2) (i:=i) (cm i hi);have ad:=p2.left _ hm;have af:=p2.right _ hm;exact ⟨ad.1,by omega,af.1,by omega⟩
 have key:∀ l:List Int,(l.filter fun f=>decide (qz b S f % 2=1)).length % 2=(l.map fun v=>qz b S v).sum % 2:=by
  intro l
  induction l with
  | nil=>rfl
  | cons x l a_ =>
    rw [tc,se,tj];split
    ·rename_i h;have h:=of_decide_eq_true h;rw [sH];omega
    ·rename_i h;(have h:¬ qz b S x % 2=1:=by simpa using h);omega
 unfold qU;rw [key,ai];omega
def rK (b:p3) (S:List Int):p3:=(b.1,S.map (ix b.2)++Hd (qU b S))
theorem Md (S:List Int):(rK b S).2.length=S.length+(qU b S).length / 2:=by
 unfold rK;simp [YK]
theorem NF {S:List Int} {i:Nat} (h:i<S.length):ix (rK b S).2 (i:Int)=ix b.2 S[i]:=by
 have aG:i<(S.map (ix b.2)++Hd (qU b S)).length:=by simp;omega
 show ix (S.map (ix b.2)++Hd (qU b S)) (i:Int)=_;rw [qW aG,wg (by simpa using h),uT]
theorem aiq {S:List Int} {i:Nat} (h:S.length≤i) (af:i<(rK b S).2.length):ix (rK b S).2 (i:Int)∈Hd (qU b S):=by
 have aG:i<(S.map (ix b.2)++Hd (qU b S)).length:=af;show ix (S.map (ix b.2)++Hd (qU b S)) (i:Int)∈_;rw [qW aG,wh (by simpa using h)];exact sE _
theorem aip (p2:qu b) {S:List Int} (cm:ri b S) (v:Int):qz (rK b S) (upto (rK b S).2.length) v % 2=0:=by
 rw [ac5];show Il (S.map (ix b.2)++Hd (qU b S)) v % 2=0;rw [ac3,←VJ,YJ _ _ ((OV S).imp fun h e=>by omega) (Nd p2 cm)];split
 ·rename_i h;have:=(Ka.1 h).2;omega
 ·rename_i h;have bV:=p2.f6;refine Classical.byContradiction fun aN=>h (Ka.2 ⟨?_,by omega⟩)
  have:qz b S v≠0:=fun e=>by rw [e] at aN;exact aN rfl
  refine Classical.byContradiction fun ae=>this (QX.2 fun i hi ks=>?_);have:=Ob p2 (Hf.2 (cm i hi)) ks;omega
theorem Yu {S:List Int} {f g:Int} (h:rf b S f g):rf (rK b S) (upto (rK b S).2.length) f g:=by
 induction h with
 | refl=>exact .refl
 | step i _ hi aB aH a_ =>
   obtain ⟨k,av,e⟩:=ui hi;have ak:=Md (b:=b) S;refine .step (k:Int) a_ (Hf.2 ⟨by omega,by omega⟩) ?_ ?_
   ·unfold qI at aB ⊢;rw [NF av,e];exact aB
   ·unfold qI at aH ⊢;rw [NF av,e];exact aH
theorem round_part (p2:qu b) {S:List Int} (cm:ri b S) (ak:S.length≤990) (aS:S≠[]) (ao:∀ x∈S,∀ y∈S,∀ f g,qI b x f→qI b y g→rf b S f g) :
  ∃ l a,K2 (rK b S)=some l∧Full (rK b S) l∧qv (rK b S) a l=some a:=by
 have hlen:=Md (b:=b) S;have OG:0<S.length:=ug.2 aS;have aq:(qU b S).length≤6:=sI (tJ _ _) (by rw [rN];omega);have fT:ix (rK b S).2 0=ix b.2 S[0]:=NF (i:=0) OG;obtain ⟨l,ad,af,aG⟩:=ajg (t:=rK b S) (aip p2 cm) (by omega) (by omega) fun i hi=>by
  by_cases Wq:i<S.length
  ·refine ⟨(ix b.2 S[i]).1,.inl (by rw [NF Wq]),?_⟩;rw [fT];exact Yu (ao _ (sE _) _ (sE Wq) _ _ (.inl rfl) (.inl rfl))
  ·have hm:=aiq (b:=b) (S:=S) (by omega) hi;refine ⟨(ix (rK b S).2 (i:Int)).1,.inl rfl,?_⟩;have Hw:=(Ka.1 (YL _ _ hm).1).2
   have:¬ ∀ x∈S,¬ qI b x (ix (rK b S).2 (i:Int)).1:=fun aN=>by
    rw [QX.2 aN] at Hw;simp at Hw
   have:∃ x∈S,qI b x (ix (rK b S).2 (i:Int)).1:=Classical.byContradiction fun aN=>this fun x al aQ=>aN ⟨x,al,aQ⟩
   obtain ⟨x,al,aQ⟩:=this;rw [fT];exact Yu (ao _ (sE OG) x al _ _ (.inl rfl) aQ)
 exact ⟨l,_,ad,af,aG⟩
theorem q2.acQ {S:List Int} {out:List (List Int)} (h:q2 b S out) {r:List Int} (aj:r∈out):∀ x∈r,∀ y∈r,∀ f g,qI b x f→qI b y g→rf b r f g:=by
 intro x al y a0 f g aQ aO;have ao:=h.Ik r aj x al y a0 f g aQ aO;clear aO
 induction ao with
 | refl=>exact .refl
 | step i Cn hi aB aH a_=>exact .step i a_ (h.closed aj al aQ Cn i hi aB) aB aH
end
end Go.Proofs.YtfakoboiahbhaaaGreat.Ab


namespace Go.Proofs.YtfakoboiahbhaaaGreat.Ab
open Go
def rG (S:List Int):Row→Row→List Row
 | own,[]=>if 0<own.length then [own] else []
 | own,p::r=>if p.1<(S.length:Int) then rG S (own++[(ix S p.1,p.2)]) r else own::rG S [] r
section
variable {b:p3} {S:List Int}
theorem X_:∀ (m l:Row) (own:Row),(∀ p∈m,p.1<(S.length:Int))→rG S own (m++l)=rG S (own++m.map fun p=>(ix S p.1,p.2)) l
 | [],l,own,_=>by simp
 | p::m,l,own,h=>by
   rw [uS,rG,if_pos (h p (by simp)),X_ m l _ fun q a3=>h q (by simp [a3])];simp
theorem acr {p:Int×Int} (ad:0≤p.1) (af:p.1<(S.length:Int)):qp (rK b S) p=qp b (ix S p.1,p.2)∧fin (rK b S) p=fin b (ix S p.1,p.2):=by
 obtain ⟨i,hi⟩:∃ i:Nat,p.1=(i:Int):=⟨p.1.toNat,by omega⟩;unfold qp fin;rw [hi,NF (by omega),qW (by omega)];exact ⟨rfl,rfl⟩
theorem Pr (cm:ri b S):∀ (l own:Row),(∀ p∈own,Hp b p)→(∀ p∈l,Hp (rK b S) p)→∀ r∈rG S own l,∀ p∈r,Hp b p
 | [],own,ad,_=>by
   rw [rG];split
   ·intro r aj;rw [sB.1 aj];exact ad
   ·intro r aj;simp at aj
 | q::l,own,ad,af=>by
   rw [rG];have a3:=af q (by simp);split
   ·rename_i aU;refine Pr cm l _ (fun p aC=>?_) fun p aC=>af p (by simp [aC]);rcases sS.1 aC with aC | aC
    ·exact ad p aC
    ·rw [sB.1 aC];have hm:ix S q.1∈S:=by
      obtain ⟨i,hi⟩:∃ i:Nat,q.1=(i:Int):=⟨q.1.toNat,by have:=a3.1;omega⟩;rw [hi,qW (by omega)];exact sE _
     exact ⟨(cm _ hm).1,(cm _ hm).2,a3.2.2.1,a3.2.2.2⟩
   ·intro r aj;rcases sk.1 aj with rfl | aj
    ·exact ad
    ·exact Pr cm l [] (fun p aC=>absurd aC (by simp)) (fun p aC=>af p (by simp [aC])) r aj
theorem Pq:∀ (l own:Row) (jn a e:Int),qv b jn own=some a→qv (rK b S) a l=some e→(∀ p∈l,Hp (rK b S) p)→∀ r∈rG S own l,∃ a c,qv b a r=some c
 | [],own,jn,a,e,ad,_,_=>by
   rw [rG];split
   ·intro r aj;rw [sB.1 aj];exact ⟨_,_,ad⟩
   ·intro r aj;simp at aj
 | q::l,own,jn,a,e,ad,af,aG=>by
   rw [rG];obtain ⟨cb,b8⟩:=H9.1 af;have a3:=aG q (by simp);split
   ·rename_i aU;obtain ⟨bo,cI⟩:=acr (b:=b) a3.1 aU;refine Pq l _ jn (fin (rK b S) q) e ?_ b8 fun p aC=>aG p (by simp [aC]);rw [IL,ad,r_];exact Js.2 ⟨by rw [←bo];exact cb,cI.symm⟩
   ·intro r aj;rcases sk.1 aj with rfl | aj
    ·exact ⟨_,_,ad⟩
    ·exact Pq l [] _ _ e rfl b8 (fun p aC=>aG p (by simp [aC])) r aj
def rY (S:List Int) (p:Int×Int):Bool:=decide (p.1<(S.length:Int))
theorem Pp:∀ (l own:Row),(rG S own l).flatten.map (·.1)=own.map (·.1)++(l.filter (rY S)).map fun p=>ix S p.1
 | [],own=>by
   rw [rG];split
   ·simp
   ·have:own=[]:=s_.1 (by omega)
    simp [this]
 | q::l,own=>by
   rw [rG,tc];split
   ·rename_i h;have aX:rY S q=true:=decide_eq_true h;rw [Pp l,if_pos aX];simp
   ·rename_i h;(have aX:¬ rY S q=true:=by simpa [rY] using h);rw [tI,sY,Pp l,if_neg aX];simp
theorem TK {q:Int×Int} (a3:rY S q=false):∀ (m own:Row),(rG S own (m++[q])).length=(m.filter fun p=>!rY S p).length+1
 | [],own=>by
   have:¬ q.1<(S.length:Int):=by simpa [rY] using a3
   rw [tW,rG,if_neg this];simp [rG]
 | p::m,own=>by
   rw [uS,rG,tc];split
   ·rename_i h;have aX:rY S p=true:=decide_eq_true h;rw [TK a3 m,aX];simp
   ·rename_i h;(have aX:rY S p=false:=by simpa [rY] using h);rw [sH,TK a3 m,aX];simp
theorem Sf {α:Type} (p:α→Bool):∀ (l:List α) (i:Nat),(posOf p l i=-1∧∀ x∈l,p x=false)∨∃ dL q kK,l=dL++q::kK∧p q=true∧posOf p l i=((i+dL.length:Nat):Int)
 | [],i=>.inl ⟨rfl,fun x al=>by simp at al⟩
 | x::l,i=>by
   rw [posOf];by_cases h:p x=true
   ·rw [if_pos h];exact .inr ⟨[],x,l,rfl,h,rfl⟩
   ·rw [if_neg h];rcases Sf p l (i+1) with ⟨ad,af⟩ | ⟨dL,q,kK,rfl,af,aG⟩
    ·refine .inl ⟨ad,fun y a0=>?_⟩;rcases sk.1 a0 with rfl | a0
     ·simpa using h
     ·exact af y a0
    ·refine .inr ⟨x::dL,q,kK,rfl,af,?_⟩;rw [aG,sH];congr 1;omega
theorem Full.perm {t:p3} {l l':Row} (h:Full t l) (aC:l'.Perm l):Full t l' :=
 ⟨fun p OD=>h.ok p (aC.mem_iff.1 OD),(aC.map _).nodup_iff.2 h.rW,fun i hi=>(aC.map (·.1)).mem_iff.2 (h.all i hi)⟩
theorem Full.upto {t:p3} {l:Row} (h:Full t l):(l.map (·.1)).Perm (upto t.2.length):=by
 refine (uL h.rW (Iy _)).2 fun x=>?_;rw [Hf];constructor
 ·intro al;obtain ⟨p,aC,rfl⟩:=ss.1 al;have:=h.ok p aC;exact ⟨this.1,this.2.1⟩
 ·rintro ⟨ad,af⟩;obtain ⟨i,rfl⟩:∃ i:Nat,x=(i:Int):=⟨x.toNat,by omega⟩;exact h.all i (by omega)
theorem Full.own {l:Row} (h:Full (rK b S) l):((l.filter (rY S)).map fun p=>ix S p.1).Perm S:=by
 have ad:((l.filter (rY S)).map (·.1)).Perm (Ab.upto S.length):=by
  refine (uL ((List.filter_sublist.map _).nodup h.rW) (Iy _)).2 fun x=>?_;rw [Hf,ss];constructor
  ·rintro ⟨p,aC,rfl⟩;rw [sM] at aC;exact ⟨(h.ok p aC.1).1,by simpa [rY] using aC.2⟩
  ·rintro ⟨ad,af⟩;have hm:x∈l.map (·.1):=h.upto.mem_iff.2 (Hf.2 ⟨ad,by rw [Md];omega⟩);obtain ⟨p,aC,rfl⟩:=ss.1 hm;exact ⟨p,sM.2 ⟨aC,decide_eq_true af⟩,rfl⟩
 have af:=ad.map (ix S);rw [W2,ud] at af;exact af
theorem VX {α:Type} (q:α→Bool):∀ l:List α,l.length=(l.filter q).length+(l.filter fun x=>!q x).length
 | []=>rfl
 | x::l=>by
   rw [tc,tc,sH,VX q l];cases q x <;> simp <;> omega
theorem Full.threads {l:Row} (h:Full (rK b S) l):(l.filter fun p=>!rY S p).length=(qU b S).length / 2:=by
 have ad:=h.upto.length_eq;have af:=h.own.length_eq;rw [sZ] at ad af;rw [rN,Md] at ad;have aG:=VX (rY S) l;omega
def Jr (S:List Int) (l:Row):Row:=let c:=posOf (fun p=>!rY S p) l 0;if 0≤c then l.drop (c+1).toNat++l.take (c+1).toNat else l
theorem ahE (l:Row):(Jr S l=l∧∀ p∈l,rY S p=true)∨∃ dL q kK,l=dL++q::kK∧rY S q=false∧Jr S l=(kK++dL)++[q]:=by
 unfold Jr;rcases Sf (fun p=>!rY S p) l 0 with ⟨ad,af⟩ | ⟨dL,q,kK,rfl,af,aG⟩
 ·left;rw [ad];exact ⟨rfl,fun p aC=>by simpa using af p aC⟩
 ·right;refine ⟨dL,q,kK,rfl,by simpa using af,?_⟩;rw [aG];simp only [sP];rw [if_pos (by omega),show ((dL.length:Int)+1).toNat=dL.length+1 by omega];have e:dL++q::kK=(dL++[q])++kK:=by simp
  rw [e,List.drop_left' (by simp),List.take_left' (by simp),sj]
structure Un (b:p3) (S:List Int) (R:List Row):Prop extends RowsOf b S R where
 ne:∀ r∈R,r≠[]
 len:R.length=max 1 ((qU b S).length / 2)
theorem Xi (p2:qu b) (cm:ri b S) (aS:S≠[]) {l:Row} {a:Int} (bB:Full (rK b S) l) (aO:qv (rK b S) a l=some a):Un b S (rG S [] (Jr S l)):=by
 have OG:0<S.length:=ug.2 aS;have RT:=bB.threads;have lT:=Nd p2 cm;rcases ahE (S:=S) l with ⟨ad,af⟩ | ⟨dL,q,kK,rfl,af,aG⟩
 ·rw [ad];have jy:RowsOf b S (rG S [] l):=⟨Pr cm l [] (fun p aC=>absurd aC (by simp)) bB.ok,Pq l [] a a a rfl aO bB.ok,by rw [Pp];simpa using bB.own⟩;have e:(l.filter fun p=>!rY S p)=[]:=List.filter_eq_nil_iff.2 fun p aC=>by simp [af p aC]
  rw [e] at RT;simp only [uF] at RT;have ak:0<l.length:=by
   have:=bB.upto.length_eq;rw [sZ,rN,Md] at this;omega
  have ai:rG S [] l=[l.map fun p=>(ix S p.1,p.2)]:=by
   have:=X_ (S:=S) l [] [] fun p aC=>of_decide_eq_true (af p aC);rw [sN,tW] at this;rw [this,rG,if_pos (by simpa using ak)]
  refine ⟨jy,fun r aj=>?_,?_⟩
  ·rw [ai] at aj;rw [sB.1 aj];intro e;have:=congrArg List.length e;simp at this;rw [this] at ak;simp at ak
  ·rw [ai,←RT];rfl
 ·rw [aG];have It:(kK++dL++[q]).Perm (dL++q::kK):=by
   rw [show dL++q::kK=(dL++[q])++kK by simp,sj];exact wk
  have On:=bB.perm It;have RO:∃ aM,qv (rK b S) aM (kK++dL++[q])=some aM:=by
   rw [show dL++q::kK=(dL++[q])++kK by simp,IL] at aO;obtain ⟨c,cb,b8⟩:=p' aO;refine ⟨c,?_⟩;rw [sj,IL,b8];exact cb
  obtain ⟨aM,RO⟩:=RO;have jy:RowsOf b S (rG S [] (kK++dL++[q])):=⟨Pr cm _ [] (fun p aC=>absurd aC (by simp)) On.ok,Pq _ [] aM aM aM rfl RO On.ok,by rw [Pp];simpa using On.own⟩;have aeC:=On.threads;rw [t_,sm] at aeC;have aeu:([q].filter fun p=>!rY S p).length=1:=by simp [af]
  have hlen:=TK af (kK++dL) [];have RM:=jy.few;have hle:=tJ (fun r:Row=>!r.isEmpty) (rG S [] (kK++dL++[q]));refine ⟨jy,fun r aj=>?_,by omega⟩;have heq:((rG S [] (kK++dL++[q])).filter fun r=>!r.isEmpty).length=(rG S [] (kK++dL++[q])).length:=by omega
  have:=List.length_filter_eq_length_iff.1 heq r aj;intro e;rw [e] at this;simp at this
end
end Go.Proofs.YtfakoboiahbhaaaGreat.Ab


namespace Go.Proofs.YtfakoboiahbhaaaGreat.Ab
open Go
set_option maxRecDepth 20000
set_option maxHeartbeats 4000000
theorem Rel.R6 {J:List Nat} {S:Nat→Nat→Prop} {w:World} {cells:List I} {v:Value} (h:Rel J S w (.bU cells) v):Rel J S w (.bU (cells.map I.gT)) v:=by
 cases h with
 | bU _ b o f k eO =>
   refine .bU _ b o f (fun j u aw=>?_) (fun j u aw=>?_)
   ·rw [su] at aw;simp only [rZ] at aw;obtain ⟨x,al,rfl⟩:=aw;obtain ⟨aB,aH,aR,bj⟩:=k j x al;exact ⟨aB,aH,ye aR,bj⟩
   ·rw [su] at aw;simp only [rZ] at aw;obtain ⟨x,al,rfl⟩:=aw;exact (eO j x al).gT
theorem lh.R6 {P:Program} {k:FuncId} {cs:List I} {v:I} (h:lh P k [.bU (cs.map I.gT)] v):lh P k [.bU cs] v :=
 ⟨⟨h.1.1,h.1.2.1,fun B U J S w vs ah aN ae=>h.1.2.2 B U J S w vs ah aN ⟨by simpa using ae.len,fun i u x hu al=>by
   cases i with
   | zero =>
     obtain rfl:=Option.some.inj hu;exact (ae.rel 0 _ x rfl al).R6
   | succ i=>simp at hu,fun i u x hu al=>by
   cases i with
   | zero=>obtain rfl:=Option.some.inj hu;exact aV.b3 rfl
   | succ i=>simp at hu⟩⟩,h.2⟩
theorem call7 {P:Program} {k:FuncId} {H:List au} {lo id:Nat} {l cs:List I} {v:I} (bD:lo≤id) (ah:H[id]?=some (.cells l)) (ao:l.map I.view=cs) (aC:cq 8 (.bU cs)=true) {ds:List I} (aZ:cs.map I.gT=ds) (h:lh P k [.bU ds] v):oq P 7 lo (.fn k) [.ptr id 0] H v.cr (H.set id .dead):=by
 have h:lh P k [.bU cs] v:=lh.R6 (by rw [aZ];exact h);refine ⟨_,DZ (XY (by simp [aC]) h []),?_⟩;simp only [eV,bD,if_true,ah,ao,aC];show ((kR (.fn k) [.bU cs] [] 0 v []) (.fn k) [.bU cs] [] 0).bind _=_;rw [DY,r_];show (bJ [] 0 0 0 8 v).map _=_;rw [oT h.2];rfl
theorem adv:((List.range 24).all fun n=>match Ph [] 129 [.ay [] 0 .full,.int .i64 ((n+1:Nat):Int)] with | some v=>HY 3 v (.ay [] 0 (.own 2)) | none=>false)=true:=by kernel_rfl
def T3 (s:List (Int×Int)) (n:Int):Option (List (Int×Int)):=p6 (s=[]∧0<n∧n≤24) (some s)
theorem aju {s v:List (Int×Int)} {n:Int} (h:T3 s n=some v):qg 129 [.ay [] 0 .full,hR n] (.ay (v.flatMap p0) v.length (.own 2)):=by
 obtain ⟨⟨rfl,aS,ad⟩,h⟩:=qJ h;obtain rfl:=Option.some.inj h;obtain ⟨k,rfl⟩:∃ k:Nat,n=((k+1:Nat):Int):=⟨n.toNat-1,by omega⟩;have:=sC.1 adv k (sJ.2 (by omega));split at this
 ·rename_i v ae;rw [Lz _ _ _ this] at ae;exact GN (l:=[]) (by simp) ae
 ·cases this

noncomputable def aan:eA :=
 Gx [gO 2 [.hI 0] .box,gO 3 [.iC (.bool false)] .iS] (Gx [F4 4 2 0,Gj 5 4,Gj 6 1,Gi 7 6,FZ 8 5 7 .geq,Gm 3 8] .ret)
theorem ae9:ze Tryz.prog UA 105=some (aan,9,[.tmp 3]):=by kernel_rfl
def NI (p:(Int×Int)) (c0:qa):Option Bool :=
 some (decide ((c0.length:Int)≤p.1))
theorem TZ {p:(Int×Int)} {c0:qa} {v:Bool} (h:NI p c0=some v):qg 105 [(.agg [(hR p.1),(hR p.2)]),(.bU [(.ay (c0.map hR) c0.length .shared)])] (B v):=by
 refine qB dJ ae9 rfl rfl fun Q bl=>?_;have jy:qn [.tmp 3] Q (fun v=>(B v)) v:=fun T H bI=>bl _ T H bI;unfold NI at h;unfold aan;conv=>whnf
 exact p4 h jy rfl rfl

noncomputable def PU:eA :=
 .loop (some (Ex false [0, 1, 2, 1, 5, 3, 24])) (Gx [gO 12 [.sl 11, .sl 10] (.bin .lss)] (.seq (.cond (.sl 12) .skip (.exit 0)) (.seq (.block 1 (Gx [gO 13 [.sl 9, .sl 11] (.pO 1), Gj 14 13, Gm 5 14] (Gx [Gm 15 3, Gm 16 5, Gi 17 16, FZ 18 15 17 .add, Gm 3 18] (Gx [Gl 19 3, FY 20 19 0 .lss] (.cond (.sl 20) (Gq [gO 21 [.iC (.str (ByteArray.mk (Array.mk [108, 101, 110, 32, 111, 117, 116, 32, 111, 102, 32, 114, 97, 110, 103, 101])))] (.other (Oper.mk (some 21) (Op.makeInterface 9 (Operand.const (Value.string (ByteArray.mk (Array.mk [108, 101, 110, 32, 111, 117, 116, 32, 111, 102, 32, 114, 97, 110, 103, 101]))))) 20 "slices.go:496" (Array.mk []) none) 0), ⟨none, [.hL 21], none, none, .other (Oper.mk none (Op.panic (Operand.tmp 21)) 0 "slices.go:496" (Array.mk [Edge.mk 0 Ground.data]) none) 0⟩]) .skip))))) (Gq [FX 22 11 1, Gm 11 22]))))
noncomputable def PV:eA :=
 .loop (some (Ex false [6,1,18,3,8])) (Gx [gO 28 [.sl 27,.sl 26] (.bin .lss)] (.seq (.cond (.sl 28) .skip (.exit 2)) (.seq (.block 3 (Gx [gO 29 [.sl 25,.sl 27] (.pO 1),Gj 30 29,Gm 8 30] (Gq [Gm 31 6,Gm 32 8,gO 33 [.hI 31,.hI 32] (.app 2 16),Gm 6 33]))) (Gq [FX 34 27 1,Gm 27 34]))))
noncomputable def aao:eA :=
 Gx [gO 2 [.iC (.ay [] 0 .full)] (.nil 2)] (Gx [Gk 3 0] (.seq (Gx [Gl 9 0,gO 10 [.sl 9] .w8,Gk 11 0] (.block 0 PU)) (Gx [Gm 23 3,gO 24 [.iC (.func 129 [] []),.iC (.ay [] 0 .full),.sl 23] (.call 0),Gm 6 24] (.seq (Gx [Gm 25 0,gO 26 [.sl 25] .w8,Gk 27 0] (.block 2 PV)) (Gx [Gm 35 6,Gm 2 35] .ret)))))
theorem ae_:ze Tryz.prog N5 106=some (aao,36,[.tmp 2]):=by kernel_rfl
def Kk (slices:qt) (p9:Int→Option qc):Nat→Int→Int→Option qc
 | 0,_,_=>none
 | m+1,s1,s2 =>
   if (decide (s2<(slices.length:Int)))=true then
    p6 (0≤s2∧s2<(slices.length:Int)) <|
    if (decide ((w (s1+((ix slices s2).length:Int)))<(0:Int)))=true then
     none
    else
     Kk slices p9 m (w (s1+((ix slices s2).length:Int))) (w (s2+(1:Int)))
   else
    p9 s1
def Kl (slices:qt) (qH:qc→Option qc):Nat→qc→Int→Option qc
 | 0,_,_=>none
 | m+1,dg,Gw =>
   if (decide (Gw<(slices.length:Int)))=true then
    p6 (0≤Gw∧Gw<(slices.length:Int)) <|
    p6 ((dg.length+(ix slices Gw).length)*16≤140737488355328) <|
    Kl slices qH m (dg++(ix slices Gw)) (w (Gw+(1:Int)))
   else
    qH dg
def Mk (slices:qt):Option qc :=
 Kk slices (fun xY =>
   (T3 [] xY).bind fun r1 =>
   Kl slices (fun om =>
     some om) p8 r1 (0:Int)) p8 (0:Int) (0:Int)
theorem ajh {slices:qt} {p9:Int→Option qc} {s1:Int} {s2:Int} {v:qc} {Q:rp}   (rm:∀ (xY:Int) (p5:List I),p9 xY=some v→q7 36 [(0,(.ay (slices.map (qy p0)) slices.length .shared)),(3,(hR xY))] p5→Q (.exit 0) p5 []) {T:List I} (bX:eT (Ex false [0,1,2,1,5,3,24]) T=GD 36 [(0,(.ay (slices.map (qy p0)) slices.length .shared)),(3,(hR s1)),(9,(.ay (slices.map (qy p0)) slices.length .shared)),(10,(hR (slices.length:Int))),(11,(hR s2))]) (h:Kk slices p9 p8 s1 s2=some v) :
  dD Tryz.prog N5 106 0 none PU T [] Q:=by
 unfold PU;refine wp_loop bX ?_;refine .intro (fun m T H=>∃ (s1 s2:Int),T=GD 36 [(0,(.ay (slices.map (qy p0)) slices.length .shared)),(3,(hR s1)),(9,(.ay (slices.map (qy p0)) slices.length .shared)),(10,(hR (slices.length:Int))),(11,(hR s2))]∧H=[]∧Kk slices p9 m s1 s2=some v) p8 ⟨s1,s2,rfl,rfl,h⟩ ?_;clear h bX;rintro m T H ⟨s1,s2,rfl,rfl,h⟩;cases m
 ·exact q9 h
 rename_i m;rw [Kk.eq_2] at h;conv=>whnf
 refine bs h (fun eW h=>?_) fun eW h=>?_
 ·rw [eW];conv=>whnf
  refine qm h id fun fm h=>?_;rw [rP (qy p0) slices s2 fm];conv=>whnf
  refine bs h (fun qd h=>?_) fun qd h=>?_
  ·rw [qd];(conv=>whnf);exact q9 h
  ·rw [qd];(conv=>whnf);exact ⟨m,sv m,(w (s1+((ix slices s2).length:Int))),(w (s2+(1:Int))),rfl,rfl,h⟩
 ·rw [eW];conv=>whnf
  exact rm _ _ h ⟨rfl,rfl⟩
theorem aji {slices:qt} {qH:qc→Option qc} {dg:qc} {Gw:Int} {v:qc} {Q:rp}   (H4:∀ (om:qc) (p5:List I),qH om=some v→q7 36 [(6,(p7 om (.own 2)))] p5→Q (.exit 2) p5 []) {T:List I} (bX:eT (Ex false [6,1,18,3,8]) T=GD 36 [(6,(p7 dg (.own 2))),(25,(.ay (slices.map (qy p0)) slices.length .shared)),(26,(hR (slices.length:Int))),(27,(hR Gw))]) (h:Kl slices qH p8 dg Gw=some v) :
  dD Tryz.prog N5 106 0 none PV T [] Q:=by
 unfold PV;refine wp_loop bX ?_;refine .intro (fun m T H=>∃ (dg:qc) (Gw:Int),T=GD 36 [(6,(p7 dg (.own 2))),(25,(.ay (slices.map (qy p0)) slices.length .shared)),(26,(hR (slices.length:Int))),(27,(hR Gw))]∧H=[]∧Kl slices qH m dg Gw=some v) p8 ⟨dg,Gw,rfl,rfl,h⟩ ?_;clear h bX;rintro m T H ⟨dg,Gw,rfl,rfl,h⟩;cases m
 ·exact q9 h
 rename_i m;rw [Kl.eq_2] at h;conv=>whnf
 refine bs h (fun qP h=>?_) fun qP h=>?_
 ·rw [qP];conv=>whnf
  refine qm h id fun q_ h=>?_;rw [rP (qy p0) slices Gw q_];conv=>whnf
  obtain ⟨qO,h⟩:=qJ h;refine ⟨by first | rfl | (simp;done) | exact H0 p0 _ qw _,by have:=qO;omega,rfl,qO,?_⟩
  erw [QN p0 dg (ix slices Gw)];conv=>whnf
  exact ⟨m,sv m,(dg++(ix slices Gw)),(w (Gw+(1:Int))),rfl,rfl,h⟩
 ·rw [qP];conv=>whnf
  exact H4 _ _ h ⟨rfl,rfl⟩
theorem T0 {slices:qt} {v:qc} (h:Mk slices=some v):qg 106 [(.ay (slices.map (qy p0)) slices.length .shared)] (.ay (v.flatMap p0) v.length .shared):=by
 refine qB dJ ae_ rfl (qG (fun _=>(pY rfl (pY rfl rfl))) _ _ _) fun Q bl=>?_;have jy:qn [.tmp 2] Q (fun v=>(p7 v .shared)) v:=fun T H bI=>bl _ T H bI;unfold Mk at h;unfold aao;obtain ⟨Hn,qC⟩:∃ c,PU=c:=⟨_,rfl⟩;rw [qC];obtain ⟨KD,rU⟩:∃ c,PV=c:=⟨_,rfl⟩;rw [rU];conv=>whnf
 subst qC;refine ajh ?_ (by exact rfl) h;intro xY p5 h qi;obtain ⟨qZ,rfl⟩:=qi.ex;conv=>whnf
 obtain ⟨r1,qq,h⟩:=p' h;refine ⟨_,_,acv (pY rfl (pY rfl rfl)) (aju qq) _ _,?_⟩;conv=>whnf
 subst rU;refine aji ?_ (by exact rfl) h;intro om p5 h qi;obtain ⟨qZ,rfl⟩:=qi.ex;conv=>whnf
 exact p4 h jy rfl rfl

noncomputable def Qc:eA :=
 .loop (some (Ex false [0,1,2,1,1,2,12,3,10,3,98])) (Gx [gO 35 [.sl 34,.sl 33] (.bin .lss)] (.seq (.cond (.sl 35) .skip (.exit 2)) (.seq (.block 3 (Gx [gO 36 [.sl 32,.sl 34] (.pO 1),Gj 37 36,Gm 8 37] (Gr [gO 38 [.sl 6] (.oR 0),F4 39 38 1,gO 40 [.hL 39] .take,Gl 41 0,gO 42 [.hL 41] .zA,F4 43 42 0,F4 44 43 1,Gj 45 44,Gm 46 8,Gf 47 45 46 2,gO 48 [.hL 47] (.pV (.str 2)),gO 49 [.hL 48] (.x_ 1 2 [.int .i64 0,.int .i64 0] [0]),gO 50 [.hI 40,.hI 49] (.app 2 16),gO 51 [.sl 6] (.oR 0),F4 52 51 1,⟨none,[.hI 52,.hI 50],none,none,.st 1⟩]))) (Gq [FX 53 34 1,Gm 34 53]))))
noncomputable def MC:eA :=
 .loop (some (Ex false [0,1,2,1,1,2,2,2,8,3,111])) (.seq (Gx [Gl 57 10,FX 58 57 1,Gl 59 9,Gi 60 59,FZ 61 58 60 .lss] (.cond (.sl 61) .skip (.exit 4))) (.seq (.block 5 (Gr [gO 64 [.sl 6] (.oR 0),F4 65 64 1,gO 66 [.hL 65] .take,Gl 67 9,Gl 68 10,Gf 69 67 68 1,Gj 70 69,Gl 71 9,Gl 72 10,FX 73 72 1,Gf 74 71 73 1,Gj 75 74,gO 76 [.hL 70,.hL 75] (.build [.int .i64 0,.int .i64 0] [(0,1),(1,1)]),gO 77 [.hL 76] (.x_ 1 2 [.int .i64 0,.int .i64 0] [0]),gO 78 [.hI 66,.hI 77] (.app 2 16),gO 79 [.sl 6] (.oR 0),F4 80 79 1,⟨none,[.hI 80,.hI 78],none,none,.st 1⟩])) (Gq [Gm 62 10,FX 63 62 2,Gm 10 63])))
noncomputable def Qd:eA :=
 .loop (some (Ex false [0,1,2,1,1,1,7,1,5,3,75,3,33])) (Gx [gO 100 [.sl 99,.sl 98] (.bin .lss)] (.seq (.cond (.sl 100) .skip (.exit 6)) (.seq (.block 7 (Gx [gO 101 [.sl 97,.sl 99] (.pO 2),gO 102 [.hL 101] (.pV (.str 2)),gO 15 [] (.alloc [.int .i64 0,.int .i64 0]),⟨none,[.sl 15,.hI 102],none,none,.st 2⟩] (.seq (Gx [gO 103 [.sl 15] (.oR 0),Gj 104 103,gO 105 [.sl 5] (.pV .one),Gi 106 105,FZ 107 104 106 .lss] (.cond (.sl 107) (.seq (Gr [Gm 108 13,gO 109 [.sl 5] (.pV .one),gO 110 [.sl 15] (.oR 0),Gj 111 110,Gf 112 109 111 1,Gj 113 112,gO 114 [.sl 15] (.oR 1),Gj 115 114,gO 116 [.hL 113,.hL 115] (.build [.int .i64 0,.int .i64 0] [(0,1),(1,1)]),gO 117 [.hL 116] (.x_ 1 2 [.int .i64 0,.int .i64 0] [0]),gO 118 [.hI 108,.hI 117] (.app 2 16),Gm 13 118]) (.exit 7)) .skip)) (Gq [Gm 119 3,Gm 120 13,gO 121 [.hL 120] (.x_ 1 1 [.ay [] 0 .full] [0]),gO 122 [.hI 119,.hI 121] (.app 1 24),Gm 3 122,gO 13 [.iC (.ay [] 0 .full)] (.nil 2)])))) (Gq [FX 123 99 1,Gm 99 123]))))
noncomputable def Qe:eA :=
 Gx [gO 13 [.iC (.ay [] 0 .full)] (.nil 2)] (.seq (Gx [Gm 97 11,gO 98 [.sl 97] .w8,Gk 99 0] (.block 6 Qd)) (Gx [Gl 124 13,Gi 125 124,FY 126 125 0 .gtr] (.cond (.sl 126) (Gq [Gm 127 3,Gm 128 13,gO 129 [.hL 128] (.x_ 1 1 [.ay [] 0 .full] [0]),gO 130 [.hI 127,.hI 129] (.app 1 24),Gm 3 130]) .skip)))
noncomputable def Qf:eA :=
 .loop (some (Ex false [0,1,2,1,15,3,111])) (Gx [gO 22 [.sl 21,.sl 20] (.bin .lss)] (.seq (.cond (.sl 22) .skip (.exit 0)) (.seq (.block 1 (Gx [gO 23 [.sl 19,.sl 21] (.pO 1),Gj 24 23,gO 5 [] (.alloc [.ay [] 0 .full]),⟨none,[.sl 5,.hI 24],none,none,.st 1⟩] (Gx [Gl 25 0,gO 26 [.hL 25] .zA,F4 27 26 0,F4 28 27 0,Gj 29 28,gO 30 [.hL 29] (.build [.int .i64 0,.ay [] 0 .full] [(0,1)]),gO 31 [.hL 30] (.build [.int .i64 0,.ay [] 0 .full] [(0,2)]),gO 6 [] (.alloc [.int .i64 0,.ay [] 0 .full]),⟨none,[.sl 6,.hI 31],none,none,.st 2⟩] (.seq (Gx [gO 32 [.sl 5] (.pV .one),gO 33 [.sl 32] .w8,Gk 34 0] (.block 2 Qc)) (Gx [Gl 54 0,gO 55 [.sl 5] (.pV .one),gO 56 [.iC (.func 76 [] []),.sl 54,.sl 55] (.call 3),Gm 9 56] (.seq (Gx [Gk 10 0] (.block 4 MC)) (Gx [gO 81 [.iC (.func 104 [] []),.sl 6] (.call 7),Gm 11 81] (.seq (Gx [Gl 82 11,gO 83 [.sl 5] (.zu 105 0 1),gO 84 [.iC (.func 94 [] []),.sl 82,.sl 83] (.call 6),Gm 12 84] (Gx [Gl 85 12,FY 86 85 0 .geq] (.cond (.sl 86) (Gr [Gl 87 11,Gl 88 12,FX 89 88 1,gO 90 [.hI 87,.hI 89] (.AW 2 true false false),Gl 91 11,Gl 92 12,FX 93 92 1,gO 94 [.hI 91,.hI 93] (.AW 2 false true false),gO 95 [.hL 90,.hL 94] (.x_ 2 1 [.ay [] 0 .full] [0,1]),gO 96 [.iC (.func 106 [] []),.sl 95] (.call 3),Gm 11 96]) .skip))) Qe)))))))) (Gq [FX 131 21 1,Gm 21 131]))))
noncomputable def aa4:eA :=
 Gx [gO 2 [.iC (.ay [] 0 .full)] (.nil 1)] (Gx [gO 3 [.iC (.ay [] 0 .full)] (.nil 1)] (.seq (Gx [Gl 16 0,Gl 17 0,gO 18 [.iC (.func 77 [] []),.sl 17] (.call 3),gO 19 [.iC (.func 79 [] []),.sl 16,.sl 18] (.call 3),gO 20 [.sl 19] .w8,Gk 21 0] (.block 0 Qf)) (Gx [Gm 132 3,Gm 2 132] .ret)))
theorem afP:ze Tryz.prog J2 83=some (aa4,133,[.tmp 2]):=by kernel_rfl
def Lo (t:qb) (r2:GJ) (s2:Int) (qH:qc→Option qt):Nat→Int→qc→Option qt
 | 0,_,_=>none
 | m+1,dg,Gw =>
   if (decide (dg<((ix r2 s2).length:Int)))=true then
    p6 (0≤dg∧dg<((ix r2 s2).length:Int)) <|
    p6 (0≤(ix (ix r2 s2) dg)∧(ix (ix r2 s2) dg)<(t.2.length:Int)) <|
    p6 ((Gw.length+1)*16≤140737488355328) <|
    Lo t r2 s2 qH m (w (dg+(1:Int))) (Gw++[(ix t.2 (ix (ix r2 s2) dg))])
   else
    qH Gw
def I6 (eF:qa) (GU:qc→Option qt):Nat→Int→qc→Option qt
 | 0,_,_=>none
 | m+1,qo,qD =>
   if (decide ((w (qo+(1:Int)))<(eF.length:Int)))=true then
    p6 (0≤qo∧qo<(eF.length:Int)) <|
    p6 (0≤(w (qo+(1:Int)))∧(w (qo+(1:Int)))<(eF.length:Int)) <|
    p6 ((qD.length+1)*16≤140737488355328) <|
    I6 eF GU m (w (qo+(2:Int))) (qD++[((ix eF qo),(ix eF (w (qo+(1:Int)))))])
   else
    GU qD
def Kv (r2:GJ) (s2:Int) (du:qc) (KV:qt→qc→Option qt):Nat→qt→qc→Int→Option qt
 | 0,_,_,_=>none
 | m+1,Hz,HF,rB =>
   if (decide (rB<(du.length:Int)))=true then
    p6 (0≤rB∧rB<(du.length:Int)) <|
    if (decide ((ix du rB).1<((ix r2 s2).length:Int)))=true then
     p6 (0≤(ix du rB).1∧(ix du rB).1<((ix r2 s2).length:Int)) <|
     p6 ((HF.length+1)*16≤140737488355328) <|
     Kv r2 s2 du KV m Hz (HF++[((ix (ix r2 s2) ((ix du rB).1)),(ix du rB).2)]) (w (rB+(1:Int)))
    else
     p6 ((Hz.length+1)*24≤140737488355328) <|
     Kv r2 s2 du KV m (Hz++[HF]) [] (w (rB+(1:Int)))
   else
    KV Hz HF
def Ku (r2:GJ) (s1:qt) (s2:Int) (Nb:qt→Option qt) (du:qc):Option qt :=
 Kv r2 s2 du (fun xY om =>
   if (decide ((0:Int)<(om.length:Int)))=true then
    p6 ((xY.length+1)*24≤140737488355328) <|
    Nb (xY++[om])
   else
    Nb xY) p8 s1 ([]:List (Int×Int)) (0:Int)
def Ii (t:qb) (r2:GJ) (p9:qt→Option qt):Nat→qt→Int→Option qt
 | 0,_,_=>none
 | m+1,s1,s2 =>
   if (decide (s2<(r2.length:Int)))=true then
    p6 (0≤s2∧s2<(r2.length:Int)) <|
    Lo t r2 s2 (fun xY =>
      (Kt t (ix r2 s2)).bind fun eF =>
      I6 eF (fun xY =>
        (K2 (t.1,xY)).bind fun qh =>
        (Kx qh (fun qx=>NI qx (ix r2 s2))).bind fun qk =>
        if (decide ((0:Int)≤qk))=true then
         p6 (0≤(w (qk+(1:Int)))∧(w (qk+(1:Int)))≤(qh.length:Int)) <|
         p6 (0≤(w (qk+(1:Int)))∧(w (qk+(1:Int)))≤(qh.length:Int)) <|
         (Mk [(qh.drop (w (qk+(1:Int))).toNat),(qh.take (w (qk+(1:Int))).toNat)]).bind fun rJ =>
         Ku r2 s1 s2 (fun FU =>
           Ii t r2 p9 m FU (w (s2+(1:Int)))) rJ
        else
         Ku r2 s1 s2 (fun FU =>
           Ii t r2 p9 m FU (w (s2+(1:Int)))) qh) p8 (0:Int) xY) p8 (0:Int) ([]:List (Int×Int))
   else
    p9 s1
def Jw (t:qb):Option qt :=
 (Mz t).bind fun r1 =>
 (JV t r1).bind fun r2 =>
 Ii t r2 (fun Ky =>
   some Ky) p8 ([]:List qc) (0:Int)
theorem akh {t:qb} {r2:GJ} {s2:Int} {qH:qc→Option qt} {dg:Int} {Gw:qc} {s1:qt} {v:qt} {Q:rp}  {qS:List au} {Hr:iq} (H4:∀ (xY:qc) (p5:List I),qH xY=some v→q7 133 [(0,(.bU [(hR t.1),(p7 t.2 .shared)])),(3,(.ay (s1.map (qy p0)) s1.length (.uniq 1))),(5,(.ptr (qS).length 0)),(6,(.ptr ((qS)++[au.cells [(qj (ix r2 s2) .shared)]]).length 0)),(19,(.ay (r2.map jj) r2.length .shared)),(20,(hR (r2.length:Int))),(21,(hR s2))] p5→Q (.exit 2) p5 (((qS)++[au.cells [(qj (ix r2 s2) .shared)]])++[au.cells [(hR t.1),(p7 xY .full)]])) (aeb:∀ (xY:qc) (p5:List I),qH xY=some v→q7 133 [(0,(.bU [(hR t.1),(p7 t.2 .shared)])),(3,(.ay (s1.map (qy p0)) s1.length (.uniq 1))),(5,(.ptr (qS).length 0)),(6,(.ptr ((qS)++[au.cells [(qj (ix r2 s2) .shared)]]).length 0)),(19,(.ay (r2.map jj) r2.length .shared)),(20,(hR (r2.length:Int))),(21,(hR s2))] p5→Q (.exit 2) p5 (((qS)++[au.cells [(qj (ix r2 s2) .shared)]])++[au.cells [(hR t.1),(p7 xY (.own 2))]])) (KK:(Hr=iq.full∨Hr=(.own 2))) {T:List I} (bX:eT (Ex false [0,1,2,1,1,2,12,3,10,3,98]) T=GD 133 [(0,(.bU [(hR t.1),(p7 t.2 .shared)])),(3,(.ay (s1.map (qy p0)) s1.length (.uniq 1))),(5,(.ptr (qS).length 0)),(6,(.ptr ((qS)++[au.cells [(qj (ix r2 s2) .shared)]]).length 0)),(19,(.ay (r2.map jj) r2.length .shared)),(20,(hR (r2.length:Int))),(21,(hR s2)),(32,(qj (ix r2 s2) .shared)),(33,(hR ((ix r2 s2).length:Int))),(34,(hR dg))]) (h:Lo t r2 s2 qH p8 dg Gw=some v) :
  dD Tryz.prog J2 83 0 none Qc T (((qS)++[au.cells [(qj (ix r2 s2) .shared)]])++[au.cells [(hR t.1),(.ay (Gw.flatMap p0) Gw.length Hr)]]) Q:=by
 unfold Qc;refine wp_loop bX ?_;refine .intro (fun m T H=>∃ (dg:Int) (Gw:qc) (Hr:iq),(Hr=iq.full∨Hr=(.own 2))∧T=GD 133 [(0,(.bU [(hR t.1),(p7 t.2 .shared)])),(3,(.ay (s1.map (qy p0)) s1.length (.uniq 1))),(5,(.ptr (qS).length 0)),(6,(.ptr ((qS)++[au.cells [(qj (ix r2 s2) .shared)]]).length 0)),(19,(.ay (r2.map jj) r2.length .shared)),(20,(hR (r2.length:Int))),(21,(hR s2)),(32,(qj (ix r2 s2) .shared)),(33,(hR ((ix r2 s2).length:Int))),(34,(hR dg))]∧H=(((qS)++[au.cells [(qj (ix r2 s2) .shared)]])++[au.cells [(hR t.1),(.ay (Gw.flatMap p0) Gw.length Hr)]])∧Lo t r2 s2 qH m dg Gw=some v) p8 ⟨dg,Gw,_,KK,rfl,rfl,h⟩ ?_;clear h bX;rintro m T H ⟨dg,Gw,Hr,KK,rfl,rfl,h⟩;cases m
 ·exact q9 h
 rename_i m;rw [Lo.eq_2] at h;rcases KK with rfl | rfl
 ·conv=>whnf
  refine bs h (fun qP h=>?_) fun qP h=>?_
  ·rw [qP];(conv=>whnf);refine qm h id fun q_ h=>?_;rw [rP hR (ix r2 s2) dg q_];(conv=>whnf);refine DU (x:=au.cells [(hR t.1),(p7 Gw .full)]) (by first | exact ql.h | rfl | (simp [sc,I.settle];done)) ?_
   (conv=>whnf);refine qm h id fun qO h=>?_;rw [q3 p0 2 qw t.2 (ix (ix r2 s2) dg) qO];(conv=>whnf);obtain ⟨qR,h⟩:=qJ h;refine ⟨by first | rfl | (simp;done) | exact H0 p0 _ qw _,by have:=qR;omega,by decide,qR,by first | rfl | (simp;done) | exact H0 p0 _ qw _,?_⟩
   erw [I' p0 Gw (ix t.2 (ix (ix r2 s2) dg))];(conv=>whnf);refine DU (x:=au.cells [(hR t.1),(p7 Gw .full)]) (by first | exact ql.h | rfl | (simp [sc,I.settle];done)) ?_
   (conv=>whnf);rw [ru];exact ⟨m,sv m,(w (dg+(1:Int))),(Gw++[(ix t.2 (ix (ix r2 s2) dg))]),_,(.inr rfl),rfl,rfl,h⟩
  ·rw [qP];(conv=>whnf);exact H4 _ _ h ⟨rfl,rfl⟩
 ·conv=>whnf
  refine bs h (fun qP h=>?_) fun qP h=>?_
  ·rw [qP];(conv=>whnf);refine qm h id fun q_ h=>?_;rw [rP hR (ix r2 s2) dg q_];(conv=>whnf);refine DU (x:=au.cells [(hR t.1),(p7 Gw (.own 2))]) (by first | exact ql.h | rfl | (simp [sc,I.settle];done)) ?_
   (conv=>whnf);rw [ru];refine qm h id fun qO h=>?_;rw [q3 p0 2 qw t.2 (ix (ix r2 s2) dg) qO];(conv=>whnf);obtain ⟨qR,h⟩:=qJ h;refine ⟨by first | rfl | (simp;done) | exact H0 p0 _ qw _,by have:=qR;omega,rfl,qR,?_⟩
   erw [I' p0 Gw (ix t.2 (ix (ix r2 s2) dg))];(conv=>whnf);refine DU (x:=au.cells [(hR t.1),(p7 Gw .shared)]) (by first | exact ql.h | rfl | (simp [sc,I.settle];done)) ?_
   (conv=>whnf);rw [ru];exact ⟨m,sv m,(w (dg+(1:Int))),(Gw++[(ix t.2 (ix (ix r2 s2) dg))]),_,(.inr rfl),rfl,rfl,h⟩
  ·rw [qP];(conv=>whnf);exact aeb _ _ h ⟨rfl,rfl⟩
theorem aki {eF:qa} {GU:qc→Option qt} {qo:Int} {qD:qc} {t:qb} {r2:GJ} {s1:qt} {s2:Int} {v:qt} {Q:rp}  {qS:List au} {Hr:iq} (KO:∀ (xY:qc) (p5:List I),GU xY=some v→q7 133 [(0,(.bU [(hR t.1),(p7 t.2 .shared)])),(3,(.ay (s1.map (qy p0)) s1.length (.uniq 1))),(5,(.ptr (qS).length 0)),(6,(.ptr ((qS)++[au.cells [(qj (ix r2 s2) .shared)]]).length 0)),(19,(.ay (r2.map jj) r2.length .shared)),(20,(hR (r2.length:Int))),(21,(hR s2))] p5→Q (.exit 4) p5 (((qS)++[au.cells [(qj (ix r2 s2) .shared)]])++[au.cells [(hR t.1),(p7 xY .full)]])) (aec:∀ (xY:qc) (p5:List I),GU xY=some v→q7 133 [(0,(.bU [(hR t.1),(p7 t.2 .shared)])),(3,(.ay (s1.map (qy p0)) s1.length (.uniq 1))),(5,(.ptr (qS).length 0)),(6,(.ptr ((qS)++[au.cells [(qj (ix r2 s2) .shared)]]).length 0)),(19,(.ay (r2.map jj) r2.length .shared)),(20,(hR (r2.length:Int))),(21,(hR s2))] p5→Q (.exit 4) p5 (((qS)++[au.cells [(qj (ix r2 s2) .shared)]])++[au.cells [(hR t.1),(p7 xY (.own 2))]])) (KK:(Hr=iq.full∨Hr=(.own 2))) {T:List I} (bX:eT (Ex false [0,1,2,1,1,2,2,2,8,3,111]) T=GD 133 [(0,(.bU [(hR t.1),(p7 t.2 .shared)])),(3,(.ay (s1.map (qy p0)) s1.length (.uniq 1))),(5,(.ptr (qS).length 0)),(6,(.ptr ((qS)++[au.cells [(qj (ix r2 s2) .shared)]]).length 0)),(9,(qj eF .shared)),(10,(hR qo)),(19,(.ay (r2.map jj) r2.length .shared)),(20,(hR (r2.length:Int))),(21,(hR s2))]) (h:I6 eF GU p8 qo qD=some v) :
  dD Tryz.prog J2 83 0 none MC T (((qS)++[au.cells [(qj (ix r2 s2) .shared)]])++[au.cells [(hR t.1),(.ay (qD.flatMap p0) qD.length Hr)]]) Q:=by
 unfold MC;refine wp_loop bX ?_;refine .intro (fun m T H=>∃ (qo:Int) (qD:qc) (Hr:iq),(Hr=iq.full∨Hr=(.own 2))∧T=GD 133 [(0,(.bU [(hR t.1),(p7 t.2 .shared)])),(3,(.ay (s1.map (qy p0)) s1.length (.uniq 1))),(5,(.ptr (qS).length 0)),(6,(.ptr ((qS)++[au.cells [(qj (ix r2 s2) .shared)]]).length 0)),(9,(qj eF .shared)),(10,(hR qo)),(19,(.ay (r2.map jj) r2.length .shared)),(20,(hR (r2.length:Int))),(21,(hR s2))]∧H=(((qS)++[au.cells [(qj (ix r2 s2) .shared)]])++[au.cells [(hR t.1),(.ay (qD.flatMap p0) qD.length Hr)]])∧I6 eF GU m qo qD=some v) p8 ⟨qo,qD,_,KK,rfl,rfl,h⟩ ?_;clear h bX;rintro m T H ⟨qo,qD,Hr,KK,rfl,rfl,h⟩;cases m
 ·exact q9 h
 rename_i m;rw [I6.eq_2] at h;rcases KK with rfl | rfl
 ·conv=>whnf
  refine bs h (fun q4 h=>?_) fun q4 h=>?_
  ·rw [q4];(conv=>whnf);refine DU (x:=au.cells [(hR t.1),(p7 qD .full)]) (by first | exact ql.h | rfl | (simp [sc,I.settle];done)) ?_
   (conv=>whnf);refine qm h id fun rV h=>?_;rw [rP hR eF qo rV];(conv=>whnf);refine qm h id fun rE h=>?_;rw [rP hR eF (w (qo+(1:Int))) rE];(conv=>whnf);obtain ⟨rz,h⟩:=qJ h;refine ⟨by first | rfl | (simp;done) | exact H0 p0 _ qw _,by have:=rz;omega,by decide,rz,by first | rfl | (simp;done) | exact H0 p0 _ qw _,?_⟩
   erw [I' p0 qD ((ix eF qo),(ix eF (w (qo+(1:Int)))))];(conv=>whnf);refine DU (x:=au.cells [(hR t.1),(p7 qD .full)]) (by first | exact ql.h | rfl | (simp [sc,I.settle];done)) ?_
   (conv=>whnf);rw [ru];exact ⟨m,sv m,(w (qo+(2:Int))),(qD++[((ix eF qo),(ix eF (w (qo+(1:Int)))))]),_,(.inr rfl),rfl,rfl,h⟩
  ·rw [q4];(conv=>whnf);exact KO _ _ h ⟨rfl,rfl⟩
 ·conv=>whnf
  refine bs h (fun q4 h=>?_) fun q4 h=>?_
  ·rw [q4];(conv=>whnf);refine DU (x:=au.cells [(hR t.1),(p7 qD (.own 2))]) (by first | exact ql.h | rfl | (simp [sc,I.settle];done)) ?_
   (conv=>whnf);rw [ru];refine qm h id fun rV h=>?_;rw [rP hR eF qo rV];(conv=>whnf);refine qm h id fun rE h=>?_;rw [rP hR eF (w (qo+(1:Int))) rE];(conv=>whnf);obtain ⟨rz,h⟩:=qJ h;refine ⟨by first | rfl | (simp;done) | exact H0 p0 _ qw _,by have:=rz;omega,rfl,rz,?_⟩
   erw [I' p0 qD ((ix eF qo),(ix eF (w (qo+(1:Int)))))];(conv=>whnf);refine DU (x:=au.cells [(hR t.1),(p7 qD .shared)]) (by first | exact ql.h | rfl | (simp [sc,I.settle];done)) ?_
   (conv=>whnf);rw [ru];exact ⟨m,sv m,(w (qo+(2:Int))),(qD++[((ix eF qo),(ix eF (w (qo+(1:Int)))))]),_,(.inr rfl),rfl,rfl,h⟩
  ·rw [q4];(conv=>whnf);exact aec _ _ h ⟨rfl,rfl⟩
theorem akk {r2:GJ} {s2:Int} {du:qc} {KV:qt→qc→Option qt} {Hz:qt} {HF:qc} {rB:Int} {t:qb} {v:qt} {Q:rp} {bQ:au} {qS:List au} {MK:List au} (aed:∀ (xY:qt) (om:qc) (rD:List au) (p5:List I),KV xY om=some v→q7 133 [(0,(.bU [(hR t.1),(p7 t.2 .shared)])),(3,(.ay (xY.map (qy p0)) xY.length (.uniq 1))),(13,(p7 om (.uniq 2))),(19,(.ay (r2.map jj) r2.length .shared)),(20,(hR (r2.length:Int))),(21,(hR s2))] p5→Q (.exit 6) p5 (rD)) {T:List I} (bX:eT (Ex false [0,1,2,1,1,1,7,1,5,3,75,3,33]) T=GD 133 [(0,(.bU [(hR t.1),(p7 t.2 .shared)])),(3,(.ay (Hz.map (qy p0)) Hz.length (.uniq 1))),(5,(.ptr (qS).length 0)),(13,(p7 HF (.uniq 2))),(19,(.ay (r2.map jj) r2.length .shared)),(20,(hR (r2.length:Int))),(21,(hR s2)),(97,(p7 du .shared)),(98,(hR (du.length:Int))),(99,(hR rB))]) (h:Kv r2 s2 du KV p8 Hz HF rB=some v) :
  dD Tryz.prog J2 83 0 none Qd T ((((qS)++[au.cells [(qj (ix r2 s2) .shared)]])++[bQ])++MK) Q:=by
 unfold Qd;refine wp_loop bX ?_;refine .intro (fun m T H=>∃ (Hz:qt) (HF:qc) (rB:Int) (MK:List au),T=GD 133 [(0,(.bU [(hR t.1),(p7 t.2 .shared)])),(3,(.ay (Hz.map (qy p0)) Hz.length (.uniq 1))),(5,(.ptr (qS).length 0)),(13,(p7 HF (.uniq 2))),(19,(.ay (r2.map jj) r2.length .shared)),(20,(hR (r2.length:Int))),(21,(hR s2)),(97,(p7 du .shared)),(98,(hR (du.length:Int))),(99,(hR rB))]∧H=((((qS)++[au.cells [(qj (ix r2 s2) .shared)]])++[bQ])++MK)∧Kv r2 s2 du KV m Hz HF rB=some v) p8 ⟨Hz,HF,rB,MK,rfl,rfl,h⟩ ?_;clear h bX;rintro m T H ⟨Hz,HF,rB,MK,rfl,rfl,h⟩;cases m
 ·exact q9 h
 rename_i m;rw [Kv.eq_2] at h;conv=>whnf
 refine bs h (fun Hi h=>?_) fun Hi h=>?_
 ·rw [Hi];conv=>whnf
  refine qm h id fun JJ h=>?_;rw [q3 p0 2 qw du rB JJ];conv=>whnf
  refine DU (x:=au.cells [(hR (0:Int)),(hR (0:Int))]) (by first | exact ql.h | rfl | (simp [sc,I.settle];done)) ?_
  conv=>whnf
  rw [ru];refine DU (x:=au.cells [(hR (ix du rB).1),(hR (ix du rB).2)]) (by first | exact ql.h | rfl | (simp [sc,I.settle];done)) ?_
  conv=>whnf
  refine DU (x:=au.cells [(qj (ix r2 s2) .shared)]) (by first | exact ql.h | rfl | (simp [sc,I.settle];done)) ?_
  conv=>whnf
  refine bs h (fun Ir h=>?_) fun Ir h=>?_
  ·rw [Ir];(conv=>whnf);refine DU (x:=au.cells [(qj (ix r2 s2) .shared)]) (by first | exact ql.h | rfl | (simp [sc,I.settle];done)) ?_
   (conv=>whnf);refine DU (x:=au.cells [(hR (ix du rB).1),(hR (ix du rB).2)]) (by first | exact ql.h | rfl | (simp [sc,I.settle];done)) ?_
   (conv=>whnf);refine qm h id fun HP h=>?_;rw [rP hR (ix r2 s2) ((ix du rB).1) HP];(conv=>whnf);refine DU (x:=au.cells [(hR (ix du rB).1),(hR (ix du rB).2)]) (by first | exact ql.h | rfl | (simp [sc,I.settle];done)) ?_
   (conv=>whnf);obtain ⟨Jg,h⟩:=qJ h;refine ⟨by first | rfl | (simp;done) | exact H0 p0 _ qw _,by have:=Jg;omega,rfl,Jg,?_⟩
   erw [I' p0 HF ((ix (ix r2 s2) ((ix du rB).1)),(ix du rB).2)];(conv=>whnf);exact ⟨m,sv m,Hz,(HF++[((ix (ix r2 s2) ((ix du rB).1)),(ix du rB).2)]),(w (rB+(1:Int))),_,rfl,(Vk _ _ _),h⟩
  ·rw [Ir];(conv=>whnf);obtain ⟨Jh,h⟩:=qJ h;refine ⟨by first | rfl | simp,by have:=Jh;omega,rfl,Jh,?_⟩
   erw [Ly (qy p0) Hz HF];(conv=>whnf);exact ⟨m,sv m,(Hz++[HF]),[],(w (rB+(1:Int))),_,rfl,(Vk _ _ _),h⟩
 ·rw [Hi];conv=>whnf
  exact aed _ _ _ _ h ⟨rfl,rfl⟩
theorem MA {r2:GJ} {s1:qt} {s2:Int} {Nb:qt→Option qt} {du:qc} {t:qb} {v:qt} {Q:rp} {bQ:au} {p5:List I} {qS:List au} (Ws:∀ (FU:qt) (rD:List au) (p5:List I),Nb FU=some v→q7 133 [(0,(.bU [(hR t.1),(p7 t.2 .shared)])),(3,(.ay (FU.map (qy p0)) FU.length (.uniq 1))),(19,(.ay (r2.map jj) r2.length .shared)),(20,(hR (r2.length:Int))),(21,(hR s2))] p5→Q .normal p5 (rD)) (qi:q7 133 [(0,(.bU [(hR t.1),(p7 t.2 .shared)])),(3,(.ay (s1.map (qy p0)) s1.length (.uniq 1))),(5,(.ptr (qS).length 0)),(11,(p7 du .shared)),(19,(.ay (r2.map jj) r2.length .shared)),(20,(hR (r2.length:Int))),(21,(hR s2))] p5) (h:Ku r2 s1 s2 Nb du=some v) :
  dD Tryz.prog J2 83 0 none Qe p5 (((qS)++[au.cells [(qj (ix r2 s2) .shared)]])++[bQ]) Q:=by
 obtain ⟨qZ,rfl⟩:=qi.ex;unfold Ku at h;unfold Qe;obtain ⟨Vw,IW⟩:∃ c,Qd=c:=⟨_,rfl⟩;rw [IW];conv=>whnf
 subst IW;refine ajd ?_;refine akk ?_ (by exact rfl) h;intro xY om rD p5 h qi;obtain ⟨qZ,rfl⟩:=qi.ex;conv=>whnf
 refine bs h (fun Is h=>?_) fun Is h=>?_
 ·rw [Is];conv=>whnf
  obtain ⟨J9,h⟩:=qJ h;refine ⟨by first | rfl | simp,by have:=J9;omega,rfl,J9,?_⟩
  erw [Ly (qy p0) xY om];conv=>whnf
  exact Ws _ _ _ h ⟨rfl,rfl⟩
 ·rw [Is];conv=>whnf
  exact Ws _ _ _ h ⟨rfl,rfl⟩
theorem akj {Hm:qa} {GU:qc→Option qt} {H_:Int} {I3:qc} {t:qb} {r2:GJ} {s1:qt} {s2:Int} {v:qt} {Q:rp}  {qS:List au} (KO:∀ (MD:qc) (p5:List I),GU MD=some v→q7 133 [(0,(.bU [(hR t.1),(p7 t.2 .shared)])),(3,(.ay (s1.map (qy p0)) s1.length (.uniq 1))),(5,(.ptr (qS).length 0)),(6,(.ptr ((qS)++[au.cells [(qj (ix r2 s2) .shared)]]).length 0)),(19,(.ay (r2.map jj) r2.length .shared)),(20,(hR (r2.length:Int))),(21,(hR s2))] p5→Q (.exit 4) p5 (((qS)++[au.cells [(qj (ix r2 s2) .shared)]])++[au.cells [(hR t.1),(p7 MD (.own 2))]])) {T:List I} (bX:eT (Ex false [0,1,2,1,1,2,2,2,8,3,111]) T=GD 133 [(0,(.bU [(hR t.1),(p7 t.2 .shared)])),(3,(.ay (s1.map (qy p0)) s1.length (.uniq 1))),(5,(.ptr (qS).length 0)),(6,(.ptr ((qS)++[au.cells [(qj (ix r2 s2) .shared)]]).length 0)),(9,(qj Hm .shared)),(10,(hR H_)),(19,(.ay (r2.map jj) r2.length .shared)),(20,(hR (r2.length:Int))),(21,(hR s2))]) (h:I6 Hm GU p8 H_ I3=some v) :
  dD Tryz.prog J2 83 0 none MC T (((qS)++[au.cells [(qj (ix r2 s2) .shared)]])++[au.cells [(hR t.1),(p7 I3 (.own 2))]]) Q:=by
 unfold MC;refine wp_loop bX ?_;refine .intro (fun m T H=>∃ (H_:Int) (I3:qc),T=GD 133 [(0,(.bU [(hR t.1),(p7 t.2 .shared)])),(3,(.ay (s1.map (qy p0)) s1.length (.uniq 1))),(5,(.ptr (qS).length 0)),(6,(.ptr ((qS)++[au.cells [(qj (ix r2 s2) .shared)]]).length 0)),(9,(qj Hm .shared)),(10,(hR H_)),(19,(.ay (r2.map jj) r2.length .shared)),(20,(hR (r2.length:Int))),(21,(hR s2))]∧H=(((qS)++[au.cells [(qj (ix r2 s2) .shared)]])++[au.cells [(hR t.1),(p7 I3 (.own 2))]])∧I6 Hm GU m H_ I3=some v) p8 ⟨H_,I3,rfl,rfl,h⟩ ?_;clear h bX;rintro m T H ⟨H_,I3,rfl,rfl,h⟩;cases m
 ·exact q9 h
 rename_i m;rw [I6.eq_2] at h;conv=>whnf
 refine bs h (fun RD h=>?_) fun RD h=>?_
 ·rw [RD];conv=>whnf
  refine DU (x:=au.cells [(hR t.1),(p7 I3 (.own 2))]) (by first | exact ql.h | rfl | (simp [sc,I.settle];done)) ?_
  conv=>whnf
  rw [ru];refine qm h id fun adP h=>?_;rw [rP hR Hm H_ adP];conv=>whnf
  refine qm h id fun adQ h=>?_;rw [rP hR Hm (w (H_+(1:Int))) adQ];conv=>whnf
  obtain ⟨Wl,h⟩:=qJ h;refine ⟨by first | rfl | (simp;done) | exact H0 p0 _ qw _,by have:=Wl;omega,rfl,Wl,?_⟩
  erw [I' p0 I3 ((ix Hm H_),(ix Hm (w (H_+(1:Int)))))];conv=>whnf
  refine DU (x:=au.cells [(hR t.1),(p7 I3 .shared)]) (by first | exact ql.h | rfl | (simp [sc,I.settle];done)) ?_
  conv=>whnf
  rw [ru];exact ⟨m,sv m,(w (H_+(2:Int))),(I3++[((ix Hm H_),(ix Hm (w (H_+(1:Int)))))]),rfl,rfl,h⟩
 ·rw [RD];conv=>whnf
  exact KO _ _ h ⟨rfl,rfl⟩
theorem akg {t:qb} {r2:GJ} {p9:qt→Option qt} {s1:qt} {s2:Int} {v:qt} {Q:rp}   (rm:∀ (Ky:qt) (rD:List au) (p5:List I),p9 Ky=some v→q7 133 [(3,(.ay (Ky.map (qy p0)) Ky.length (.uniq 1)))] p5→Q (.exit 0) p5 (rD)) {T:List I} (bX:eT (Ex false [0,1,2,1,15,3,111]) T=GD 133 [(0,(.bU [(hR t.1),(p7 t.2 .shared)])),(3,(.ay (s1.map (qy p0)) s1.length (.uniq 1))),(19,(.ay (r2.map jj) r2.length .shared)),(20,(hR (r2.length:Int))),(21,(hR s2))]) (h:Ii t r2 p9 p8 s1 s2=some v) :
  dD Tryz.prog J2 83 0 none Qf T [] Q:=by
 unfold Qf;obtain ⟨Hn,qC⟩:∃ c,Qc=c:=⟨_,rfl⟩;rw [qC];obtain ⟨KD,rU⟩:∃ c,MC=c:=⟨_,rfl⟩;rw [rU];obtain ⟨akR,KI⟩:∃ c,Qe=c:=⟨_,rfl⟩;rw [KI];refine wp_loop bX ?_;refine .intro (fun m T H=>∃ (s1:qt) (s2:Int) (qS:List au),T=GD 133 [(0,(.bU [(hR t.1),(p7 t.2 .shared)])),(3,(.ay (s1.map (qy p0)) s1.length (.uniq 1))),(19,(.ay (r2.map jj) r2.length .shared)),(20,(hR (r2.length:Int))),(21,(hR s2))]∧H=(qS)∧Ii t r2 p9 m s1 s2=some v) p8 ⟨s1,s2,[],rfl,rfl,h⟩ ?_;clear h bX;rintro m T H ⟨s1,s2,qS,rfl,rfl,h⟩;cases m
 ·exact q9 h
 rename_i m;rw [Ii.eq_2] at h;conv=>whnf
 refine bs h (fun qd h=>?_) fun qd h=>?_
 ·rw [qd];conv=>whnf
  refine qm h id fun qq h=>?_;rw [rP jj r2 s2 qq];conv=>whnf
  refine DU (x:=au.cells [(.ay [] 0 .full)]) (by first | exact ql.h | rfl | (simp [sc,I.settle];done)) ?_
  conv=>whnf
  rw [ru];refine DU (x:=au.cells [(hR (0:Int)),(.ay [] 0 .full)]) (by first | exact ql.h | rfl | (simp [sc,I.settle];done)) ?_
  conv=>whnf
  rw [ru];refine DU (x:=au.cells [(qj (ix r2 s2) .shared)]) (by first | exact ql.h | rfl | (simp [sc,I.settle];done)) ?_
  conv=>whnf
  subst qC;refine akh ?_ ?_ (.inl rfl) (by exact rfl) h
  ·intro xY p5 h qi;obtain ⟨qZ,rfl⟩:=qi.ex;(conv=>whnf);refine DU (x:=au.cells [(qj (ix r2 s2) .shared)]) (by first | exact ql.h | rfl | (simp [sc,I.settle];done)) ?_
   (conv=>whnf);obtain ⟨eF,ry,h⟩:=p' h;refine ⟨qf.pl,_,PF ry,?_⟩;(conv=>whnf);subst rU;refine aki ?_ ?_ (.inl rfl) (by exact rfl) h
   ·intro xY p5 h qi;obtain ⟨qZ,rfl⟩:=qi.ex;(conv=>whnf);obtain ⟨qh,rS,h⟩:=p' h;refine ⟨_,_,call7 (l:=[(hR t.1),(p7 xY .full)]) (cs:=[(hR t.1),(p7 xY .full)]) (sr _) (by first | exact ql.h | rfl | (simp [sc,I.settle];done)) rfl (qK (pY rfl (pY (qG (fun _=>(pY rfl (pY rfl rfl))) _ _ _) rfl))) (ds:=[(hR t.1),(p7 xY .shared)]) rfl (TY rS),?_⟩
    rw [ru];(conv=>whnf);obtain ⟨qk,HD,h⟩:=p' h;refine ⟨_,_,HZ (cs:=[(p7 qh .shared),(.func 105 [] [(.bU [(qj (ix r2 s2) .shared)])])]) (bs:=[(p7 qh .shared),(.func 105 [] [(.bU [(qj (ix r2 s2) .shared)])])]) (qX rfl (qX (Jt rn (qX (Ib (cs:=[(qj (ix r2 s2) .shared)]) (by first | exact ql.h | rfl | (simp [sc,I.settle];done)) rfl) rn)) rn)) (by rfl) (by exact (pY (qG (fun _=>(pY rfl (pY rfl rfl))) _ _ _) (pY (I1 rfl (pY (qK (pY (ra (fun _=>rfl) _ _ _) rfl)) rfl)) rfl))) (PR ⟨(pY (qK (pY (ra (fun _=>rfl) _ _ _) rfl)) rfl),by simp⟩ (fun _ _ a0=>TZ a0) HD) rfl,?_⟩
    (conv=>whnf);refine bs h (fun GR h=>?_) fun GR h=>?_
    ·rw [GR];(conv=>whnf);refine qm h id fun HO h=>?_;erw [Pl p0 2 qw qh (w (qk+(1:Int))) HO];(conv=>whnf);refine qm h id fun G6 h=>?_;erw [Mb p0 2 qw qh (w (qk+(1:Int))) G6];(conv=>whnf);obtain ⟨rJ,Iq,h⟩:=p' h;refine ⟨(pY (O2 (pY (qG (fun _=>(pY rfl (pY rfl rfl))) _ _ _) (pY (qG (fun _=>(pY rfl (pY rfl rfl))) _ _ _) rfl))) rfl),_,T0 Iq,IE,?_⟩;(conv=>whnf);subst KI;refine MA ?_ (by exact ⟨rfl,rfl⟩) h;intro FU rD p5 h qi;obtain ⟨qZ,rfl⟩:=qi.ex;(conv=>whnf);exact ⟨m,sv m,FU,(w (s2+(1:Int))),_,rfl,rfl,h⟩
    ·rw [GR];(conv=>whnf);subst KI;refine MA ?_ (by exact ⟨rfl,rfl⟩) h;intro FU rD p5 h qi;obtain ⟨qZ,rfl⟩:=qi.ex;(conv=>whnf);exact ⟨m,sv m,FU,(w (s2+(1:Int))),_,rfl,rfl,h⟩
   ·intro xY p5 h qi;obtain ⟨qZ,rfl⟩:=qi.ex;(conv=>whnf);obtain ⟨HT,M1,h⟩:=p' h;refine ⟨_,_,call7 (l:=[(hR t.1),(p7 xY (.own 2))]) (cs:=[(hR t.1),(p7 xY .shared)]) (sr _) (by first | exact ql.h | rfl | (simp [sc,I.settle];done)) rfl (qK (pY rfl (pY (qG (fun _=>(pY rfl (pY rfl rfl))) _ _ _) rfl))) (ds:=[(hR t.1),(p7 xY .shared)]) rfl (TY M1),?_⟩
    rw [ru];(conv=>whnf);obtain ⟨Jp,Rx,h⟩:=p' h;refine ⟨_,_,HZ (cs:=[(p7 HT .shared),(.func 105 [] [(.bU [(qj (ix r2 s2) .shared)])])]) (bs:=[(p7 HT .shared),(.func 105 [] [(.bU [(qj (ix r2 s2) .shared)])])]) (qX rfl (qX (Jt rn (qX (Ib (cs:=[(qj (ix r2 s2) .shared)]) (by first | exact ql.h | rfl | (simp [sc,I.settle];done)) rfl) rn)) rn)) (by rfl) (by exact (pY (qG (fun _=>(pY rfl (pY rfl rfl))) _ _ _) (pY (I1 rfl (pY (qK (pY (ra (fun _=>rfl) _ _ _) rfl)) rfl)) rfl))) (PR ⟨(pY (qK (pY (ra (fun _=>rfl) _ _ _) rfl)) rfl),by simp⟩ (fun _ _ a0=>TZ a0) Rx) rfl,?_⟩
    (conv=>whnf);refine bs h (fun M3 h=>?_) fun M3 h=>?_
    ·rw [M3];(conv=>whnf);refine qm h id fun M4 h=>?_;erw [Pl p0 2 qw HT (w (Jp+(1:Int))) M4];(conv=>whnf);refine qm h id fun Ry h=>?_;erw [Mb p0 2 qw HT (w (Jp+(1:Int))) Ry];(conv=>whnf);obtain ⟨H6,M5,h⟩:=p' h;refine ⟨(pY (O2 (pY (qG (fun _=>(pY rfl (pY rfl rfl))) _ _ _) (pY (qG (fun _=>(pY rfl (pY rfl rfl))) _ _ _) rfl))) rfl),_,T0 M5,IE,?_⟩;(conv=>whnf);subst KI;refine MA ?_ (by exact ⟨rfl,rfl⟩) h;intro Uj rD p5 h qi;obtain ⟨qZ,rfl⟩:=qi.ex;(conv=>whnf);exact ⟨m,sv m,Uj,(w (s2+(1:Int))),_,rfl,rfl,h⟩
    ·rw [M3];(conv=>whnf);subst KI;refine MA ?_ (by exact ⟨rfl,rfl⟩) h;intro Uj rD p5 h qi;obtain ⟨qZ,rfl⟩:=qi.ex;(conv=>whnf);exact ⟨m,sv m,Uj,(w (s2+(1:Int))),_,rfl,rfl,h⟩
  ·intro xY p5 h qi;obtain ⟨qZ,rfl⟩:=qi.ex;(conv=>whnf);refine DU (x:=au.cells [(qj (ix r2 s2) .shared)]) (by first | exact ql.h | rfl | (simp [sc,I.settle];done)) ?_
   (conv=>whnf);obtain ⟨Hm,adO,h⟩:=p' h;refine ⟨qf.pl,_,PF adO,?_⟩;(conv=>whnf);subst rU;refine akj ?_ (by exact rfl) h;intro MD p5 h qi;obtain ⟨qZ,rfl⟩:=qi.ex;(conv=>whnf);obtain ⟨KZ,adR,h⟩:=p' h;refine ⟨_,_,call7 (l:=[(hR t.1),(p7 MD (.own 2))]) (cs:=[(hR t.1),(p7 MD .shared)]) (sr _) (by first | exact ql.h | rfl | (simp [sc,I.settle];done)) rfl (qK (pY rfl (pY (qG (fun _=>(pY rfl (pY rfl rfl))) _ _ _) rfl))) (ds:=[(hR t.1),(p7 MD .shared)]) rfl (TY adR),?_⟩
   rw [ru];(conv=>whnf);obtain ⟨Nk,adS,h⟩:=p' h;refine ⟨_,_,HZ (cs:=[(p7 KZ .shared),(.func 105 [] [(.bU [(qj (ix r2 s2) .shared)])])]) (bs:=[(p7 KZ .shared),(.func 105 [] [(.bU [(qj (ix r2 s2) .shared)])])]) (qX rfl (qX (Jt rn (qX (Ib (cs:=[(qj (ix r2 s2) .shared)]) (by first | exact ql.h | rfl | (simp [sc,I.settle];done)) rfl) rn)) rn)) (by rfl) (by exact (pY (qG (fun _=>(pY rfl (pY rfl rfl))) _ _ _) (pY (I1 rfl (pY (qK (pY (ra (fun _=>rfl) _ _ _) rfl)) rfl)) rfl))) (PR ⟨(pY (qK (pY (ra (fun _=>rfl) _ _ _) rfl)) rfl),by simp⟩ (fun _ _ a0=>TZ a0) adS) rfl,?_⟩
   (conv=>whnf);refine bs h (fun RE h=>?_) fun RE h=>?_
   ·rw [RE];(conv=>whnf);refine qm h id fun adT h=>?_;erw [Pl p0 2 qw KZ (w (Nk+(1:Int))) adT];(conv=>whnf);refine qm h id fun adU h=>?_;erw [Mb p0 2 qw KZ (w (Nk+(1:Int))) adU];(conv=>whnf);obtain ⟨Sj,adV,h⟩:=p' h;refine ⟨(pY (O2 (pY (qG (fun _=>(pY rfl (pY rfl rfl))) _ _ _) (pY (qG (fun _=>(pY rfl (pY rfl rfl))) _ _ _) rfl))) rfl),_,T0 adV,IE,?_⟩;(conv=>whnf);subst KI;refine MA ?_ (by exact ⟨rfl,rfl⟩) h;intro Ui rD p5 h qi;obtain ⟨qZ,rfl⟩:=qi.ex;(conv=>whnf);exact ⟨m,sv m,Ui,(w (s2+(1:Int))),_,rfl,rfl,h⟩
   ·rw [RE];(conv=>whnf);subst KI;refine MA ?_ (by exact ⟨rfl,rfl⟩) h;intro Ui rD p5 h qi;obtain ⟨qZ,rfl⟩:=qi.ex;(conv=>whnf);exact ⟨m,sv m,Ui,(w (s2+(1:Int))),_,rfl,rfl,h⟩
 ·rw [qd];conv=>whnf
  exact rm _ _ _ h ⟨rfl,rfl⟩
theorem Ue {t:qb} {v:qt} (h:Jw t=some v):qg 83 [(.bU [(hR t.1),(.ay (t.2.flatMap p0) t.2.length .shared)])] (.ay (v.map (qy p0)) v.length .shared):=by
 refine qB dJ afP rfl (ra (fun _=>(qG (fun _=>(pY rfl (pY rfl rfl))) _ _ _)) _ _ _) fun Q bl=>?_;have jy:qn [.tmp 2] Q (fun v=>(.ay (v.map (qy p0)) v.length .shared)) v:=fun T H bI=>bl _ T H bI;unfold Jw at h;unfold aa4;obtain ⟨akS,Wd⟩:∃ c,Qf=c:=⟨_,rfl⟩;rw [Wd];conv=>whnf
 obtain ⟨r1,eW,h⟩:=p' h;refine ⟨qf.pl,_,Uc eW,?_⟩;conv=>whnf
 obtain ⟨r2,fm,h⟩:=p' h;refine ⟨qf.pl,_,PG fm,?_⟩;conv=>whnf
 subst Wd;refine akg ?_ (by exact rfl) h;intro Ky rD p5 h qi;obtain ⟨qZ,rfl⟩:=qi.ex;conv=>whnf
 exact p4 h jy rfl rfl
end Go.Proofs.YtfakoboiahbhaaaGreat.Ab


namespace Go.Proofs.YtfakoboiahbhaaaGreat.Ab
open Go
theorem ajj {x y:Row} (h:0<x.length+y.length) (af:x.length+y.length≤24):Mk [x,y]=some (x++y):=by
 have fT:ix [x,y] (0:Int)=x:=rfl;have e1:ix [x,y] (1:Int)=y:=rfl;have w0:w ((0:Int)+1)=1:=by decide
 have bC:w ((1:Int)+1)=2:=by decide
 have ak:([x,y]:List Row).length=2:=rfl;rw [Mk,show p8=18446744073709551613+3 from rfl,Kk,ak,if_pos (by decide),qe (by decide),fT,HH (n:=(0:Int)+(x.length:Int)) (by omega),if_neg (by simp),w0,Kk,ak,if_pos (by decide),qe (by decide),e1,HH (n:=(0:Int)+(x.length:Int)+(y.length:Int)) (by omega),if_neg (by simp;omega),bC,Kk,ak,if_neg (by decide),T3,qe ⟨rfl,by omega,by omega⟩,r_,Kl,ak,if_pos (by decide),qe (by decide),fT,qe (by simp;omega),w0,Kl,ak,if_pos (by decide),qe (by decide),e1,qe (by simp;omega),bC,Kl,ak,if_neg (by decide)];rfl
section
variable {b t:p3} {S:List Int} {r2:List (List Int)} {s2:Int}
theorem Z' (he:ix r2 s2=S) (cm:ri t S) (ak:S.length≤1000) {k:Row→Option (List Row)}:∀ (m i:Nat) (z:Int),z=i→i≤S.length→S.length-i<m→Lo t r2 s2 k m z ((S.take i).map (ix t.2))=k (S.map (ix t.2))
 | 0,_,_,_,_,h=>absurd h (by omega)
 | m+1,i,_,rfl,hi,hm=>by
   rw [Lo,he];by_cases h:(i:Int)<(S.length:Int)
   ·(have qT:i<S.length:=by omega);have ai:=cm _ (sE qT);rw [if_pos (decide_eq_true h),qe ⟨by omega,h⟩,qW qT,qe ai,qe (by simp;omega),rH i (by omega)];(have e:(S.take i).map (ix t.2)++[ix t.2 S[i]]=(S.take (i+1)).map (ix t.2):=by rw [Kj qT,sY];rfl);rw [e];exact Z' he cm ak m (i+1) _ rfl (by omega) (by omega)
   ·rw [if_neg (by simpa using h),show i=S.length by omega,tz]
theorem aab {o:List Int} (aq:o.length≤1000) {k:Row→Option (List Row)}:∀ (m i:Nat) (z:Int) (acc:Row),z=i→acc.length+o.length≤10000+i→o.length+2-i<m→i≤o.length+1→acc.length≤10000+i→I6 o k m z acc=k (acc++Hd (o.drop i))
 | 0,_,_,_,_,_,h,_,_=>absurd h (by omega)
 | m+1,i,_,acc,rfl,cd,hm,hi,akZ=>by
   rw [I6,rH i (by omega)];by_cases h:((i+1:Nat):Int)<(o.length:Int)
   ·(have ad:i<o.length:=by omega);(have af:i+1<o.length:=by omega);rw [if_pos (decide_eq_true h),qe ⟨by omega,by omega⟩,qe ⟨by omega,h⟩,qe (by omega),qW ad,qW af,HH (n:=(i:Int)+2) (by omega),aab aq m (i+2) _ _ (by omega) (by simp;omega) (by omega) (by omega) (by simp;omega)];rw [sT ad,sT af,Hd];simp
   ·rw [if_neg (by simpa using h)]
    have:Hd (o.drop i)=[]:=by
     have ak:(o.drop i).length≤1:=by simp;omega
     match o.drop i,ak with
     | [],_=>rfl
     | [_],_=>rfl
     | _::_::_,h=>simp at h
    rw [this,sN]
theorem Ud (he:ix r2 s2=S) {du:Row} {T:p3} (aw:∀ p∈du,Hp T p) (ak:du.length≤1000) {k:List Row→Option (List Row)}:∀ (m i:Nat) (z:Int) (out:List Row) (own:Row),z=i→i≤du.length→du.length-i<m→out.length≤1000+i→own.length≤i →
  Kv r2 s2 du (fun xY om=>if (decide ((0:Int)<(om.length:Int)))=true then p6 ((xY.length+1)*24≤140737488355328) <| k (xY++[om]) else k xY) m out own z=k (out++rG S own (du.drop i))
 | 0,_,_,_,_,_,_,h,_,_=>absurd h (by omega)
 | m+1,i,_,out,own,rfl,hi,hm,ad,af=>by
   rw [Kv,he];by_cases h:(i:Int)<(du.length:Int)
   ·(have qT:i<du.length:=by omega);have aC:=aw _ (sE qT);rw [if_pos (decide_eq_true h),qe ⟨by omega,h⟩,qW qT,sT qT,rG,rH i (by omega)];by_cases aU:du[i].1<(S.length:Int)
    ·rw [if_pos (decide_eq_true aU),if_pos aU,qe ⟨aC.1,aU⟩,qe (by omega)];exact Ud he aw ak m (i+1) _ out _ rfl (by omega) (by omega) (by omega) (by simp;omega)
    ·rw [if_neg (by simpa using aU),if_neg aU,qe (by omega),Ud he aw ak m (i+1) _ (out++[own]) [] rfl (by omega) (by omega) (by simp;omega) (by simp)];simp
   ·rw [if_neg (by simpa using h),List.drop_eq_nil_of_le (by omega),rG];by_cases aS:0<own.length
    ·rw [if_pos (by simpa using aS),if_pos aS,qe (by omega)]
    ·rw [if_neg (by simpa using aS),if_neg aS,sN]
theorem akr {s:List (Int×Int)} {f:Int×Int→Option Bool} {p:Int×Int→Bool} (aQ:∀ x∈s,f x=some (p x)) (ai:s.length≤140737488355328):Kx s f=some (posOf p s 0):=by
 have:=Ug aQ ai p8 0 0 rfl (sr _) (rC (by omega));rw [sO] at this;rw [Kx,this]
def IK (b:p3) (r:List Int):Nat:=max 1 ((qU b r).length / 2)
theorem af4 (r:List Int):IK b r≤3:=by
 have aq:(qU b r).length≤6:=sI (tJ _ _) (by rw [rN];omega);unfold IK;omega
def G3 (b:p3):Nat:=((parts b).map (IK b)).sum
theorem Z_ (p2:qu b) {P:List (List Int)} (B8:q2 b (upto b.2.length) P) {k:List Row→Option (List Row)}:∀ (m i:Nat) (z:Int) (out:List Row),z=i→i≤P.length→P.length-i<m→RowsOf b (P.take i).flatten out→(∀ r∈out,r≠[])→out.length=((P.take i).map (IK b)).sum →
  ∃ GM,Ii b P k m out z=k GM∧RowsOf b P.flatten GM∧(∀ r∈GM,r≠[])∧GM.length=(P.map (IK b)).sum
 | 0,_,_,_,_,_,h,_,_,_=>absurd h (by omega)
 | m+1,i,_,out,rfl,hi,hm,jy,bM,hlen=>by
   have dA:=p2.len;have bV:=p2.f6;have RM:=B8.few IP;rw [Ii];by_cases h:(i:Int)<(P.length:Int)
   ·(have qT:i<P.length:=by omega);obtain ⟨S,Oo⟩:∃ S,S=P[i]:=⟨_,rfl⟩;(have Ot:S∈P:=by rw [Oo];exact sE qT);(have he:ix P (i:Int)=S:=by rw [qW qT,Oo]);have M0:ri b S:=B8.KS IP S Ot;(have adD:S.Nodup:=(B8.so S Ot).imp fun h e=>by omega);have Oq:S.length≤b.2.length:=JN adD M0;have Je:=B8.ne S Ot;obtain ⟨l,a,al,bB,aO⟩:=round_part p2 M0 (by omega) Je (B8.acQ Ot);have Ru:=Xi p2 M0 Je bB aO;have aq:(qU b S).length≤6:=sI (tJ _ _) (by rw [rN];omega);have F':l.length=S.length+(qU b S).length / 2:=by
     have:=bB.upto.length_eq
     rwa [sZ,rN,Md] at this
    (have ak_:0<l.length:=by have:=ug.2 Je;omega);have aeB:∀ l:List (List Int),(l.map (IK b)).sum≤3*l.length:=fun l=>by
     induction l with
     | nil=>simp
     | cons x l a_=>rw [se,tj,sH];have:=af4 (b:=b) x;omega
    have CR:out.length≤30:=by
     have:=aeB (P.take i);rw [sR] at this;omega
    have Jl:∃ GM,Ii b P k m (out++rG S [] (Jr S l)) (w ((i:Int)+1))=k GM∧RowsOf b P.flatten GM∧(∀ r∈GM,r≠[])∧GM.length=(P.map (IK b)).sum:=by
     rw [rH i (by omega)];refine Z_ p2 B8 m (i+1) _ _ rfl (by omega) (by omega) ?_ ?_ ?_
     ·rw [Kj qT,uV,←Oo];simpa using jy.app Ru.toRowsOf
     ·intro r aj;rcases sS.1 aj with aj | aj
      ·exact bM r aj
      ·exact Ru.ne r aj
     ·rw [sm,hlen,Ru.len,Kj qT,sY,List.sum_append,←Oo];simp [IK]
    have aw:∀ (g6:Nat) (l':Row),l'=Jr S l→(∀ p∈l',Hp (rK b S) p)→l'.length≤1000→Ku P out (i:Int) (fun FU=>Ii b P k m FU (w ((i:Int)+1))) l'=Ii b P k m (out++rG S [] (Jr S l)) (w ((i:Int)+1)):=fun _ l' e dB fa=>by
     rw [Ku];refine (Ud (T:=rK b S) (k:=fun FU=>Ii b P k m FU (w ((i:Int)+1))) he dB fa p8 0 0 out [] rfl (by omega) (rC (by omega)) (by omega) (by simp)).trans ?_;rw [sO,e]
    rw [if_pos (decide_eq_true h),qe ⟨by omega,h⟩]
    have fa:=Z' (t:=b) (r2:=P) (s2:=(i:Int)) (S:=S) he M0 (by omega) (k:=fun xY =>
      (Kt b (ix P (i:Int))).bind fun eF =>
      I6 eF (fun xY =>
        (K2 (b.1,xY)).bind fun qh =>
        (Kx qh (fun qx=>NI qx (ix P (i:Int)))).bind fun qk =>
        if (decide ((0:Int)≤qk))=true then
         p6 (0≤(w (qk+(1:Int)))∧(w (qk+(1:Int)))≤(qh.length:Int)) <|
         p6 (0≤(w (qk+(1:Int)))∧(w (qk+(1:Int)))≤(qh.length:Int)) <|
         (Mk [(qh.drop (w (qk+(1:Int))).toNat),(qh.take (w (qk+(1:Int))).toNat)]).bind fun rJ =>
         Ku P out (i:Int) (fun FU =>
           Ii b P k m FU (w ((i:Int)+(1:Int)))) rJ
        else
         Ku P out (i:Int) (fun FU =>
           Ii b P k m FU (w ((i:Int)+(1:Int)))) qh) p8 (0:Int) xY) p8 0 0 rfl (by omega) (rC (by omega))
    rw [tf,tt] at fa;rw [fa,he,T' p2 M0 (by omega),r_,aab (by omega) p8 0 0 _ rfl (by simp;omega) (rC (by omega)) (by omega) (by simp;omega),sO];have nz:K2 (b.1,S.map (ix b.2)++Hd (qU b S))=some l:=al;rw [nz,r_,akr (p:=fun p=>!rY S p) (fun p _=>by rw [NI];unfold rY;congr 1;by_cases ao:p.1<(S.length:Int) <;> simp [ao] <;> omega) (by omega),r_];rcases Sf (fun p=>!rY S p) l 0 with ⟨ad,af⟩ | ⟨dL,q,kK,aee,af,aG⟩
    ·rw [ad,if_neg (by decide),aw 0 l (by unfold Jr;rw [ad];rfl) bB.ok (by omega)];exact Jl
    ·(have cC:dL.length+1≤l.length:=by rw [aee];simp);have aex:Jr S l=l.drop (dL.length+1)++l.take (dL.length+1):=by
      unfold Jr;rw [aG];simp only [sP];rw [if_pos (by omega),show ((dL.length:Int)+1).toNat=dL.length+1 by omega]
     rw [aG,sP,if_pos (by simp),rH _ (by omega),qe ⟨by omega,by omega⟩,qe ⟨by omega,by omega⟩,th,ajj (by simp;omega) (by simp;omega),r_,aw 0 _ aex.symm ?_ ?_]
     ·exact Jl
     ·intro p aC;rcases sS.1 aC with aC | aC
      ·exact bB.ok p (List.mem_of_mem_drop aC)
      ·exact bB.ok p (List.mem_of_mem_take aC)
     ·simp;omega
   ·rw [if_neg (by simpa using h)]
    have:i=P.length:=by omega
    subst this;rw [tz] at jy hlen;exact ⟨out,rfl,jy,bM,hlen⟩
structure Lv (b:p3) (R:List Row):Prop extends RowsOf b (upto b.2.length) R where
 ne:∀ r∈R,r≠[]
 len:R.length=G3 b
theorem q2.flat {P:List (List Int)} {S:List Int} (cm:S.Nodup) (B8:q2 b S P):P.flatten.Perm S:=by
 refine (uL B8.V2 cm).2 fun x=>?_;rw [B8.mem x,List.mem_flatten]
theorem PK (p2:qu b):∃ R,Jw b=some R∧Lv b R:=by
 obtain ⟨ad,af,_⟩:=Ln p2;have hlen:=p2.len;obtain ⟨R,r1,r2,eF,qh⟩:=Z_ p2 af (k:=fun Ky=>some Ky) p8 0 0 [] rfl (by omega) (rC (by have:=af.few IP;omega)) (by rw [tf];exact RowsOf.nil) (fun r aj=>absurd aj (by simp)) (by simp);refine ⟨R,?_,⟨⟨r2.ok,r2.go,r2.all.trans (af.flat (Iy _))⟩,eF,qh⟩⟩;rw [Jw,Ub (by omega),r_,ad,r_];exact r1
end
end Go.Proofs.YtfakoboiahbhaaaGreat.Ab


namespace Go.Proofs.YtfakoboiahbhaaaGreat.Ab
open Go
instance {d:Nat} {l:List I} [h:qf d l]:qf d (l.map I.gT):=⟨by
 have h:=h.pl;rw [sC] at h ⊢;intro u hu;obtain ⟨v,ae,rfl⟩:=ss.1 hu;have:=h v ae;cases d with
 | zero=>simp [cq] at this
 | succ d=>cases v with
   | ay cs n c=>cases c <;> exact this
   | _=>exact this⟩
end Go.Proofs.YtfakoboiahbhaaaGreat.Ab


namespace Go.Proofs.YtfakoboiahbhaaaGreat.Ab
open Go
set_option maxRecDepth 20000
set_option maxHeartbeats 4000000

end Go.Proofs.YtfakoboiahbhaaaGreat.Ab


namespace Go.Proofs.YtfakoboiahbhaaaGreat.Ab
open Go
set_option maxRecDepth 20000
set_option maxHeartbeats 4000000
noncomputable def aaJ:eA :=
 Gx [gO 1 [.hI 0] .box,Gk 2 0,Gk 3 0] (Gx [gO 7 [.hL 1] (.pV (.str 2)),gO 8 [.iC (.func 64 [] []),.sl 7] (.call 3),Gm 6 8,GH 9 6 0,gO 10 [.hL 6] (.ext 1),Gm 4 9,Gm 5 10] (.seq (Gx [Gl 11 5,FY 12 11 0 .neq] (.cond (.sl 12) (Gx [Gm 13 5,Gk 2 0,Gm 3 13] .ret) .skip)) (Gx [Gm 14 4,gO 15 [.iC (.func 83 [] []),.sl 14] (.call 3),Gi 16 15,Gm 2 16,Gk 3 0] .ret)))
theorem afu:ze Tryz.prog UY 35=some (aaJ,17,[.tmp 2,.tmp 3]):=by kernel_rfl
def NQ (b:qb):Option (Int×Int) :=
 (IA b).bind fun r1 =>
 match r1 with
 | (none,q1) =>
   if (decide (q1≠(0:Int)))=true then
    some ((0:Int),q1)
   else
    none
 | (some bR,q1) =>
   if (decide (q1≠(0:Int)))=true then
    some ((0:Int),q1)
   else
    (Jw bR).bind fun r2 =>
    some ((r2.length:Int),(0:Int))
theorem ajU {b:qb} {v:(Int×Int)} (h:NQ b=some v):qg 35 [(.agg [(hR b.1),(.ay (b.2.flatMap p0) b.2.length .shared)])] (.tuple [(hR v.1),(hR v.2)]):=by
 refine qB dJ afu rfl (H5 (pY rfl (pY rfl rfl))) fun Q bl=>?_;have jy:qn [.tmp 2,.tmp 3] Q (fun v=>(.tuple [(hR v.1),(hR v.2)])) v:=fun T H bI=>bl _ T H bI;unfold NQ at h;unfold aaJ;conv=>whnf
 obtain ⟨r1,eW,h⟩:=p' h;rcases r1 with ⟨_ | bR,q1⟩
 ·refine ⟨qf.pl,_,IQ eW,?_⟩;conv=>whnf
  refine bs h (fun fm h=>?_) fun fm h=>?_
  ·rw [fm];(conv=>whnf);exact p4 h jy rfl rfl
  ·rw [fm];(conv=>whnf);exact q9 h
 ·refine ⟨qf.pl,_,IQ eW,?_⟩;conv=>whnf
  refine bs h (fun qd h=>?_) fun qd h=>?_
  ·rw [qd];(conv=>whnf);exact p4 h jy rfl rfl
  ·rw [qd];(conv=>whnf);obtain ⟨r2,qq,h⟩:=p' h;refine ⟨qf.pl,_,Ue qq,?_⟩;(conv=>whnf);exact p4 h jy rfl rfl

end Go.Proofs.YtfakoboiahbhaaaGreat.Ab


namespace Go.Proofs.YtfakoboiahbhaaaGreat.Ab
open Go
section
variable {b:p3} {S:List Int}
theorem agp (p2:qu b):∀ r∈parts b,ri b r∧r.length≤10:=fun r aj=>by
 have h:=(Ln p2).2.1;have dA:=p2.len;have ad:=h.KS IP r aj;exact ⟨ad,sI (JN ((h.so r aj).imp fun h e=>by omega) ad) dA⟩
theorem NV (p2:qu b):IA b=some (some b,0):=by
 rw [IA,PA b (by have:=p2.len;omega),r_,G_.2 p2];rfl
theorem NU (ag:b.2.length≤1000) (h:qL b≠0):IA b=some (none,qL b):=by
 rw [IA,PA b ag,r_,if_pos (by simpa using h)]
def MU (b:p3):Int×Int:=if qL b≠0 then (0,qL b) else (G3 b,0)
theorem VS (p2:qu b):MU b=((G3 b:Int),0):=by unfold MU;rw [if_neg (by rw [G_.2 p2];simp)]
theorem adb (h:qL b≠0):MU b=(0,qL b):=by unfold MU;rw [if_pos h]
theorem ajT (ag:b.2.length≤1000):NQ b=some (MU b):=by
 rw [NQ];by_cases h:qL b=0
 ·have p2:=G_.1 h;obtain ⟨R,ad,af⟩:=PK p2;rw [NV p2,r_,VS p2];show (if decide ((0:Int)≠0)=true then _ else (Jw b).bind fun r2=>some ((r2.length:Int),(0:Int)))=_;rw [if_neg (by decide),ad,r_,af.len]
 ·rw [NU ag h,r_,adb h];show (if decide (qL b≠0)=true then some ((0:Int),qL b) else none)=_;rw [if_pos (by simpa using h)]
def Kz (b:p3) (S:List Int):Prop:=∀ x∈S,∀ y∈S,∀ f g,qI b x f→qI b y g→rf b S f g
theorem q2.one {out:List (List Int)} (h:q2 b S out) (aS:S≠[]):out.length=1↔Kz b S:=by
 constructor
 ·intro ad;obtain ⟨r,rfl⟩:∃ r,out=[r]:=List.length_eq_one_iff.1 ad;intro x al y a0 f g aQ aO;have hm:∀ z∈S,z∈r:=fun z bm=>by
   obtain ⟨q,a3,WA⟩:=(h.mem z).1 bm;rw [sB.1 a3] at WA;exact WA
  exact h.Ik r (by simp) x (hm x al) y (hm y a0) f g aQ aO
 ·intro bI;obtain ⟨x,al⟩:=vF S aS;obtain ⟨r,aj,IY⟩:=(h.mem x).1 al;have all:∀ q∈out,q=r:=fun q a3=>by
   obtain ⟨y,a0⟩:=vF q (h.ne q a3);have Wz:=(h.mem y).2 ⟨q,a3,a0⟩;have:=h.closed aj IY (f:=(ix b.2 x).1) (g:=(ix b.2 y).1) (.inl rfl) (bI x al y Wz _ _ (.inl rfl) (.inl rfl)) y Wz (.inl rfl);exact h.uniq a3 aj a0 this
  match out,aj,all,h with
  | [q],_,_,_=>rfl
  | q::fO::l,_,all,h =>
    exfalso;have e1:=all q (by simp);have ck:=all fO (by simp);obtain ⟨y,a0⟩:=vF q (h.ne q (by simp));exact (List.pairwise_cons.1 h.rb).1 fO (by simp) y a0 (by rw [ck,←e1];exact a0)
end
end Go.Proofs.YtfakoboiahbhaaaGreat.Ab


namespace Go.Proofs.YtfakoboiahbhaaaGreat.Ab
open Go
set_option maxRecDepth 20000
set_option maxHeartbeats 4000000
noncomputable def aav:eA :=
 Gx [gO 4 [.iC (.bool false)] .iS] (.seq (Gr [gO 5 [.sl 1] (.pV .one),gO 6 [.hL 5] .zA,F4 7 6 0,F4 8 7 1,Gj 9 8,Gl 10 0,Gf 11 9 10 2,F4 12 11 0,Gj 13 12,gO 14 [.sl 2] (.pV .one),FZ 15 13 14 .eql,Gm 16 15,cP 17 [.sl 1] 16 false (.pV .one),cP 18 [.hL 17] 16 false .zA,cP 19 [.hL 18] 16 false (.oR 0),cP 20 [.hL 19] 16 false (.oR 1),cP 21 [.hL 20] 16 false (.pV .one),cP 22 [.sl 0] 16 false .iS,cP 23 [.hL 21,.hL 22] 16 false (.pO 2),cP 24 [.hL 23] 16 false (.oR 1),cP 25 [.hL 24] 16 false (.pV .one),cP 26 [.sl 2] 16 false (.pV .one),cP 27 [.hL 25,.hL 26] 16 false (.bin .eql),gO 28 [.sl 16,.iC (.bool true),.hL 27] .pick,Gm 4 28]) .ret)
theorem afg:ze Tryz.prog UM 130=some (aav,29,[.tmp 4]):=by kernel_rfl
def Mm (i:Int) (c0:qb) (a':Int):Option Bool :=
 p6 (0≤i∧i<(c0.2.length:Int)) <|
 if (decide ((ix c0.2 i).1=a'))=true then
  some true
 else
  p6 (0≤i∧i<(c0.2.length:Int)) <|
  some (decide ((ix c0.2 i).2=a'))
theorem Zt {i:Int} {c0:qb} {a':Int} {v:Bool} (h:Mm i c0 a'=some v):qg 130 [(hR i),(.bU [(.bU [(hR c0.1),(.ay (c0.2.flatMap p0) c0.2.length .shared)])]),(.bU [(hR a')])] (B v):=by
 refine qB dJ afg rfl rfl fun Q bl=>?_;have jy:qn [.tmp 4] Q (fun v=>(B v)) v:=fun T H bI=>bl _ T H bI;unfold Mm at h;unfold aav;conv=>whnf
 refine qm h id fun eW h=>?_;rw [q3 p0 2 qw c0.2 i eW];conv=>whnf
 refine bs h (fun fm h=>?_) fun fm h=>?_
 ·rw [fm];conv=>whnf
  exact p4 h jy rfl rfl
 ·rw [fm];conv=>whnf
  refine qm h id fun qd h=>?_;rw [q3 p0 2 qw c0.2 i qd];conv=>whnf
  exact p4 h jy rfl rfl

noncomputable def PZ:eA :=
 .loop (some (Ex false [0,2,5,2,10])) (Gx [gO 9 [.sl 8,.sl 7] (.bin .lss)] (.seq (.cond (.sl 9) .skip (.exit 0)) (.seq (.block 1 (Gx [Gl 10 8,Gm 5 10] (Gx [Gl 11 1,Gl 12 0,Gl 13 5,Gf 14 12 13 1,Gj 15 14,FZ 16 11 15 .eql] (.cond (.sl 16) (Gx [Gm 17 5,Gm 4 17] .ret) .skip)))) (Gq [FX 18 8 1,Gm 8 18]))))
noncomputable def aax:eA :=
 Gx [Gk 4 0] (.seq (Gx [Gl 6 0,Gi 7 6,Gk 8 0] (.block 0 PZ)) (Gx [Gk 4 (-1)] .ret))
theorem afi:ze Tryz.prog QD 146=some (aax,19,[.tmp 4]):=by kernel_rfl
def K6 (s:qa) (HA:Int) (p9:Unit→Option Int):Nat→Int→Option Int
 | 0,_=>none
 | m+1,s1 =>
   if (decide (s1<(s.length:Int)))=true then
    p6 (0≤s1∧s1<(s.length:Int)) <|
    if (decide (HA=(ix s s1)))=true then
     some s1
    else
     K6 s HA p9 m (w (s1+(1:Int)))
   else
    p9 ()
def Pz (s:qa) (HA:Int):Option Int :=
 K6 s HA (fun _ =>
   some (-1:Int)) p8 (0:Int)
theorem ajx {s:qa} {HA:Int} {p9:Unit→Option Int} {s1:Int} {v:Int} {Q:rp}   (jy:qn [.tmp 4] Q (fun v=>(hR v)) v) (rm:∀ (p5:List I),p9 ()=some v→q7 19 [] p5→Q (.exit 0) p5 []) {T:List I} (bX:eT (Ex false [0,2,5,2,10]) T=GD 19 [(0,(qj s .shared)),(1,(hR HA)),(7,(hR (s.length:Int))),(8,(hR s1))]) (h:K6 s HA p9 p8 s1=some v) :
  dD Tryz.prog QD 146 0 none PZ T [] Q:=by
 unfold PZ;refine wp_loop bX ?_;refine .intro (fun m T H=>∃ (s1:Int),T=GD 19 [(0,(qj s .shared)),(1,(hR HA)),(7,(hR (s.length:Int))),(8,(hR s1))]∧H=[]∧K6 s HA p9 m s1=some v) p8 ⟨s1,rfl,rfl,h⟩ ?_;clear h bX;rintro m T H ⟨s1,rfl,rfl,h⟩;cases m
 ·exact q9 h
 rename_i m;rw [K6.eq_2] at h;conv=>whnf
 refine bs h (fun eW h=>?_) fun eW h=>?_
 ·rw [eW];conv=>whnf
  refine qm h id fun fm h=>?_;rw [rP hR s s1 fm];conv=>whnf
  refine bs h (fun qd h=>?_) fun qd h=>?_
  ·rw [qd];(conv=>whnf);exact p4 h jy rfl rfl
  ·rw [qd];(conv=>whnf);exact ⟨m,sv m,(w (s1+(1:Int))),rfl,rfl,h⟩
 ·rw [eW];conv=>whnf
  exact rm  _ h ⟨rfl,rfl⟩
theorem ajy {s:qa} {HA:Int} {v:Int} (h:Pz s HA=some v):qg 146 [(.ay (s.map hR) s.length .shared),(hR HA)] (hR v):=by
 refine qB dJ afi rfl rfl fun Q bl=>?_;have jy:qn [.tmp 4] Q (fun v=>(hR v)) v:=fun T H bI=>bl _ T H bI;unfold Pz at h;unfold aax;obtain ⟨Hn,qC⟩:∃ c,PZ=c:=⟨_,rfl⟩;rw [qC];conv=>whnf
 subst qC;refine ajx ?_ ?_ (by exact rfl) h
 ·exact fun T H bI=>jy T H bI
 ·intro  p5 h qi;obtain ⟨qZ,rfl⟩:=qi.ex;conv=>whnf
  exact p4 h jy rfl rfl

noncomputable def aaw:eA :=
 Gx [gO 4 [.iC (.bool false)] .iS] (Gx [Gm 5 0,Gm 6 1,gO 7 [.iC (.func 146 [] []),.sl 5,.sl 6] (.call 3),FY 8 7 0 .geq,Gm 4 8] .ret)
theorem afh:ze Tryz.prog UN 131=some (aaw,9,[.tmp 4]):=by kernel_rfl
def NK (s:qa) (HA:Int):Option Bool :=
 (Pz s HA).bind fun r1 =>
 some (decide ((0:Int)≤r1))
theorem ajw {s:qa} {HA:Int} {v:Bool} (h:NK s HA=some v):qg 131 [(.ay (s.map hR) s.length .shared),(hR HA)] (B v):=by
 refine qB dJ afh rfl rfl fun Q bl=>?_;have jy:qn [.tmp 4] Q (fun v=>(B v)) v:=fun T H bI=>bl _ T H bI;unfold NK at h;unfold aaw;conv=>whnf
 obtain ⟨r1,eW,h⟩:=p' h;refine ⟨qf.pl,_,ajy eW,?_⟩;conv=>whnf
 exact p4 h jy rfl rfl

noncomputable def aaq:eA :=
 Gx [gO 3 [.hI 0] .box,gO 5 [.hI 2] .box,gO 6 [.iC (.bool false)] .iS] (Gx [gO 9 [.sl 3,.sl 5] (.zu 130 0 2),Gm 7 9] (Gx [gO 10 [.sl 3] (.pV .one),Gl 11 1,gO 12 [.iC (.func 76 [] []),.sl 10,.sl 11] (.call 3),Gm 8 12] (.seq (.block 0 (Gx [Gl 14 1,Gi 15 14,FY 16 15 0 .eql,Gm 13 16] (.cond (.sl 13) (Gx [gO 6 [.iC (.bool true)] .iS] .ret) (Gx [Gl 18 8,Gi 19 18,FY 20 19 2 .gtr,Gm 21 20,cP 22 [.sl 8] 21 false .iS,cP 23 [.hI 22] 21 false .w8,cP 24 [.hL 23,.iC (.int .i64 2)] 21 false (.bin .eql),cP 25 [.hI 24] 21 false .iS,cP 26 [.hI 8] 25 true .iS,cP 27 [.hL 5] 25 true (.pV .one),⟨some 28,[.iC (.func 131 [] []),.sl 26,.sl 27],some (25,true),none,.call 3⟩,cP 29 [.hL 28] 25 true (.un .not),cP 30 [.hL 25,.hL 29,.iC (.bool false)] 21 false .pick,gO 31 [.hL 21,.iC (.bool true),.hL 30] .pick,Gm 32 31,cP 33 [.sl 1] 32 false .iS,cP 34 [.hI 7] 32 false .iS,⟨some 35,[.iC (.func 92 [] []),.sl 33,.sl 34],some (32,false),none,.call 6⟩,cP 36 [.hL 35] 32 false (.un .not),gO 37 [.hL 32,.iC (.bool true),.hL 36] .pick,Gm 17 37] (.cond (.sl 17) (Gx [gO 6 [.iC (.bool false)] .iS] .ret) .skip))))) (Gx [Gj 38 3,Gm 39 1,gO 40 [.iC (.func 79 [] []),.sl 38,.sl 39] (.call 3),Gi 41 40,FY 42 41 1 .eql,Gm 6 42] .ret))))
theorem afb:ze Tryz.prog UD 109=some (aaq,43,[.tmp 6]):=by kernel_rfl
def K3 (t:qb) (p_:qa) (figure:Int):Option Bool :=
 (Kt t p_).bind fun r1 =>
 if (decide ((p_.length:Int)=(0:Int)))=true then
  some true
 else
  if (decide ((2:Int)<(r1.length:Int)))=true then
   some false
  else
   if (decide ((r1.length:Int)=(2:Int)))=true then
    (NK r1 figure).bind fun r2 =>
    if r2=true then
     (JW p_ (fun qx=>Mm qx t figure)).bind fun eF =>
     if eF=true then
      (JV t p_).bind fun qh =>
      some (decide ((qh.length:Int)=(1:Int)))
     else
      some false
    else
     some false
   else
    (JW p_ (fun qx=>Mm qx t figure)).bind fun qk =>
    if qk=true then
     (JV t p_).bind fun rJ =>
     some (decide ((rJ.length:Int)=(1:Int)))
    else
     some false
theorem Zp {t:qb} {p_:qa} {figure:Int} {v:Bool} (h:K3 t p_ figure=some v):qg 109 [(.bU [(hR t.1),(.ay (t.2.flatMap p0) t.2.length .shared)]),(.ay (p_.map hR) p_.length .shared),(hR figure)] (B v):=by
 refine qB dJ afb rfl rfl fun Q bl=>?_;have jy:qn [.tmp 6] Q (fun v=>(B v)) v:=fun T H bI=>bl _ T H bI;unfold K3 at h;unfold aaq;conv=>whnf
 obtain ⟨r1,eW,h⟩:=p' h;refine ⟨qf.pl,_,PF eW,?_⟩;conv=>whnf
 refine bs h (fun fm h=>?_) fun fm h=>?_
 ·rw [fm];conv=>whnf
  exact p4 h jy rfl rfl
 ·rw [fm];conv=>whnf
  refine bs h (fun qd h=>?_) fun qd h=>?_
  ·rw [qd];(conv=>whnf);exact p4 h jy rfl rfl
  ·rw [qd];(conv=>whnf);refine bs h (fun qq h=>?_) fun qq h=>?_
   ·rw [qq];(conv=>whnf);obtain ⟨r2,qP,h⟩:=p' h;refine ⟨qf.pl,_,ajw qP,?_⟩;(conv=>whnf);cases r2
    ·(conv=>whnf);replace h:=GK rfl h;exact p4 h jy rfl rfl
    ·(conv=>whnf);replace h:=GL rfl h;obtain ⟨eF,q_,h⟩:=p' h;refine ⟨_,_,HZ (cs:=[(qj p_ .shared),(.func 130 [] [(.bU [(.bU [(hR t.1),(p7 t.2 .shared)])]),(.bU [(hR figure)])])]) (bs:=[(qj p_ .shared),(.func 130 [] [(.bU [(.bU [(hR t.1),(p7 t.2 .shared)])]),(.bU [(hR figure)])])]) (qX rfl (qX (Jt rn (qX (Ib (cs:=[(.bU [(hR t.1),(p7 t.2 .shared)])]) (by first | exact ql.h | rfl | (simp [sc,I.settle];done)) rfl) (qX (Ib (cs:=[(hR figure)]) (by first | exact ql.h | rfl | (simp [sc,I.settle];done)) rfl) rn))) rn)) (by rfl) (by exact (pY (ra (fun _=>rfl) _ _ _) (pY (I1 rfl (pY (qK (pY (qK (pY rfl (pY (qG (fun _=>(pY rfl (pY rfl rfl))) _ _ _) rfl))) rfl)) (pY (qK (pY rfl rfl)) rfl))) rfl))) (PQ ⟨(pY (qK (pY (qK (pY rfl (pY (qG (fun _=>(pY rfl (pY rfl rfl))) _ _ _) rfl))) rfl)) (pY (qK (pY rfl rfl)) rfl)),by simp⟩ (fun _ _ a0=>Zt a0) q_) rfl,?_⟩
     (conv=>whnf);cases eF
     ·(conv=>whnf);replace h:=GK rfl h;exact p4 h jy rfl rfl
     ·(conv=>whnf);replace h:=GL rfl h;obtain ⟨qh,qO,h⟩:=p' h;refine ⟨qf.pl,_,PG qO,?_⟩;(conv=>whnf);exact p4 h jy rfl rfl
   ·rw [qq];(conv=>whnf);obtain ⟨qk,qR,h⟩:=p' h;refine ⟨_,_,HZ (cs:=[(qj p_ .shared),(.func 130 [] [(.bU [(.bU [(hR t.1),(p7 t.2 .shared)])]),(.bU [(hR figure)])])]) (bs:=[(qj p_ .shared),(.func 130 [] [(.bU [(.bU [(hR t.1),(p7 t.2 .shared)])]),(.bU [(hR figure)])])]) (qX rfl (qX (Jt rn (qX (Ib (cs:=[(.bU [(hR t.1),(p7 t.2 .shared)])]) (by first | exact ql.h | rfl | (simp [sc,I.settle];done)) rfl) (qX (Ib (cs:=[(hR figure)]) (by first | exact ql.h | rfl | (simp [sc,I.settle];done)) rfl) rn))) rn)) (by rfl) (by exact (pY (ra (fun _=>rfl) _ _ _) (pY (I1 rfl (pY (qK (pY (qK (pY rfl (pY (qG (fun _=>(pY rfl (pY rfl rfl))) _ _ _) rfl))) rfl)) (pY (qK (pY rfl rfl)) rfl))) rfl))) (PQ ⟨(pY (qK (pY (qK (pY rfl (pY (qG (fun _=>(pY rfl (pY rfl rfl))) _ _ _) rfl))) rfl)) (pY (qK (pY rfl rfl)) rfl)),by simp⟩ (fun _ _ a0=>Zt a0) qR) rfl,?_⟩
    (conv=>whnf);cases qk
    ·(conv=>whnf);replace h:=GK rfl h;exact p4 h jy rfl rfl
    ·(conv=>whnf);replace h:=GL rfl h;obtain ⟨rJ,ry,h⟩:=p' h;refine ⟨qf.pl,_,PG ry,?_⟩;(conv=>whnf);exact p4 h jy rfl rfl

end Go.Proofs.YtfakoboiahbhaaaGreat.Ab
