
import Derived.Test.YtfakoboiahbhaaaGreatJr8
import Derived.Test.YtfakoboiahbhaaaGreatJr4
import Derived.Test.YtfakoboiahbhaaaGreatProg
import Derived.KernelRfl
import Derived.Test.YtfakoboiahbhaaaGreatJr5
set_option linter.unusedSimpArgs false
set_option linter.unusedVariables false
set_option linter.unusedSectionVars false

open Int renaming toNat_natCast→tI
open List renaming all_eq_true→sS,append_assoc→sD,append_nil→sU,cons_append→vg,drop_eq_getElem_cons→tf,drop_zero→tb,exists_mem_of_ne_nil→vY,ext_getElem?→ud,filter_append→uy,filter_cons→tr,find?_eq_none→vB,flatMap_cons→uo,flatten_append→vl,flatten_cons→tG,getD_eq_getElem?_getD→sV,getElem?_append→su,getElem?_eq_none→tQ,getElem?_eq_some_iff→ss,getElem?_map→sN,getElem?_set_ne→sG,getElem?_set_self→sE,getElem?_take→th,getElem_append_left→wG,getElem_append_right→wH,getElem_map→vi,getElem_mem→sL,getElem_of_mem→uG,getElem_set→wI,length_append→sA,length_cons→sP,length_eq_zero_iff→tt,length_filter_le→tO,length_map→tj,length_nil→uU,length_pos_iff→tT,length_set→tC,length_singleton→tx,length_take→ta,map_append→ti,map_cons→sy,map_map→uD,map_nil→tA,mem_append→te,mem_append_left→vz,mem_cons→sH,mem_filter→s_,mem_map→sJ,mem_range→sX,mem_reverse→wL,mem_singleton→sQ,nil_append→ur,nodup_append→uz,nodup_cons→uA,nodup_range→uC,pairwise_append→vt,pairwise_iff_getElem→tB,pairwise_map→vd,perm_append_comm→wK,perm_ext_iff_of_nodup→uO,range_succ→vA,reverse_perm→vZ,set_set→td,sum_append→v3,sum_cons→tn,take_length→tE,take_of_length_le→ui,take_zero→tu
open Nat renaming le_refl→sx,le_trans→sW,lt_succ_self→sv,min_eq_left→tK,zero_add→tc,zero_le→sK
open Option renaming bind_some→sq,map_eq_some_iff→sr
namespace Go.Proofs.YtfakoboiahbhaaaGreat.Ab
open Go
theorem Hq {n:Nat} {x:Int}:x∈upto n↔0≤x∧x<(n:Int):=by
 unfold upto;rw [sJ];constructor
 ·rintro ⟨j,aw,rfl⟩;have:=sX.1 aw;omega
 ·rintro ⟨ad,af⟩;exact ⟨x.toNat,sX.2 (by omega),by omega⟩
theorem IJ (n:Nat):(upto n).Nodup:=by
 unfold upto;exact vd.2 (uC.imp fun h e=>h (by omega))
section
variable {b:qb}
theorem Hh.aeT {f g:Int} (h:Hh b (-1) f g):rV b (upto b.2.length) f g:=by
 obtain ⟨n,h⟩:=h
 induction n generalizing g with
 | zero=>rw [show f=g from h];exact .refl
 | succ n bb =>
   obtain ⟨c,ad,af⟩:=h;obtain ⟨i,hi,_,aG⟩:=af.I2;refine .step (i:Int) (bb ad) (Hq.2 ⟨by omega,by omega⟩) ?_ ?_
   ·rcases aG with ⟨aG,_⟩ | ⟨aG,_⟩
    ·exact .inl aG
    ·exact .inr aG
   ·rcases aG with ⟨_,aG⟩ | ⟨_,aG⟩
    ·exact .inr aG
    ·exact .inl aG
theorem SG {i f g:Int} (hi:i∈upto b.2.length) (ad:re b i f) (af:re b i g):Hh b (-1) f g:=by
 have hi:=Hq.1 hi;obtain ⟨j,rfl⟩:∃ j:Nat,i=(j:Int):=⟨i.toNat,by omega⟩;have he:=HG.of (b:=b) (wo := -1) (i:=j) (by omega) (by omega);rcases ad with rfl | rfl <;> rcases af with rfl | rfl
 ·exact Hh.refl _
 ·exact he.Oh
 ·exact he.symm.Oh
 ·exact Hh.refl _
theorem rV.Oh {f g:Int} (h:rV b (upto b.2.length) f g):Hh b (-1) f g:=by
 induction h with
 | refl=>exact Hh.refl _
 | step i _ hi aB aH bb=>exact bb.trans (SG hi aB aH)
theorem PI (p7:qM b) {i f:Int} (hi:i∈upto b.2.length) (h:re b i f):0≤f∧f<b.1:=by
 have hi:=Hq.1 hi;obtain ⟨j,rfl⟩:∃ j:Nat,i=(j:Int):=⟨i.toNat,by omega⟩;have:=Vj p7 (i:=j) (by omega);rcases h with rfl | rfl <;> omega
structure Jx (key:Int→Int) (i:Nat) (seen:List Int) (out:List (List Int)):Prop where
 len:out.length=seen.length
 GQ:seen.Nodup
 par:∀ (j:Nat) (h:j<out.length) (aY:j<seen.length) (x:Int),x∈out[j]↔0≤x∧x<(i:Int)∧key x=seen[j]
 II:∀ r∈out,r.Pairwise (·<·)
 ne:∀ r∈out,r≠[]
 all:∀ x:Int,0≤x→x<(i:Int)→key x∈seen
 a1:out.Pairwise fun x y=>ix x 0<ix y 0
theorem Jx.new {key:Int→Int} {i:Nat} {seen:List Int} {out:List (List Int)} (h:Jx key i seen out) (aN:key i ∉ seen):Jx key (i+1) (seen++[key i]) (out++[[(i:Int)]]):=by
 have ak:=h.len;refine ⟨by simp [ak],?_,fun j aw ej x=>?_,fun r aj=>?_,fun r aj=>?_,fun x ad af=>?_,?_⟩
 ·rw [uz];exact ⟨h.GQ,by simp,fun a cg c ao e=>by simp only [sQ] at ao;subst ao;subst e;exact aN cg⟩
 ·by_cases l4:j<out.length
  ·rw [wG l4,wG (by omega),h.par j l4 (by omega) x];constructor
   ·rintro ⟨aB,aH,aR⟩;exact ⟨aB,by omega,aR⟩
   ·rintro ⟨aB,aH,aR⟩;refine ⟨aB,?_,aR⟩
    have:x≠(i:Int):=fun e=>aN (by rw [←e,aR];exact sL _)
    omega
  ·(have e:j=out.length:=by simp at aw;omega);subst e;rw [wH (by omega),wH (by omega)];simp only [Nat.sub_self,ak,List.getElem_cons_zero,sQ];constructor
   ·rintro rfl;exact ⟨by omega,by omega,rfl⟩
   ·rintro ⟨aB,aH,aR⟩;refine Classical.byContradiction fun al=>aN ?_;rw [←aR];exact h.all x aB (by omega)
 ·rcases te.1 aj with aj | aj
  ·exact h.II r aj
  ·simp only [sQ] at aj;subst aj;simp
 ·rcases te.1 aj with aj | aj
  ·exact h.ne r aj
  ·simp only [sQ] at aj;subst aj;simp
 ·by_cases al:x=(i:Int)
  ·subst al;simp
  ·exact vz _ (h.all x ad (by omega))
 ·refine vt.2 ⟨h.a1,by simp,fun r aj q a5=>?_⟩;simp only [sQ] at a5;subst a5;obtain ⟨j,aw,rfl⟩:=uG aj;have:=((h.par j aw (by omega) _).1 (head_mem (h.ne _ aj))).2.1;show ix out[j] 0<(i:Int);exact this
theorem Jx.fQ {key:Int→Int} {i k:Nat} {seen:List Int} {out:List (List Int)} (h:Jx key i seen out) (av:k<seen.length) (px:seen[k]=key i):Jx key (i+1) seen (out.set k (out[k]'(by have:=h.len;omega)++[(i:Int)])):=by
 have ak:=h.len;have P4:k<out.length:=by omega
 have bO:=h.ne _ (sL P4);have af9:ix (out[k]++[(i:Int)]) 0=ix out[k] 0:=by
  cases e:out[k] with
  | nil=>exact absurd e bO
  | cons a r=>rfl
 refine ⟨by simpa using ak,h.GQ,fun j aw ej x=>?_,fun r aj=>?_,fun r aj=>?_,fun x ad af=>?_,?_⟩
 ·rw [wI];split
  ·rename_i e;subst e;rw [te,h.par k P4 ej x,sQ];constructor
   ·rintro (⟨aB,aH,aR⟩ | rfl)
    ·exact ⟨aB,by omega,aR⟩
    ·exact ⟨by omega,by omega,px.symm⟩
   ·rintro ⟨aB,aH,aR⟩;by_cases al:x=(i:Int)
    ·exact .inr al
    ·exact .inl ⟨aB,by omega,aR⟩
  ·rename_i e;rw [h.par j (by simpa using aw) ej x];constructor
   ·rintro ⟨aB,aH,aR⟩;exact ⟨aB,by omega,aR⟩
   ·rintro ⟨aB,aH,aR⟩;refine ⟨aB,?_,aR⟩
    have:x≠(i:Int):=fun ex=>by
     subst ex;exact tB.1 h.GQ |> fun aC=>by
      rcases Nat.lt_or_gt_of_ne e with aU | aU
      ·exact aC k j av ej aU (by rw [px,aR])
      ·exact aC j k ej av aU (by rw [px,aR])
    omega
 ·rcases List.mem_or_eq_of_mem_set aj with aj | rfl
  ·exact h.II r aj
  ·refine vt.2 ⟨h.II _ (sL P4),by simp,fun x al y a2=>?_⟩;simp only [sQ] at a2;subst a2;exact ((h.par k P4 av x).1 al).2.1
 ·rcases List.mem_or_eq_of_mem_set aj with aj | rfl
  ·exact h.ne r aj
  ·simp
 ·by_cases al:x=(i:Int)
  ·subst al;rw [←px];exact sL _
  ·exact h.all x ad (by omega)
 ·refine tB.2 fun a c cg ao afK=>?_;have a5:∀ (a:Nat) (cg:a<out.length),ix ((out.set k (out[k]++[(i:Int)]))[a]'(by simpa using cg)) 0=ix out[a] 0:=fun a cg=>by
   rw [wI];split
   ·rename_i e;subst e;exact af9
   ·rfl
  rw [a5 a (by simpa using cg),a5 c (by simpa using ao)];exact tB.1 h.a1 a c (by simpa using cg) (by simpa using ao) afK
theorem Jx.parts (p7:qM b) {N:List Int} (Ca:R0 b (-1) N) {seen:List Int} {out:List (List Int)} (h:Jx (fun s=>ix N (ix b.2 s).1) b.2.length seen out):rz b (upto b.2.length) out:=by
 have ak:=h.len;have P5:∀ x∈upto b.2.length,0≤(ix b.2 x).1∧(ix b.2 x).1<b.1:=fun x al=>PI p7 al (.inl rfl);have Jj:∀ (j:Nat) (aw:j<out.length) (x:Int),x∈out[j]→x∈upto b.2.length:=fun j aw x al=>by
  have:=(h.par j aw (by omega) x).1 al;exact Hq.2 ⟨this.1,this.2.1⟩
 refine ⟨h.ne,h.II,fun x=>?_,tB.2 fun i j hi aw g5 x al iX=>?_,fun r aj x al y a2 f g aQ aO=>?_,fun r aj q a5 x al y a2 f aQ aO=>?_⟩
 ·constructor
  ·intro al;have nG:=Hq.1 al;obtain ⟨j,aw,e⟩:=uG (h.all x nG.1 nG.2);exact ⟨_,sL (show j<out.length by omega),(h.par j (by omega) aw x).2 ⟨nG.1,nG.2,e.symm⟩⟩
  ·rintro ⟨r,aj,al⟩;obtain ⟨j,aw,rfl⟩:=uG aj;exact Jj j aw x al
 ·have ad:=(h.par i hi (by omega) x).1 al;have af:=(h.par j aw (by omega) x).1 iX;exact tB.1 h.GQ i j (by omega) (by omega) g5 (by rw [←ad.2.2,←af.2.2])
 ·obtain ⟨j,aw,rfl⟩:=uG aj;have ad:=(h.par j aw (by omega) x).1 al;have af:=(h.par j aw (by omega) y).1 a2;have L6:=Jj j aw x al;have OJ:=Jj j aw y a2;have ao:=(Ca.iff (P5 x L6) (P5 y OJ)).1 (by rw [ad.2.2,af.2.2]);exact ((rV.one L6 aQ (.inl rfl)).trans ao.aeT).trans (rV.one OJ (.inl rfl) aO)
 ·obtain ⟨i,hi,rfl⟩:=uG aj;obtain ⟨j,aw,rfl⟩:=uG a5;have ad:=(h.par i hi (by omega) x).1 al;have af:=(h.par j aw (by omega) y).1 a2;have L6:=Jj i hi x al;have OJ:=Jj j aw y a2;have ao:Hh b (-1) (ix b.2 x).1 (ix b.2 y).1:=(SG L6 (.inl rfl) aQ).trans (SG OJ aO (.inl rfl));have e:=(Ca.iff (P5 x L6) (P5 y OJ)).2 ao;have cm:seen[i]'(by omega)=seen[j]'(by omega):=by rw [←ad.2.2,←af.2.2];exact e
  have g5:i=j:=by
   refine Classical.byContradiction fun bO=>?_;rcases Nat.lt_or_gt_of_ne bO with aU | aU
   ·exact tB.1 h.GQ i j (by omega) (by omega) aU cm
   ·exact tB.1 h.GQ j i (by omega) (by omega) aU cm.symm
  subst g5;rfl
end
end Go.Proofs.YtfakoboiahbhaaaGreat.Ab


namespace Go.Proofs.YtfakoboiahbhaaaGreat.Ab
open Go
section
variable {b:qb}
theorem Jx.Kb {key:Int→Int} {i:Nat} {seen:List Int} {out:List (List Int)} (h:Jx key i seen out):out.length≤i:=by
 have hm:=Lq (l:=out.map fun r=>ix r 0) (n:=i) (by
  refine vd.2 (h.a1.imp fun IH e=>by omega)) fun x al=>by
  obtain ⟨r,aj,rfl⟩:=sJ.1 al;obtain ⟨j,aw,rfl⟩:=uG aj;have:=(h.par j aw (by have:=h.len;omega) _).1 (head_mem (h.ne _ aj));exact ⟨this.1,this.2.1⟩
 simpa using hm
theorem Jx.zero {key:Int→Int}:Jx key 0 [] []:=⟨rfl,by simp,fun j h=>absurd h (by simp),fun r aj=>absurd aj (by simp),fun r aj=>absurd aj (by simp),fun x ad af=>by omega,by simp⟩
def parts (b:qb):List (List Int):=(K2 b (upto b.2.length)).getD []
theorem I7:rL b (upto b.2.length):=fun x al=>Hq.1 al
theorem K3 (p7:qM b):K2 b (upto b.2.length)=some (parts b)∧rz b (upto b.2.length) (parts b)∧(parts b).Pairwise fun x y=>ix x 0<ix y 0:=by
 obtain ⟨out,ad,af,aG⟩:=ab0 (b:=b) (S:=upto b.2.length) p7.len (IJ _) I7
 have:parts b=out:=by unfold parts;rw [ad];rfl
 rw [this];exact ⟨ad,af,aG⟩
end
end Go.Proofs.YtfakoboiahbhaaaGreat.Ab


namespace Go.Proofs.YtfakoboiahbhaaaGreat.Ab
open Go
noncomputable def T_:eE :=
 .j_ true [gV 21 [.sl 3] (.p2 .one),Gs 22 4,gV 23 [.hS 22] (.build [.int .i64 0,.int .i64 0] [(0,1)]),gV 24 [.sl 3] (.p2 .one),Gs 25 4,gV 26 [.hS 25,.iK (.int .i64 1)] (.build [.int .i64 0,.int .i64 0] [(0,1),(1,1)]),⟨none,[.hS 21,.hS 23,.iK (.int .i64 1)],none,none,.zw (.str 2)⟩,⟨none,[.hS 24,.hS 26,.iK (.int .i64 1)],none,none,.zw (.str 2)⟩]
noncomputable def Ub:eE :=
 .block 1 (GD [Gs 20 18,Gt 4 20] T_)
noncomputable def Zi:eE :=
 .j_ false [gV 84 [.sl 1] (.p2 .one),gV 85 [.hS 10] (.p2 (.str 2)),gV 86 [.iK (.func 68 [] []),.sl 84,.sl 85] (.call 3),Gt 83 86,GL 87 83 0,gV 88 [.hS 83] (.ext 1),⟨none,[.sl 7,.hP 87],none,none,.st 1⟩]
noncomputable def Uc:eE :=
 GD [Gt 79 5,gV 80 [.sl 10] (.p2 (.str 2)),gV 81 [.hS 80] (.yg 1 2 [.int .i64 0,.int .i64 0] [0]),gV 82 [.hP 79,.hP 81] (.x_ 2 16),Gt 5 82] Zi
noncomputable def Ud:eE :=
 GD [gV 74 [.sl 6] (.other (Oper.mk (some 74) (Op.load 25 (Operand.tmp 6)) 25 "table.go:177" (Array.mk []) none) 5), gV 75 [.sl 6] (.p2 .one), Gp 76 75, F4 77 76 1 .sub, gV 78 [.hP 74, .hP 77] (.A2 2 false true false), ⟨none, [.sl 6, .hP 78], none, none, .st 1⟩] Uc
noncomputable def Ue:eE :=
 GD [gV 68 [.sl 6] (.p2 .one),gV 69 [.sl 6] (.p2 .one),Gp 70 69,F4 71 70 1 .sub,Gl 72 68 71 2,gV 73 [.hS 72] (.p2 (.str 2)),gV 10 [] (.alloc [.int .i64 0,.int .i64 0]),⟨none,[.sl 10,.hP 73],none,none,.st 2⟩] Ud
noncomputable def Ui:eE :=
 .Au (.sl 40) [41] (GA Go.Proofs.Tryz.prog 104 0) (GB Go.Proofs.Tryz.prog 104 0)
noncomputable def Uf:eE :=
 .block 3 (.seq (GD [Gs 38 8,gV 39 [.sl 7] (.p2 .one),gV 40 [.sl 38,.sl 39] (.call 3)] (.block 4 Ui)) (.seq (GD [gV 65 [.sl 6] (.p2 .one),Gp 66 65,F4 67 66 0 .eql] (.cond (.sl 67) (.exit 2) .skip)) Ue))
noncomputable def Qx:eE :=
 .loop (some (ED false [1,1,1,1,1,4,83])) Uf
noncomputable def Ug:eE :=
 .block 2 Qx
noncomputable def Uh:eE :=
 GD [Gs 89 5, gV 90 [.iK (.func 128 [] []), .hP 89] (.call 1)] (GD [⟨some 91, [.hP 5], none, some 5, .other (Oper.mk (some 91) (Op.move (Operand.tmp 5)) 25 "table.go:182" (Array.mk []) none) 2⟩, Gt 2 91] .ret)
noncomputable def T':eE :=
 GD [gV 28 [.sl 1] (.p2 .one),gV 29 [.hS 28] .zI,F_ 30 29 0,F_ 31 30 1,Gq 32 31,gV 33 [.hS 32,.iK (.int .i64 0)] (.pV 2),F_ 34 33 0,Gq 35 34,gV 7 [] (.alloc [.int .i64 0]),⟨none,[.sl 7,.hP 35],none,none,.st 1⟩] (GD [gV 36 [.sl 1] (.p2 .one),gV 37 [.hS 36] (.zC 89 1 0),Gt 8 37] (.seq .skip (.seq Ug Uh)))
noncomputable def Qy:eE :=
 .loop (some (ED false [1,1,1,1,13,2,73])) (GD [gV 19 [.sl 18,.sl 17] (.bin .lss)] (.seq (.cond (.sl 19) .skip (.exit 0)) (.seq Ub (Gw [F3 27 18 1,Gt 18 27]))))
noncomputable def Ua:eE :=
 .seq (GD [gV 12 [.sl 1] (.p2 .one),gV 13 [.hS 12] .zI,F_ 14 13 0,F_ 15 14 1,Gq 16 15,Gp 17 16,Gr 18 0] (.block 0 Qy)) (GD [gV 5 [.iK (.ay [] 0 .full)] .A',gV 6 [] (.alloc [.ay [] 0 .full])] T')
noncomputable def Zh:eE :=
 GD [gV 1 [.hP 0] .box,gV 2 [.iK (.ay [] 0 .full)] (.nil 2)] (GD [gV 11 [] .zD,gV 3 [] (.alloc [.junk]),⟨none,[.sl 3,.hP 11],none,none,.st 1⟩] Ua)
theorem ag3:zm Go.Proofs.Tryz.prog LL 104=some (Zh,92,[.tmp 2]):=by kernel_rfl
noncomputable def Uw:eE :=
 .block 1 (Gx [Gs 14 0,Gs 15 2,Gs 16 0,Gs 17 3,Gs 18 0,Gs 19 3,Gl 20 18 19 2,gV 21 [.hS 20] (.p2 (.str 2)),Gs 22 0,Gs 23 2,Gl 24 22 23 2,gV 25 [.hS 24] (.p2 (.str 2)),Gl 26 14 15 2,⟨none,[.hP 26,.hP 21],none,none,.st 2⟩,Gl 27 16 17 2,⟨none,[.hP 27,.hP 25],none,none,.st 2⟩])
noncomputable def Ux:eE :=
 .j_ false [Gt 10 2,F3 11 10 1,Gt 12 3,F4 13 12 1 .sub,Gt 2 11,Gt 3 13]
noncomputable def Uy:eE :=
 .loop (some (ED false [0,1,1,2,24])) (.seq (GD [Gs 7 2,Gs 8 3,F5 9 7 8 .lss] (.cond (.sl 9) .skip (.exit 0))) (.seq Uw Ux))
noncomputable def Zl:eE :=
 GD [Gs 4 0,Gp 5 4,F4 6 5 1 .sub,Gr 2 0,Gt 3 6] (.block 0 Uy)
theorem ag6:zm Go.Proofs.Tryz.prog Wv 128=some (Zl,28,[]):=by kernel_rfl
noncomputable def OV:eE :=
 GD [Gq 60 1,gV 61 [.hS 9] (.p2 (.str 2)),gV 62 [.iK (.func 68 [] []),.sl 60,.sl 61] (.call 3),Gt 59 62,GL 63 59 0,gV 64 [.hS 59] (.ext 1),⟨none,[.hP 7,.hP 64],none,none,.st 1⟩] (.exit 3)
noncomputable def T9:eE :=
 GD [gV 55 [.sl 6] (.other (Oper.mk (some 55) (Op.load 25 (Operand.tmp 6)) 25 "table.go:168" (Array.mk []) none) 5), gV 56 [.sl 9] (.p2 (.str 2)), gV 57 [.hS 56] (.yg 1 2 [.int .i64 0, .int .i64 0] [0]), gV 58 [.hP 55, .hP 57] (.x_ 2 16), ⟨none, [.hP 6, .hP 58], none, none, .st 1⟩] OV
noncomputable def Qw:eE :=
 GD [Gq 48 3,gV 49 [.sl 9] (.oY 0),Gq 50 49,gV 51 [.sl 9] (.oY 1),Gq 52 51,gV 53 [.iK (.int .i64 1),.hS 52] (.bin .sub),gV 54 [.hS 50,.hS 53] (.build [.int .i64 0,.int .i64 0] [(0,1),(1,1)]),⟨none,[.hP 48,.hP 54],none,none,.zu (.str 2)⟩] T9
noncomputable def T8:eE :=
 .block 5 (.seq (GD [gV 42 [.sl 3] (.p2 .one),gV 43 [.sl 9] (.p2 (.str 2)),gV 44 [.hS 42,.hS 43] (.zv (.str 2) false (some (.int .i64 0))),F4 45 44 0 .eql] (.cond (.sl 45) (.exit 5) .skip)) (GD [gV 46 [.sl 3] (.p2 .one),gV 47 [.sl 9] (.p2 (.str 2)),⟨none,[.hP 46,.hP 47],none,none,.zu (.str 2)⟩] Qw))
noncomputable def T7:eE :=
 .j_ false [gV 9 [] (.alloc [.int .i64 0,.int .i64 0]),⟨none,[.sl 9,.hP 41],none,none,.st 2⟩]
theorem Yv:dX Tryz.prog LL (GA Tryz.prog 104 0) 0=some T7:=by kernel_rfl
theorem Yw:dX Tryz.prog LL (GB Tryz.prog 104 0) 0=some T8:=by kernel_rfl
end Go.Proofs.YtfakoboiahbhaaaGreat.Ab


namespace Go.Proofs.YtfakoboiahbhaaaGreat.Ab
open Go
def V' (P:Program) (k:FuncId) (cap:List I) (E:List I):Prop :=
 ∀ (l N:Nat) (r3:Nat→List au) (R:List au→Prop) (n:Nat),(∀ i,(r3 i).length=N)→l<N→(aN:n<E.length) →
   (∀ (i:Nat) (h:i<n) (Y:List au),∃ rK,Sem P (.yield l) [E[i]'(Nat.lt_trans h aN)] (r3 i++Y) 0 (.bool true) (r3 (i+1)++rK)) →
   (∀ Y:List au,∃ H',R H'∧Sem P (.yield l) [E[n]] (r3 n++Y) 0 (.bool false) H') →
   ∀ Y,∃ H',R H'∧Sem P (.fn k) (.yield l::cap) (r3 0++Y) 0 (.tuple []) H'
theorem ajY {t:qb} {figure:Int} {v:List (Int×Int)} (h:Lu t figure=some v):V' Tryz.prog 113 [.bW [.bW [hY t.1,.ay (t.2.flatMap p4) t.2.length .shared]],.bW [hY figure]] (v.map fun e1=>.agg [hY e1.1,hY e1.2]):=by
 unfold Lu at h;split at h
 ·rename_i al;obtain rfl:=Option.some.inj h;intro L N r3 R n hlen fr aN aj Lm Y;have ao:∀ j,((List.range j).filter (r_ t figure)).length=((List.range j).filter (r_ t figure)).length:=fun _=>rfl;have agn:n<((List.range (2*t.2.length)).filter (r_ t figure)).length:=by simpa [G3] using aN
  obtain ⟨M,B',Tj,P0⟩:∃ M,M<2*t.2.length∧r_ t figure M=true∧((List.range M).filter (r_ t figure)).length=n:=by
   have hm:=sL agn;obtain ⟨ad,af⟩:=s_.1 hm;(have ad:((List.range (2*t.2.length)).filter (r_ t figure))[n]<2*t.2.length:=by simpa using ad);refine ⟨_,ad,af,?_⟩;have aO:=SH _ af ad;have jQ:((List.range (2*t.2.length)).filter (r_ t figure)).Nodup:=uC.filter _;obtain ⟨aG,a8⟩:=ss.1 aO;exact (List.getElem_inj jQ).1 a8
  have CN:∀ a b,a≤b→((List.range a).filter (r_ t figure)).length≤((List.range b).filter (r_ t figure)).length:=fun a b jI=>by
   obtain ⟨d,rfl⟩:=Nat.exists_eq_add_of_le jI
   induction d with
   | zero=>exact sx _
   | succ d bb=>rw [←Nat.add_assoc,PJ];exact sW (bb (by omega)) (Nat.le_add_right _ _)
  obtain ⟨Z,Lj,Li,hle⟩:=W_ (t:=t) (figure:=figure) (L:=L) hlen ao (M:=M) Y fun r P' ag Y=>by
   have aO:=TT (show r<2*t.2.length by omega) ag;obtain ⟨ad,af⟩:=ss.1 aO;have aU:((List.range r).filter (r_ t figure)).length<n:=by
    have:=CN (r+1) M (by omega);rw [PJ,if_pos ag,P0] at this;omega
   obtain ⟨rK,h⟩:=aj _ aU Y;refine ⟨rK,?_⟩;rw [←af];exact h
  obtain ⟨H',jG,ak⟩:=Lm (Z M++[au.cells (p4 (rF M))]);have aO:=TT B' Tj;rw [P0] at aO;obtain ⟨ad,af⟩:=ss.1 aO;refine ⟨H',jG,?_⟩;rw [←Lj];refine W' al hlen ao (M:=M) (by omega) Li (.inr ⟨B',Tj,?_⟩) (Qd ?_)
  ·rw [P0,←af];exact ak
  ·have e1:=hle M (sx _);have cm:=ak.1.1;rw [P0] at e1;rw [Lj];refine sW e1 (sW ?_ cm);rw [←sD];simp
 ·cases h
theorem ajL {α:Type} {P:Program} {A:c'} {fn:FuncId} {rl:Option Nat} {k:FuncId} {cap:List I} {t:Nat} {bl:List Nat} {gB b0:Code} {T:List I} {H:List au} {Q:cE→List I→List au→Prop} {f:α→I} {L:List α} {id n:Nat} (OI:V' P k cap (L.map f)) (aN:n<L.length)
  (ax:c8 T t=.func k [] cap)
  (OH:∀ (i:Nat) (h:i<n) (Y:List au),∃ rK,Sem P (.yield H.length) [f (L[i]'(Nat.lt_trans h aN))] ((H++[.loop .ready none fn (T.map I.view) bl gB b0 A])++Y) 0 (.bool true) ((H++[.loop .ready none fn (T.map I.view) bl gB b0 A])++rK))
  (Lm:∀ (Y:List au),∃ H',(H'[H.length]?=some (.loop .done (some (.exit id)) fn (T.map I.view) bl gB b0 A)∧Q (.exit id) (T.map I.settle) (H'.set H.length .dead))∧Sem P (.yield H.length) [f L[n]] ((H++[.loop .ready none fn (T.map I.view) bl gB b0 A])++Y) 0 (.bool false) H')
  (g6:inLoop H rl=true):dG P A fn 0 rl (.Au (.sl t) bl gB b0) T H Q:=by
 show hz T t _;rw [iM,ax]
 obtain ⟨H',⟨dv,C0⟩,cp⟩:=OI H.length (H.length+1) (fun _=>H++[.loop .ready none fn (T.map I.view) bl gB b0 A]) (fun H'=>H'[H.length]?=some (.loop .done (some (.exit id)) fn (T.map I.view) bl gB b0 A)∧Q (.exit id) (T.map I.settle) (H'.set H.length .dead)) n (fun i=>by simp) (by omega) (by simpa using aN) (fun i h Y=>by
  obtain ⟨rK,aj⟩:=OH i h Y;exact ⟨rK,by rw [vi];exact aj⟩) (fun Y=>by
  obtain ⟨H',aj,ai⟩:=Lm Y
  exact ⟨H',aj,by rw [vi];exact ai⟩) []
 simp only [sU] at cp;exact ⟨g6,.tuple [],H',.done,some (.exit id),fn,T.map I.view,bl,gB,b0,A,cp,dv,by decide,C0⟩
def r7 (L:List Nat):List (Nat×I×I):=L.map fun r=>(r,.agg (p4 (rF r)),hY 1)
theorem SE (a b:Nat):gF (.agg (p4 (rF a))) (.agg (p4 (rF b)))=some (decide (a=b)):=by
 simp only [gF,p4,rF,dP,if_true,Option.map_some,Bool.and_true,Option.some.injEq];rw [Bool.eq_iff_iff];simp only [beq_iff_eq,decide_eq_true_eq,Bool.and_eq_true];omega
theorem PL (b:Nat):∀ (L:List Nat) (n:Nat),b ∉ L→fG (.agg (p4 (rF b))) (r7 L) n=some none
 | [],n,_=>rfl
 | a::L,n,h=>by
   simp only [sH,not_or] at h;simp only [r7,sy,fG,SE];rw [decide_eq_false h.1];exact PL b L (n+1) h.2
theorem XD (b:Nat):∀ (L:List Nat) (n:Nat),b∈L→L.Nodup→∃ i,fG (.agg (p4 (rF b))) (r7 L) n=some (some (n+i))∧(∃ e:Nat×I×I,(r7 L)[i]?=some e∧e.2.2=hY 1)∧(r7 L).eraseIdx i=r7 (L.filter fun x=>decide (x≠b))
 | [],n,h,_=>absurd h (by simp)
 | a::L,n,h,aN=>by
   obtain ⟨ago,pD⟩:=uA.1 aN;by_cases e:b=a
   ·subst e;refine ⟨0,?_,⟨_,rfl,rfl⟩,?_⟩
    ·simp only [r7,sy,fG,SE,decide_true];rfl
    ·rw [List.filter_cons_of_neg (by simp)];rw [List.filter_eq_self.2 (fun x al=>by simp;intro e;subst e;exact ago al)];rfl
   ·(have ag:b∈L:=by simpa [e] using h);obtain ⟨i,ad,⟨cm,aG,a8⟩,af⟩:=XD b L (n+1) ag pD;refine ⟨i+1,?_,⟨cm,by simpa [r7] using aG,a8⟩,?_⟩
    ·simp only [r7,sy,fG,SE];rw [decide_eq_false e];simp only [r7] at ad;rw [ad];rw [show n+1+i=n+(i+1) by omega]
    ·rw [List.filter_cons_of_pos (by simp;intro cP;exact e cP.symm)];simp only [r7,sy,List.eraseIdx_cons_succ] at af ⊢;rw [af]
theorem Xw (L:List Nat) (k:Nat):r7 L++[(k,.agg (p4 (rF k)),hY 1)]=r7 (L++[k]):=by
 simp [r7]
end Go.Proofs.YtfakoboiahbhaaaGreat.Ab


namespace Go.Proofs.YtfakoboiahbhaaaGreat.Ab
open Go
set_option maxRecDepth 20000
set_option maxHeartbeats 4000000
def Vo (l:List (Int×Int)) (i:Nat):List (Int×Int):=l.take i++(l.drop i).reverse
def IZ (g:List (Int×Int)) (off t:Nat):List (Int×Int):=(List.range g.length).map fun x=>if off≤x∧(x-off<t∨g.length-t≤x) then g.getD (off+g.length-1-x) (0,0) else g.getD x (0,0)
theorem Me (g:List (Int×Int)) (off t:Nat):(IZ g off t).length=g.length:=by simp [IZ]
theorem Nv (g:List (Int×Int)) (off t x:Nat) (h:x<g.length):(IZ g off t)[x]?=some (if off≤x∧(x-off<t∨g.length-t≤x) then g.getD (off+g.length-1-x) (0,0) else g.getD x (0,0)):=by
 simp [IZ,h]
theorem ajI (g:List (Int×Int)) (off:Nat):IZ g off 0=g:=by
 apply ud;intro x;by_cases h:x<g.length
 ·rw [Nv g off 0 x h,if_neg (by omega)];simp [h,sV]
 ·rw [tQ (by rw [Me];omega),tQ (by omega)]
theorem ajH (g:List (Int×Int)) (off t:Nat) (ax:off+t<g.length-1-t):((IZ g off t).set (off+t) (g.getD (g.length-1-t) (0,0))).set (g.length-1-t) (g.getD (off+t) (0,0))=IZ g off (t+1):=by
 apply ud;intro x;by_cases h:x<g.length
 ·rw [Nv g off (t+1) x h];by_cases ad:x=g.length-1-t
  ·subst ad;rw [sE (by rw [tC,Me];omega),if_pos (by omega)];congr 2;omega
  ·rw [sG (by omega)];by_cases af:x=off+t
   ·subst af;rw [sE (by rw [Me];omega),if_pos (by omega)];congr 2;omega
   ·rw [sG (by omega),Nv g off t x h];by_cases aG:off≤x∧(x-off<t∨g.length-t≤x)
    ·rw [if_pos aG,if_pos (by omega)]
    ·rw [if_neg aG,if_neg (by omega)]
 ·rw [tQ (by simp [Me];omega),tQ (by rw [Me];omega)]
theorem ajG (g:List (Int×Int)) (off t:Nat) (aq:off≤g.length) (ax:g.length-1-t≤off+t):IZ g off t=Vo g off:=by
 apply ud;intro x;unfold Vo;by_cases h:x<g.length
 ·rw [Nv g off t x h];by_cases ad:x<off
  ·rw [if_neg (by omega),List.getElem?_append_left (by simp;omega),th,if_pos ad];simp [h,sV]
  ·rw [List.getElem?_append_right (by simp;omega),ta,tK aq,List.getElem?_reverse (by simp;omega),List.getElem?_drop,List.length_drop];(have e:off+(g.length-off-1-(x-off))=off+g.length-1-x:=by omega);rw [e];(have ak:off+g.length-1-x<g.length:=by omega);by_cases aG:off≤x∧(x-off<t∨g.length-t≤x)
   ·rw [if_pos aG];simp [ak,sV]
   ·rw [if_neg aG]
    have:x=off+g.length-1-x:=by omega
    rw [←this];simp [h,sV]
 ·rw [tQ (by rw [Me];omega),tQ (by simp;omega)]
theorem Qq:∀ (l:List (Int×Int)) (i:Nat),i<l.length→(l.flatMap p4)[i*2]?=some (hY (l.getD i (0,0)).1)∧(l.flatMap p4)[i*2+1]?=some (hY (l.getD i (0,0)).2)
 | [],i,h=>absurd h (by simp)
 | p::l,0,_=>⟨rfl,rfl⟩
 | p::l,i+1,h=>by
   have:=Qq l i (by simpa using h);rw [uo,show (i+1)*2=(i*2)+2 by omega];simpa [p4] using this
theorem TY:∀ (l:List (Int×Int)) (i:Nat) (x:Int×Int),i<l.length→((l.flatMap p4).set (i*2) (hY x.1)).set (i*2+1) (hY x.2)=(l.set i x).flatMap p4
 | [],i,_,h=>absurd h (by simp)
 | p::l,0,x,_=>rfl
 | p::l,i+1,x,h=>by
   have:=TY l i x (by simpa using h);rw [uo,show (i+1)*2=(i*2)+2 by omega,show i*2+2+1=(i*2+1)+2 by omega];simp only [p4,vg,ur,List.set_cons_succ,uo];rw [this]
theorem Ko (l:List (Int×Int)):(l.flatMap p4).length=l.length*2:=ry p4 2 qy l
theorem ajF (g:List (Int×Int)) (aS:0<g.length) (aO:g.length≤1000000) {H:List au} {id lo SR:Nat} (bG:lo≤id) (ah:H[id]?=some (.grow (g.flatMap p4) SR 2)) :
  Sem Go.Proofs.Tryz.prog (.fn 128) [.ref id 0 g.length none 2] H lo (.tuple []) (H.set id (.grow (g.reverse.flatMap p4) SR 2)):=by
 have aE:=(ss.1 ah).1;refine Hj dM ag6 rfl ⟨by simp,fun j ad af=>by rw [sG (by omega)]⟩ fun Q bo=>?_;unfold Zl;obtain ⟨Sn,Jz⟩:∃ c,Uy=c:=⟨_,rfl⟩;rw [Jz];conv=>whnf
 rw [show IntKind.i64.wrap ((g.length:Int)-1)=((g.length-1:Nat):Int) by rw [I8 _ (by omega) (by omega)];omega];have ag:Nat.ble lo id=true:=Nat.ble_eq_true_of_le bG;have gs:∀ c:au,(H.set id c)[id]?=some c:=fun c=>by rw [sE aE]
 subst Jz;unfold Uy;obtain ⟨bc,cd⟩:∃ c,Uw=c:=⟨_,rfl⟩;obtain ⟨bn,b_⟩:∃ c,Ux=c:=⟨_,rfl⟩;rw [cd,b_];refine wp_loop rfl ?_;refine .intro (fun m T H'=>∃ t,2*t≤g.length∧m=g.length-t∧T=GI 28 [(0,.ref id 0 g.length none 2),(2,hY t),(3,hY (g.length-1-t:Nat))]∧H'=H.set id (.grow ((IZ g 0 t).flatMap p4) SR 2)) g.length ⟨0,by omega,rfl,rfl,?_⟩ ?_
 ·rw [ajI];obtain ⟨ad,af⟩:=ss.1 ah;rw [←af,List.set_getElem_self]
 rintro m T H' ⟨t,ax,rfl,rfl,rfl⟩;conv=>whnf
 refine H6 (fun h=>?_) (fun h=>?_)
 ·have cm:0+((g.length-1-t:Nat):Int).toNat*2=(g.length-1-t)*2:=by omega
  have dJ:0+(t:Int).toNat*2=t*2:=by omega
  have ak:=Me g 0 t;have SP:=Qq (IZ g 0 t) (g.length-1-t) (by omega);have SQ:=Qq (IZ g 0 t) t (by omega);have v1:(IZ g 0 t).getD (g.length-1-t) (0,0)=g.getD (g.length-1-t) (0,0):=by
   rw [sV,Nv g 0 t _ (by omega),if_neg (by omega)];rfl
  have v2:(IZ g 0 t).getD t (0,0)=g.getD t (0,0):=by
   rw [sV,Nv g 0 t _ (by omega),if_neg (by omega)];rfl
  rw [v1] at SP;rw [v2] at SQ;conv=>whnf
  subst cd;unfold Uw;refine IK fun m2 Hc=>?_;conv=>whnf
  refine ⟨by omega,?_⟩;conv=>whnf
  refine D1 (gs _) ?_;conv=>whnf
  refine D1 (by rw [cm];exact SP.1) ?_;conv=>whnf
  refine D1 (by rw [cm];exact SP.2) ?_;conv=>whnf
  refine ⟨by omega,?_⟩;conv=>whnf
  refine D1 (gs _) ?_;conv=>whnf
  refine D1 (by rw [dJ];exact SQ.1) ?_;conv=>whnf
  refine D1 (by rw [dJ];exact SQ.2) ?_;conv=>whnf
  refine ⟨by omega,?_⟩;conv=>whnf
  rw [ag];conv=>whnf
  refine D1 (gs _) ?_;conv=>whnf
  refine FO (by rw [Ko];omega) ?_;conv=>whnf
  refine FO (by rw [tC,Ko];omega) ?_;conv=>whnf
  refine ⟨by omega,?_⟩;conv=>whnf
  rw [ag];conv=>whnf
  rw [td];refine D1 (gs _) ?_;conv=>whnf
  refine FO (by rw [tC,tC,Ko];omega) ?_;conv=>whnf
  refine FO (by rw [tC,tC,tC,Ko];omega) ?_;conv=>whnf
  rw [td,cm,dJ];refine Hc _ _ _ ?_;conv=>whnf
  subst b_;unfold Ux;conv=>whnf
  refine ⟨g.length-(t+1),by omega,t+1,by omega,rfl,?_,?_⟩
  ·rw [←rJ t (by omega),show ((g.length-1-(t+1):Nat):Int)=IntKind.i64.wrap (((g.length-1-t:Nat):Int)-1) by rw [I8 _ (by omega) (by omega)];omega];rfl
  ·have ai:=ajH g 0 t (by omega);rw [tc] at ai;rw [←ai,←TY _ _ _ (by rw [tC];omega),←TY _ _ _ (by omega)];rfl
 ·conv=>whnf
  have e:IZ g 0 t=g.reverse:=by
   rw [ajG g 0 t (by omega) (by omega),Vo];simp
  rw [e];exact bo _ _ _ ⟨.inl rfl,⟨by simp,fun j o aw=>.inr aw⟩,rfl⟩

def G1 (p:Int×Int):Nat:=(2*p.1+p.2).toNat
theorem Y_ {p:Int×Int} (ad:0≤p.1) (af:0≤p.2∧p.2≤1):rF (G1 p)=p:=by
 unfold rF G1;exact Prod.ext (by simp only;omega) (by simp only;omega)
def Nb (L:List Nat) (p:Int×Int):Bool:=decide (G1 p∈L)
def Ir (L:List Nat) (p:Int×Int):List Nat:=L.filter fun x=>decide (x≠G1 p)
def J' (L:List Nat) (p:Int×Int):List Nat:=Ir (Ir L p) (p.1,1-p.2)
structure sg (t:qb) (L:List Nat) (qB out:List (Int×Int)) (a:Int) (rQ v5:I) (x y:Nat) (H:List au):Prop where
 GQ:L.Nodup
 aS:H[0]?=some (I6 t)
 ad:∃ HU,H[1]?=some (.map (r7 L) HU)
 af:H[2]?=some (.cells [.map 1])
 aG:H[3]?=some (.cells [rQ])
 a8:H[4]?=some (.cells [hY a])
 hw:(qB=[]∧rQ=.ay [] 0 .full)∨(rQ=.cn x (x+1) qB.length 2∧4<x∧∃ cs,H[x]?=some (.grow cs (x+1) 2)∧qB.length*2≤cs.length∧cs.take (qB.length*2)=qB.flatMap p4)
 aq:(out=[]∧v5=.ay [] 0 .full)∨(v5=.cn y (y+1) out.length 2∧4<y∧H[y]?=some (.grow (out.flatMap p4) (y+1) 2))
 ne:x≠y
 KU:x<H.length
 KV:y<H.length
 Ka:x=0∨4<x
 JI:y=2∨4<y
theorem sg.len {t:qb} {L:List Nat} {qB out:List (Int×Int)} {a:Int} {rQ v5:I} {x y:Nat} {H:List au} (h:sg t L qB out a rQ v5 x y H):4<H.length:=(ss.1 h.a8).1
theorem sg.more {t:qb} {L:List Nat} {qB out:List (Int×Int)} {a:Int} {rQ v5:I} {x y:Nat} {H:List au} (h:sg t L qB out a rQ v5 x y H) (Z:List au):sg t L qB out a rQ v5 x y (H++Z):=by
 obtain ⟨GQ,aS,⟨HU,ad⟩,af,aG,a8,hw,aq,ne,KU,KV,Ka,JI⟩:=h;refine ⟨GQ,q2 aS,⟨HU,q2 ad⟩,q2 af,q2 aG,q2 a8,?_,?_,ne,by simp;omega,by simp;omega,Ka,JI⟩
 ·rcases hw with hw | ⟨bF,bV,cs,GZ,JW⟩
  ·exact .inl hw
  ·exact .inr ⟨bF,bV,cs,q2 GZ,JW⟩
 ·rcases aq with aq | ⟨bF,bV,GZ⟩
  ·exact .inl aq
  ·exact .inr ⟨bF,bV,q2 GZ⟩
theorem sg.aj6 {t:qb} {L:List Nat} {qB out:List (Int×Int)} {a:Int} {rQ v5:I} {x y j:Nat} {H:List au} {c:au} (h:sg t L qB out a rQ v5 x y H) (ans:4<j) (al:j≠x) (a2:j≠y):sg t L qB out a rQ v5 x y (H.set j c):=by
 obtain ⟨GQ,aS,⟨HU,ad⟩,af,aG,a8,hw,aq,ne,KU,KV,Ka,JI⟩:=h;refine ⟨GQ,q5 aS (by omega),⟨HU,q5 ad (by omega)⟩,q5 af (by omega),q5 aG (by omega),q5 a8 (by omega),?_,?_,ne,by simpa using KU,by simpa using KV,Ka,JI⟩
 ·rcases hw with hw | ⟨bF,bV,cs,GZ,JW⟩
  ·exact .inl hw
  ·exact .inr ⟨bF,bV,cs,q5 GZ al,JW⟩
 ·rcases aq with aq | ⟨bF,bV,GZ⟩
  ·exact .inl aq
  ·exact .inr ⟨bF,bV,q5 GZ a2⟩
theorem Lf {H:List au} {j:Nat} {c:au} (h:j<H.length):(H.set j c)[j]?=some c:=sE h
theorem sg.map {t:qb} {L iC:List Nat} {qB out:List (Int×Int)} {a:Int} {rQ v5:I} {x y HU:Nat} {H:List au} (h:sg t L qB out a rQ v5 x y H) (aN:iC.Nodup):sg t iC qB out a rQ v5 x y (H.set 1 (.map (r7 iC) HU)):=by
 have ak:=h.len;obtain ⟨GQ,aS,_,af,aG,a8,hw,aq,ne,KU,KV,Ka,JI⟩:=h;refine ⟨aN,q5 aS (by omega),⟨HU,Lf (by omega)⟩,q5 af (by omega),q5 aG (by omega),q5 a8 (by omega),?_,?_,ne,by simpa using KU,by simpa using KV,Ka,JI⟩
 ·rcases hw with hw | ⟨bF,bV,cs,GZ,JW⟩
  ·exact .inl hw
  ·exact .inr ⟨bF,bV,cs,q5 GZ (by omega),JW⟩
 ·rcases aq with aq | ⟨bF,bV,GZ⟩
  ·exact .inl aq
  ·exact .inr ⟨bF,bV,q5 GZ (by omega)⟩
theorem Yq {P:Program} {C:b8} {lo id:Nat} {o:Oper} {t e:TypeId} {x:Operand} {H:List au} {v:I} (aq:o.op=.load t x) (ax:P.underlying t=some (.slice e)) (ah:H[id]?=some (.cells [v])) (ae:v=.ay [] 0 .full∨∃ i g n z,v=.cn i g n z) :
  a_ P C lo o 5 [.ptr id 0] H=some (v,H):=by
 unfold a_;rw [aq];show dT P lo 5 t H [.ptr id 0]=_;unfold dT;simp only [ax,ah];rcases ae with rfl | ⟨i,g,n,z,rfl⟩ <;> rfl

abbrev ajE (t:qb) (a:Int) (v5:I):List I:=(GI 92 [(1,.ptr 0 0),(3,.ptr 2 0),(5,v5),(6,.ptr 3 0),(7,.ptr 4 0),(8,.func 89 [Hg t] []),(38,.func 89 [Hg t] []),(39,hY a),(40,.func 113 [] [.bW [Hg t],.bW [hY a]])]).map I.view
noncomputable abbrev IY (t:qb) (a:Int) (v5:I) (st:LoopState) (aiH:Option Code):au:=.loop st aiH 104 (ajE t a v5) [41] (GA Tryz.prog 104 0) (GB Tryz.prog 104 0) LL
section
variable {t:qb} {L:List Nat} {qB out:List (Int×Int)} {a:Int} {rQ v5:I} {x y:Nat} {H:List au} {p:Int×Int}
theorem afm (jT:0≤p.1) (nz:0≤p.2∧p.2≤1) (g6:G1 p ∉ L):fG (.agg [hY p.1,hY p.2]) (r7 L) 0=some none:=by
 have:=PL (G1 p) L 0 g6;rw [Y_ jT nz] at this;exact this
theorem XF (jT:0≤p.1) (nz:0≤p.2∧p.2≤1) (g6:G1 p∈L) (aN:L.Nodup):∃ i,fG (.agg [hY p.1,hY p.2]) (r7 L) 0=some (some i)∧(∃ e:Nat×I×I,(r7 L)[i]?=some e∧e.2.2=hY 1)∧(r7 L).eraseIdx i=r7 (Ir L p):=by
 obtain ⟨i,ad,af,aG⟩:=XD (G1 p) L 0 g6 aN;rw [Y_ jT nz,tc] at ad;exact ⟨i,ad,af,aG⟩
theorem Zy (cp:sg t L qB out a rQ v5 x y H) (jT:0≤p.1) (nz:0≤p.2∧p.2≤1) (g6:G1 p ∉ L) (Y:List au) :
  ∃ rK,Sem Tryz.prog (.yield H.length) [.agg (p4 p)] ((H++[IY t a v5 .ready none])++Y) 0 (.bool true) ((H++[IY t a v5 .ready none])++rK):=by
 refine ⟨Y++[.dead],GH dM Yv Yw (PM _ _ _) rfl (Qd (by simp)) ?_⟩;obtain ⟨HU,ad⟩:=cp.ad;unfold T7;conv=>whnf
 refine D1 (x:=au.cells [(hY (0:Int)),(hY (0:Int))]) (by first | exact qz.h | rfl | (simp [su,I.settle];done)) ?_
 conv=>whnf
 rw [rE];refine ⟨rfl,PN _ _ _ _,?_⟩;rw [Vi];unfold T8;obtain ⟨bu,eb⟩:∃ c,Qw=c:=⟨_,rfl⟩;rw [eb];conv=>whnf
 refine D1 (q2 (q2 (q2 cp.af))) ?_;conv=>whnf
 refine D1 (x:=au.cells [hY p.1,hY p.2]) (by first | exact qz.h | rfl | (simp [su,I.settle];done)) ?_
 conv=>whnf
 refine ⟨rfl,_,_,q2 (q2 (q2 ad)),none,afm jT nz g6,?_⟩;conv=>whnf
 refine ⟨_,rfl,?_⟩;conv=>whnf
 show _∧(((H++[IY t a v5 .busy none])++Y)++[_])[H.length]?=_∧jr ((((H++[IY t a v5 .busy none])++Y)++[_]).set H.length _) _;exact ⟨rfl,PN _ _ _ _,by rw [Vi];exact afj _ _ _ _⟩
theorem PH (aN:L.Nodup):(Ir L p).Nodup:=aN.filter _
theorem sg.push {G:List au} {cells:List I} (cp:sg t L qB out a rQ v5 x y G) (ao:cells=(qB++[p]).flatMap p4) {b:Int} {D:List au} (rk:D=G∨(D=G.set x .dead∧4<x)) :
  sg t L (qB++[p]) out b (.cn G.length (G.length+1) (qB.length+1) 2) v5 G.length y (((D++[au.grow cells (G.length+1) 2,au.dead]).set 3 (au.cells [.cn G.length (G.length+1) (qB.length+1) 2])).set 4 (au.cells [hY b])):=by
 subst ao;have ak:=cp.len;have PT:D.length=G.length:=by rcases rk with rfl | ⟨rfl,_⟩ <;> simp
 obtain ⟨GQ,aS,⟨HU,ad⟩,af,aG,a8,hw,aq,ne,KU,KV,Ka,JI⟩:=cp;have Ov:∀ (j:Nat) (o:au),j≠x∨D=G→G[j]?=some o→D[j]?=some o:=fun j o aw h=>by
  rcases rk with rfl | ⟨rfl,_⟩
  ·exact h
  ·rcases aw with aw | aw
   ·exact q5 h (Ne.symm aw)
   ·rw [aw];exact h
 have LY:∀ j:Nat,j≤4→j≠x∨D=G:=fun j aw=>by
  rcases rk with h | ⟨_,h⟩
  ·exact .inr h
  ·exact .inl (by omega)
 refine ⟨GQ,?_,⟨HU,?_⟩,?_,?_,?_,?_,?_,?_,?_,?_,.inr (by omega),JI⟩
 ·exact q5 (q5 (q2 (Ov 0 _ (LY 0 (by omega)) aS)) (by omega)) (by omega)
 ·exact q5 (q5 (q2 (Ov 1 _ (LY 1 (by omega)) ad)) (by omega)) (by omega)
 ·exact q5 (q5 (q2 (Ov 2 _ (LY 2 (by omega)) af)) (by omega)) (by omega)
 ·exact q5 (Lf (by simp;omega)) (by omega)
 ·exact Lf (by simp;omega)
 ·refine .inr ⟨by simp,by omega,(qB++[p]).flatMap p4,?_,by rw [Ko];exact sx _,ui (by rw [Ko];exact sx _)⟩;rw [←PT];exact q5 (q5 (M0 _ _) (by omega)) (by omega)
 ·rcases aq with aq | ⟨bF,bV,GZ⟩
  ·exact .inl aq
  ·exact .inr ⟨bF,bV,q5 (q5 (q2 (Ov y _ (.inl (Ne.symm ne)) GZ)) (by omega)) (by omega)⟩
 ·omega
 ·simp;omega
 ·simp;omega
theorem ajR (cp:sg t L qB out a rQ v5 x y H) (jT:0≤p.1∧p.1<(t.2.length:Int)) (nz:0≤p.2∧p.2≤1) (g6:G1 p∈L) (Ts:G1 (p.1,1-p.2)∈Ir L p) (TB:qB.length≤1000) (Y:List au) :
  ∃ H',Sem Tryz.prog (.yield H.length) [.agg (p4 p)] ((H++[IY t a v5 .ready none])++Y) 0 (.bool false) H' ∧
    H'[H.length]?=some (IY t a v5 .done (some (.exit 3)))∧∃ Vx ow,sg t (J' L p) (qB++[p]) out (fin t p) Vx v5 ow y (H'.set H.length .dead):=by
 have agh:=cp.len;have anA:=cp.Ka;have af5:=cp.JI;have agl:=cp.KU;have agm:=cp.KV;obtain ⟨HU,hm⟩:=cp.ad;obtain ⟨i1,f1,⟨e1,cm,dJ⟩,f3⟩:=XF jT.1 nz g6 cp.GQ;obtain ⟨i2,f4,_,f5⟩:=XF (p:=(p.1,1-p.2)) jT.1 (by simp only;omega) Ts (PH cp.GQ);have y8:IntKind.i64.wrap (1-p.2)=1-p.2:=I8 _ (by omega) (by omega);obtain ⟨KE,KJ⟩:∃ KE,KE=(H++[IY t a v5 .busy none])++Y++[au.cells [hY p.1,hY p.2]]:=⟨_,rfl⟩;have Kf:sg t L qB out a rQ v5 x y KE:=by rw [KJ];exact ((cp.more _).more _).more _
 have anH:KE.length=H.length+1+Y.length+1:=by rw [KJ];simp;omega
 have cY:KE[((H++[IY t a v5 .ready none])++Y).length]?=some (.cells [hY p.1,hY p.2]):=by rw [KJ];simp [su]
 have ag:KE[H.length]?=some (IY t a v5 .busy none):=by rw [KJ];exact PN _ _ _ _
 obtain ⟨BL,Tk⟩:∃ BL,BL=((H++[IY t a v5 .ready none])++Y).length:=⟨_,rfl⟩;have anw:BL=H.length+1+Y.length:=by rw [Tk];simp;omega
 have Gg:KE[1]?=some (.map (r7 L) HU):=by rw [KJ];exact q2 (q2 (q2 hm))
 rw [←Tk] at cY;obtain ⟨Iy,JM⟩:∃ Iy,Iy=KE.set 1 (.map (r7 (Ir L p)) HU):=⟨_,rfl⟩;have o8:sg t (Ir L p) qB out a rQ v5 x y Iy:=by rw [JM];exact Kf.map (PH cp.GQ)
 have Tv:Iy[1]?=some (.map (r7 (Ir L p)) HU):=by rw [JM];exact Lf (by omega)
 have S3:Iy[BL]?=some (.cells [hY p.1,hY p.2]):=by rw [JM];exact q5 cY (by omega)
 have e0:Iy[H.length]?=some (IY t a v5 .busy none):=by rw [JM];exact q5 ag (by omega)
 obtain ⟨rM,IV⟩:∃ rM,rM=Iy.set 1 (.map (r7 (J' L p)) HU):=⟨_,rfl⟩;have Kg:sg t (J' L p) qB out a rQ v5 x y rM:=by rw [IV];exact o8.map (PH (PH cp.GQ))
 have PQ:rM[BL]?=some (.cells [hY p.1,hY p.2]):=by rw [IV];exact q5 S3 (by omega)
 have fs:rM[H.length]?=some (IY t a v5 .busy none):=by rw [IV];exact q5 e0 (by omega)
 have fg:rM.length=KE.length:=by rw [IV,JM];simp
 obtain ⟨D,rk,cells,Cj,Dd⟩:∃ D:List au,(D=rM∨(D=rM.set x .dead∧4<x))∧∃ cells:List I,cells=(qB++[p]).flatMap p4 ∧
   ((rQ=.ay [] 0 .full∧qB=[]∧D=rM∧cells=p4 p)∨(rQ=.cn x (x+1) qB.length 2∧D=rM.set x .dead∧∃ cs,rM[x]?=some (.grow cs (x+1) 2)∧((cs.length=qB.length*2∧cells=cs++p4 p)∨(qB.length*2<cs.length∧cells=cs.take (qB.length*2)++p4 p)))):=by
  rcases Kg.hw with ⟨bF,bV⟩ | ⟨bF,bV,cs,GZ,JW,NH⟩
  ·exact ⟨rM,.inl rfl,p4 p,by rw [bF];simp,.inl ⟨bV,bF,rfl,rfl⟩⟩
  ·refine ⟨rM.set x .dead,.inr ⟨rfl,bV⟩,cs.take (qB.length*2)++p4 p,by rw [NH];simp,.inr ⟨bF,rfl,cs,GZ,?_⟩⟩;rcases Nat.lt_or_ge (qB.length*2) cs.length with h | h
   ·exact .inr ⟨h,rfl⟩
   ·exact .inl ⟨by omega,by rw [ui (by omega)]⟩
 have X3:=Kg.push (b:=fin t p) Cj rk;have PT:D.length=rM.length:=by rcases rk with rfl | ⟨rfl,_⟩ <;> simp
 have XZ:∀ (j:Nat) (o:au),j≠x→rM[j]?=some o→D[j]?=some o:=fun j o aw h=>by
  rcases rk with rfl | ⟨rfl,_⟩
  ·exact h
  ·exact q5 h (Ne.symm aw)
 have LY:∀ (j:Nat) (o:au),j≤4→rM[j]?=some o→D[j]?=some o:=fun j o aw h=>by
  rcases rk with rfl | ⟨rfl,a8⟩
  ·exact h
  ·exact q5 h (by omega)
 obtain ⟨N2,Ie⟩:∃ N2,N2=D++[au.grow cells (rM.length+1) 2,au.dead]:=⟨_,rfl⟩;obtain ⟨K7,Kd⟩:∃ K7,K7=N2.set 3 (au.cells [.cn rM.length (rM.length+1) (qB.length+1) 2]):=⟨_,rfl⟩;rw [←Ie,←Kd] at X3;have S4:K7[BL]?=some (.cells [hY p.1,hY p.2]):=by rw [Kd,Ie];exact q5 (q2 (XZ _ _ (by omega) PQ)) (by omega)
 have SV:K7[0]?=some (I6 t):=by rw [Kd,Ie];exact q5 (q2 (LY 0 _ (by omega) Kg.aS)) (by omega)
 have S1:K7[4]?=some (.cells [hY a]):=by rw [Kd,Ie];exact q5 (q2 (LY 4 _ (by omega) Kg.a8)) (by omega)
 have anF:4<N2.length:=by rw [Ie];simp;omega
 have SZ:N2[3]?=some (.cells [rQ]):=by rw [Ie];exact q2 (LY 3 _ (by omega) Kg.aG)
 have qC:(K7.set 4 (au.cells [hY (fin t p)]))[H.length]?=some (IY t a v5 .busy none):=by rw [Kd,Ie];exact q5 (q5 (q2 (XZ _ _ (by omega) fs)) (by omega)) (by omega)
 have agi:H.length<(K7.set 4 (au.cells [hY (fin t p)])).length:=by rw [Kd,Ie];simp;omega
 refine ⟨(K7.set 4 (au.cells [hY (fin t p)])).set H.length (IY t a v5 .done (some (.exit 3))),?_,Lf agi,?_⟩
 ·refine aj3 (id:=3) dM Yv Yw (PM _ _ _) rfl (Qd ?_) ?_
  ·rw [tC,tC,Kd,Ie,tC];simp;omega
  unfold T7;conv=>whnf
  refine D1 (x:=au.cells [(hY (0:Int)),(hY (0:Int))]) (by first | exact qz.h | rfl | (simp [su,I.settle];done)) ?_
  conv=>whnf
  rw [rE];refine ⟨rfl,PN _ _ _ _,?_⟩;rw [Vi];unfold T8;obtain ⟨bu,eb⟩:∃ c,Qw=c:=⟨_,rfl⟩;rw [eb,←Tk];erw [←KJ];conv=>whnf
  refine D1 Kf.af ?_;conv=>whnf
  refine D1 cY ?_;conv=>whnf
  refine ⟨rfl,_,_,Gg,some i1,f1,?_⟩;conv=>whnf
  refine ⟨e1,cm,?_⟩;rw [dJ];conv=>whnf
  refine D1 Kf.af ?_;conv=>whnf
  refine D1 cY ?_;conv=>whnf
  refine ⟨rfl,_,_,Gg,some i1,f1,?_⟩;conv=>whnf
  rw [f3,←JM];conv=>whnf
  subst eb;unfold Qw;obtain ⟨bn,b_⟩:∃ c,T9=c:=⟨_,rfl⟩;rw [b_];conv=>whnf
  refine D1 o8.af ?_;conv=>whnf
  refine D1 S3 ?_;conv=>whnf
  refine D1 S3 ?_;conv=>whnf
  rw [y8];refine ⟨rfl,_,_,Tv,some i2,f4,?_⟩;conv=>whnf
  erw [f5,←IV];conv=>whnf
  subst b_;unfold T9;obtain ⟨bc,cd⟩:∃ c,OV=c:=⟨_,rfl⟩;rw [cd];conv=>whnf
  have agI:rQ=.ay [] 0 .full∨∃ i g n z,rQ=.cn i g n z:=by
   rcases Dd with ⟨h,_⟩ | ⟨h,_⟩
   ·exact .inl h
   ·exact .inr ⟨_,_,_,_,h⟩
  refine ⟨_,_,fun C=>Yq rfl (e:=65) (by kernel_rfl) Kg.aG agI,?_⟩;rcases Dd with ⟨rfl,rfl,rfl,rfl⟩ | ⟨rfl,rfl,cs,al,⟨ad,rfl⟩ | ⟨ad,rfl⟩⟩
  ·(conv=>whnf);refine D1 PQ ?_;(conv=>whnf);refine ⟨⟨rfl,by decide⟩,?_⟩;(conv=>whnf);refine ⟨⟨by decide,by decide,rfl⟩,?_⟩;erw [←Ie];(conv=>whnf);refine D1 SZ ?_;(conv=>whnf);erw [←Kd];(conv=>whnf);subst cd;unfold OV;(conv=>whnf);refine D1 SV ?_;(conv=>whnf);refine D1 S4 ?_;(conv=>whnf);refine ⟨(p5 (rj (p5 rfl (p5 (q7 (fun _=>(p5 rfl (p5 rfl rfl))) _ _ _) rfl))) (p5 (JD (p5 rfl (p5 rfl rfl))) rfl)),_,Kw (J0 jT),?_⟩;(conv=>whnf);refine D1 S1 ?_;(conv=>whnf);exact ⟨rfl,qC,jr.refl _⟩
  ·(conv=>whnf);refine D1 PQ ?_;(conv=>whnf);refine ⟨⟨rfl,by decide⟩,?_⟩;(conv=>whnf);refine D1 al ?_;(conv=>whnf);refine .inl ⟨⟨rfl,rfl,rfl,ad,by decide,by omega⟩,?_⟩;erw [←Ie];(conv=>whnf);refine D1 SZ ?_;(conv=>whnf);erw [←Kd];(conv=>whnf);subst cd;unfold OV;(conv=>whnf);refine D1 SV ?_;(conv=>whnf);refine D1 S4 ?_;(conv=>whnf);refine ⟨(p5 (rj (p5 rfl (p5 (q7 (fun _=>(p5 rfl (p5 rfl rfl))) _ _ _) rfl))) (p5 (JD (p5 rfl (p5 rfl rfl))) rfl)),_,Kw (J0 jT),?_⟩;(conv=>whnf);refine D1 S1 ?_;(conv=>whnf);exact ⟨rfl,qC,jr.refl _⟩
  ·(conv=>whnf);refine D1 PQ ?_;(conv=>whnf);refine ⟨⟨rfl,by decide⟩,?_⟩;(conv=>whnf);refine D1 al ?_;(conv=>whnf);refine .inr ⟨⟨rfl,rfl,rfl,ad,by decide,by omega⟩,?_⟩;erw [←Ie];(conv=>whnf);refine D1 SZ ?_;(conv=>whnf);erw [←Kd];(conv=>whnf);subst cd;unfold OV;(conv=>whnf);refine D1 SV ?_;(conv=>whnf);refine D1 S4 ?_;(conv=>whnf);refine ⟨(p5 (rj (p5 rfl (p5 (q7 (fun _=>(p5 rfl (p5 rfl rfl))) _ _ _) rfl))) (p5 (JD (p5 rfl (p5 rfl rfl))) rfl)),_,Kw (J0 jT),?_⟩;(conv=>whnf);refine D1 S1 ?_;(conv=>whnf);exact ⟨rfl,qC,jr.refl _⟩
 ·rw [td];exact ⟨_,_,X3.aj6 (by omega) (by omega) (by omega)⟩
end

theorem XE {α:Type} {q:α→Bool}:∀ {l:List α} {p:α},l.find? q=some p→∃ n,∃ h:n<l.length,l[n]=p∧q p=true∧∀ i (hi:i<n),q (l[i]'(by omega))=false
 | [],_,h=>by cases h
 | x::l,p,h=>by
   rw [List.find?_cons] at h;cases al:q x with
   | true =>
     rw [al] at h;obtain rfl:=Option.some.inj h;exact ⟨0,by simp,rfl,al,fun i hi=>absurd hi (by omega)⟩
   | false =>
     rw [al] at h;obtain ⟨n,ad,af,aG,a8⟩:=XE h;refine ⟨n+1,by simpa using ad,af,aG,fun i hi=>?_⟩;cases i with
     | zero=>exact al
     | succ i=>exact a8 i (by omega)
theorem TV {b:qb} {f:Int} {p:Int×Int} (h:p∈G3 b f):0≤p.1∧p.1<(b.2.length:Int)∧0≤p.2∧p.2≤1∧qP b p=f:=by
 unfold G3 at h;obtain ⟨r,aj,rfl⟩:=sJ.1 h;obtain ⟨ad,af⟩:=s_.1 aj;have ad:=sX.1 ad;refine ⟨?_,?_,?_,?_,by simpa [r_] using af⟩ <;> unfold rF <;> simp only <;> omega
theorem ZR {α:Type} (l:List α):l=[]∨∃ (l':List α) (p:α),l=l'++[p]:=by
 rcases l.eq_nil_or_concat with h | ⟨l',p,h⟩
 ·exact .inl h
 ·exact .inr ⟨l',p,by rw [h,List.concat_eq_append]⟩
def KT (t:qb):Nat→List Nat→List (Int×Int)→List (Int×Int)→Int→Option (List (Int×Int))
 | 0,_,_,_,_=>none
 | m+1,L,qB,out,a=>qh (qB.length≤1000∧out.length≤1000) <|
   match (G3 t a).find? (Nb L) with
   | some p=>qh (G1 (p.1,1-p.2)∈Ir L p) (KT t m (J' L p) (qB++[p]) out (fin t p))
   | none=>match qB.getLast? with
     | none=>some out
     | some p=>qh (0≤p.1∧p.1<(t.2.length:Int)) (KT t m L qB.dropLast (out++[p]) (qP t p))
def Mf (t:qb):Option (List (Int×Int)) :=
 qh (0<t.2.length∧t.2.length≤1000) ((KT t qe (List.range (2*t.2.length)) [] [] (ix t.2 0).1).bind fun out=>qh (out.length≠0∧out.length≤1000) (some out.reverse))
section
variable {t:qb} {L:List Nat} {qB out:List (Int×Int)} {a:Int} {rQ v5:I} {x y:Nat} {H:List au} {p:Int×Int}
theorem sg.akW (cp:sg t L qB out a rQ v5 x y H):v5.settle=v5:=by
 rcases cp.aq with ⟨_,h⟩ | ⟨h,_⟩ <;> rw [h] <;> rfl
theorem sg.pop {b:Int} (cp:sg t L (qB++[p]) out a rQ v5 x y H) (hw:rQ=.cn x (x+1) (qB.length+1) 2) {cells:List I} (ao:cells=(out++[p]).flatMap p4) {D:List au} {G:List au} (Hx:G=H.set 3 (.cells [.cn x (x+1) qB.length 2])) (rk:D=G∨(D=G.set y .dead∧4<y)) :
  sg t L qB (out++[p]) b (.cn x (x+1) qB.length 2) (.cn G.length (G.length+1) (out.length+1) 2) x G.length ((D++[au.grow cells (G.length+1) 2,au.dead]).set 4 (au.cells [hY b])):=by
 subst ao;have ak:=cp.len;have ant:G.length=H.length:=by rw [Hx];simp
 have PT:D.length=G.length:=by rcases rk with rfl | ⟨rfl,_⟩ <;> simp
 obtain ⟨GQ,aS,⟨HU,ad⟩,af,aG,a8,ml,aq,ne,KU,KV,Ka,JI⟩:=cp;have Ie:∀ (j:Nat) (o:au),j≠3→H[j]?=some o→G[j]?=some o:=fun j o aw h=>by rw [Hx];exact q5 h (Ne.symm aw)
 have afE:∀ (j:Nat) (o:au),j≠y→G[j]?=some o→D[j]?=some o:=fun j o aw h=>by
  rcases rk with rfl | ⟨rfl,_⟩
  ·exact h
  ·exact q5 h (Ne.symm aw)
 have PS:∀ (j:Nat) (o:au),j≤4→G[j]?=some o→D[j]?=some o:=fun j o aw h=>by
  rcases rk with rfl | ⟨rfl,aY⟩
  ·exact h
  ·exact q5 h (by omega)
 refine ⟨GQ,?_,⟨HU,?_⟩,?_,?_,Lf (by simp;omega),.inr ?_,.inr ⟨by simp,by omega,?_⟩,by omega,by simp;omega,by simp;omega,Ka,.inr (by omega)⟩
 ·exact q5 (q2 (PS 0 _ (by omega) (Ie 0 _ (by omega) aS))) (by omega)
 ·exact q5 (q2 (PS 1 _ (by omega) (Ie 1 _ (by omega) ad))) (by omega)
 ·exact q5 (q2 (PS 2 _ (by omega) (Ie 2 _ (by omega) af))) (by omega)
 ·refine q5 (q2 (PS 3 _ (by omega) ?_)) (by omega);rw [Hx];exact Lf (by omega)
 ·rcases ml with ⟨bF,_⟩ | ⟨bF,bV,cs,GZ,JW,NH⟩
  ·exact absurd bF (by simp)
  ·refine ⟨rfl,bV,cs,q5 (q2 (afE x _ ne (Ie x _ (by omega) GZ))) (by omega),?_,?_⟩
   ·rw [sA] at JW;omega
   ·have:=congrArg (List.take (qB.length*2)) NH;rw [List.take_take,List.flatMap_append] at this;rw [sA,tK (by omega)] at this;rw [this,List.take_append_of_le_length (by rw [Ko];exact sx _),ui (by rw [Ko];exact sx _)]
 ·rw [←PT];exact q5 (M0 _ _) (by omega)
theorem ag0 {cs:List I} (h:(qB.length+1)*2≤cs.length) (e:cs.take ((qB.length+1)*2)=(qB++[p]).flatMap p4):cs[qB.length*2]?=some (hY p.1)∧cs[qB.length*2+1]?=some (hY p.2):=by
 have g:=Qq (qB++[p]) qB.length (by simp);have ae:(qB++[p]).getD qB.length (0,0)=p:=by simp
 rw [ae,←e,th,th,if_pos (by omega),if_pos (by omega)] at g;exact g
theorem ajQ {Nh:List (Int×Int)} (pO:t.2.length≤1000) (Kf:sg t L qB out a rQ v5 x y H) (h:KT t qe L qB out a=some Nh)
  {Q:cE→List I→List au→Prop} (av:∀ L a rQ v5 x y H NC ND NF aaE,sg t L [] Nh a rQ v5 x y H→Q (.exit 2) (GI 92 [(1,.ptr 0 0),(3,.ptr 2 0),(5,v5),(6,.ptr 3 0),(7,.ptr 4 0),(8,.func 89 [Hg t] []),(38,NC),(39,ND),(40,NF),(67,aaE)]) H)
  {T:List I} (bZ:eX [false,true,false,true,false,true,true,true,true,false,false,false,false,false,false,false,false,false,false,false,false,false,false,false,false,false,false,false,false,false,false,false,false,false,false,false,false,false,false,false,false,false,false,false,false,false,false,false,false,false,false,false,false,false,false,false,false,false,false,false,false,false,false,false,false,false,false,false,false,false,false,false,false,false,false,false,false,false,false,false,false,false,false,false,false,false,false,false,false,false,false,false] T=GI 92 [(1,.ptr 0 0),(3,.ptr 2 0),(5,v5),(6,.ptr 3 0),(7,.ptr 4 0),(8,.func 89 [Hg t] [])]):dG Tryz.prog LL 104 0 none Qx T H Q:=by
 unfold Qx;obtain ⟨m9,Hk⟩:∃ c,Uf=c:=⟨_,rfl⟩;rw [Hk];refine wp_loop bZ ?_;refine .intro (fun m T H=>∃ L qB out a rQ v5 x y,sg t L qB out a rQ v5 x y H∧T=GI 92 [(1,.ptr 0 0),(3,.ptr 2 0),(5,v5),(6,.ptr 3 0),(7,.ptr 4 0),(8,.func 89 [Hg t] [])]∧KT t m L qB out a=some Nh) qe ⟨_,_,_,_,_,_,_,_,Kf,rfl,h⟩ ?_;clear h bZ Kf;rintro m T H ⟨L,qB,out,a,rQ,v5,x,y,cp,rfl,h⟩;cases m
 ·exact q_ h
 rename_i m;rw [KT.eq_2] at h;obtain ⟨⟨TB,fM⟩,h⟩:=qF h;have Ye:Lu t a=some (G3 t a):=by rw [Lu,if_pos pO]
 subst Hk;unfold Uf;obtain ⟨anj,XT⟩:∃ c,Ui=c:=⟨_,rfl⟩;obtain ⟨fW,GX⟩:∃ c,Ue=c:=⟨_,rfl⟩;rw [XT,GX];refine IK fun m2 Hc=>?_;conv=>whnf
 refine D1 cp.a8 ?_;conv=>whnf
 refine ⟨(p5 (rj (p5 rfl (p5 (q7 (fun _=>(p5 rfl (p5 rfl rfl))) _ _ _) rfl))) (p5 rfl rfl)),_,amS (v:=()) rfl,?_⟩;conv=>whnf
 subst XT;unfold Ui;have Qa:=cp.akW;cases a5:(G3 t a).find? (Nb L) with
 | some p =>
   rw [a5] at h;obtain ⟨Ts,ak⟩:=qF h;obtain ⟨n,aN,agq,g6,ga⟩:=XE a5;have aC:=TV (List.mem_of_find?_eq_some a5);refine ajL (id:=3) (f:=fun e=>.agg (p4 e)) (ajY Ye) aN (by exact rfl) (fun i hi Y=>?_) (fun Y=>?_) (by exact rfl)
   ·have yW:=TV (sL (show i<(G3 t a).length by omega));exact Zy cp yW.1 ⟨yW.2.2.1,yW.2.2.2.1⟩ (of_decide_eq_false (ga i hi)) Y
   ·rw [agq];obtain ⟨H',agB,af4,Vx,ow,o7⟩:=ajR cp ⟨aC.1,aC.2.1⟩ ⟨aC.2.2.1,aC.2.2.2.1⟩ (of_decide_eq_true g6) Ts TB Y;refine ⟨H',⟨af4,?_⟩,agB⟩;(conv=>whnf);refine Hc _ _ _ ?_;(conv=>whnf);exact ⟨m,sv m,_,_,_,_,Vx,v5.settle,ow,y,by rw [Qa];exact o7,rfl,ak⟩
 | none =>
   rw [a5] at h;have ga:=vB.1 a5;refine ajN (f:=fun e=>.agg (p4 e)) (ajZ Ye) (fun _=>H) (by exact rfl) rfl (fun _=>rfl) (fun i hi Y=>?_) (by exact rfl) rfl (fun Y=>?_)
   ·have yW:=TV (sL hi);exact Zy cp yW.1 ⟨yW.2.2.1,yW.2.2.2.1⟩ (by have:=ga _ (sL hi);simpa [Nb] using this) Y
   have Jh:sg t L qB out a rQ v5 x y ((H++[.dead])++Y):=(cp.more _).more _;clear cp;obtain ⟨G,Hx⟩:∃ G,G=(H++[au.dead])++Y:=⟨_,rfl⟩;rw [←Hx] at Jh ⊢;(conv=>whnf);refine D1 Jh.aG ?_;rcases Jh.hw with ⟨rfl,rfl⟩ | ⟨rfl,anL,cs,al,cF,Cn⟩
   ·obtain rfl:=Option.some.inj h;(conv=>whnf);refine Hc _ _ _ ?_;(conv=>whnf);exact av _ _ _ _ _ _ _ _ _ _ _ (by rw [Qa];exact Jh)
   ·(conv=>whnf);rcases ZR qB with rfl | ⟨Ix,p,rfl⟩
    ·obtain rfl:=Option.some.inj h;(conv=>whnf);refine Hc _ _ _ ?_;(conv=>whnf);exact av _ _ _ _ _ _ _ _ _ _ _ (by rw [Qa];exact Jh)
    ·rw [List.getLast?_concat] at h;obtain ⟨jT,ak⟩:=qF h;rw [List.dropLast_concat] at ak;(have hlen:(Ix++[p]).length=Ix.length+1:=by simp);(have y8:IntKind.i64.wrap ((((Ix++[p]).length:Nat):Int)-1)=(Ix.length:Int):=by rw [hlen,I8 _ (by omega) (by omega)];omega);rw [hlen] at cF Cn TB;obtain ⟨jJ,h5⟩:=ag0 cF Cn;have agh:=Jh.len;have IH:=Jh.ne;have agl:=Jh.KU;have agm:=Jh.KV;have af5:=Jh.JI;rw [decide_eq_false (show ¬ ((((Ix++[p]).length:Nat):Int)=0) by omega)];rw [Qa];(conv=>whnf);subst GX;unfold Ue;obtain ⟨d',B4⟩:∃ c,Ud=c:=⟨_,rfl⟩;rw [B4];(conv=>whnf);refine D1 Jh.aG ?_;(conv=>whnf);refine D1 Jh.aG ?_;(conv=>whnf);rw [y8];refine ⟨by omega,?_⟩;(conv=>whnf);refine D1 al ?_;(conv=>whnf);refine D1 (by rw [show 0+(Ix.length:Int).toNat*2=Ix.length*2 by omega];exact jJ) ?_;(conv=>whnf);refine D1 (by rw [show 0+(Ix.length:Int).toNat*2+1=Ix.length*2+1 by omega];exact h5) ?_;(conv=>whnf);refine D1 (JA _ _) ?_;(conv=>whnf);rw [rE];(conv=>whnf);obtain ⟨Iy,JM⟩:∃ Iy,Iy=G++[au.cells [hY p.1,hY p.2]]:=⟨_,rfl⟩;(have o8:sg t L (Ix++[p]) out a (.cn x (x+1) (Ix++[p]).length 2) v5 x y Iy:=by rw [JM];exact Jh.more _);(have afz:Iy[G.length]?=some (.cells [hY p.1,hY p.2]):=by rw [JM];exact JA _ _);(have hG:Iy.length=G.length+1:=by rw [JM];simp);erw [←JM];subst B4;unfold Ud;obtain ⟨b9,hy⟩:∃ c,Uc=c:=⟨_,rfl⟩;rw [hy];(conv=>whnf);refine ⟨_,_,fun C=>Yq rfl (e:=65) (by kernel_rfl) o8.aG (.inr ⟨_,_,_,_,rfl⟩),?_⟩;(conv=>whnf);refine D1 o8.aG ?_;(conv=>whnf);rw [y8];refine ⟨⟨by omega,by omega⟩,?_⟩;(conv=>whnf);refine D1 o8.aG ?_;(conv=>whnf);obtain ⟨rM,IV⟩:∃ rM,rM=Iy.set 3 (.cells [.cn x (x+1) Ix.length 2]):=⟨_,rfl⟩;(have PO:rM[G.length]?=some (.cells [hY p.1,hY p.2]):=by rw [IV];exact q5 afz (by omega));(have XV:rM[0]?=some (I6 t):=by rw [IV];exact q5 o8.aS (by omega));(have XX:rM[4]?=some (.cells [hY a]):=by rw [IV];exact q5 o8.a8 (by omega));(have fg:rM.length=Iy.length:=by rw [IV];simp);erw [←IV];subst hy;unfold Uc;obtain ⟨bu,eb⟩:∃ c,Zi=c:=⟨_,rfl⟩;rw [eb];rcases o8.aq with ⟨aq,rfl⟩ | ⟨rfl,Yg,a2⟩
     ·have Ty:=o8.pop (b:=qP t p) (by rw [hlen]) (cells:=p4 p) (by rw [aq];simp) IV (.inl rfl);(conv=>whnf);refine D1 PO ?_;(conv=>whnf);refine ⟨⟨rfl,by decide⟩,?_⟩;(conv=>whnf);refine ⟨⟨by decide,by decide,rfl⟩,?_⟩;have SX:(rM++[au.grow (p4 p) (rM.length+1) 2,au.dead])[G.length]?=some (.cells [hY p.1,hY p.2]):=q2 PO;have SW:(rM++[au.grow (p4 p) (rM.length+1) 2,au.dead])[0]?=some (I6 t):=q2 XV;have S2:(rM++[au.grow (p4 p) (rM.length+1) 2,au.dead])[4]?=some (.cells [hY a]):=q2 XX;subst eb;(conv=>whnf);refine D1 SW ?_;(conv=>whnf);refine D1 SX ?_;(conv=>whnf);refine ⟨(p5 (rj (p5 rfl (p5 (q7 (fun _=>(p5 rfl (p5 rfl rfl))) _ _ _) rfl))) (p5 (JD (p5 rfl (p5 rfl rfl))) rfl)),_,Kw (J0 jT),?_⟩;(conv=>whnf);refine D1 S2 ?_;(conv=>whnf);refine Hc _ _ _ ?_;(conv=>whnf);exact ⟨m,sv m,_,Ix,_,_,_,_,_,_,Ty,by rw [aq];rfl,ak⟩
     ·(have agM:rM[y]?=some (.grow (out.flatMap p4) (y+1) 2):=by rw [IV];exact q5 a2 (by omega));have Ty:=o8.pop (b:=qP t p) (by rw [hlen]) (cells:=out.flatMap p4++p4 p) (by simp) IV (.inr ⟨rfl,Yg⟩);(conv=>whnf);refine D1 PO ?_;(conv=>whnf);refine ⟨⟨rfl,by decide⟩,?_⟩;(conv=>whnf);refine D1 agM ?_;(conv=>whnf);refine .inl ⟨⟨rfl,rfl,rfl,Ko _,by decide,by omega⟩,?_⟩;have SX:(rM.set y .dead++[au.grow (out.flatMap p4++p4 p) (rM.length+1) 2,au.dead])[G.length]?=some (.cells [hY p.1,hY p.2]):=q2 (q5 PO (by omega));have SW:(rM.set y .dead++[au.grow (out.flatMap p4++p4 p) (rM.length+1) 2,au.dead])[0]?=some (I6 t):=q2 (q5 XV (by omega));have S2:(rM.set y .dead++[au.grow (out.flatMap p4++p4 p) (rM.length+1) 2,au.dead])[4]?=some (.cells [hY a]):=q2 (q5 XX (by omega));subst eb;(conv=>whnf);refine D1 SW ?_;(conv=>whnf);refine D1 SX ?_;(conv=>whnf);refine ⟨(p5 (rj (p5 rfl (p5 (q7 (fun _=>(p5 rfl (p5 rfl rfl))) _ _ _) rfl))) (p5 (JD (p5 rfl (p5 rfl rfl))) rfl)),_,Kw (J0 jT),?_⟩;(conv=>whnf);refine D1 S2 ?_;(conv=>whnf);refine Hc _ _ _ ?_;(conv=>whnf);exact ⟨m,sv m,_,Ix,_,_,_,_,_,_,Ty,rfl,ak⟩
end

theorem aiK (l:List (Int×Int)):(l.flatMap p4).map I.view=l.flatMap p4:=by
 rw [List.map_flatMap];rfl
theorem agS {t:qb} (pO:t.2.length≤1000)
  {Q:cE→List I→List au→Prop} (av:∀ FL,Q (.exit 0) (GI 92 [(1,.ptr 0 0),(3,.ptr 2 0),(4,FL),(17,hY t.2.length),(18,hY t.2.length),(19,B (decide ((t.2.length:Int)<(t.2.length:Int))))]) [I6 t,.map (r7 (List.range (2*t.2.length))) (2*t.2.length),.cells [.map 1]])
  {T:List I} (bZ:eX [false,true,false,true,false,false,false,false,false,false,false,false,false,false,false,false,false,true,true,false,false,false,false,false,false,false,false,false,false,false,false,false,false,false,false,false,false,false,false,false,false,false,false,false,false,false,false,false,false,false,false,false,false,false,false,false,false,false,false,false,false,false,false,false,false,false,false,false,false,false,false,false,false,false,false,false,false,false,false,false,false,false,false,false,false,false,false,false,false,false,false,false] T=GI 92 [(1,.ptr 0 0),(3,.ptr 2 0),(17,hY t.2.length),(18,hY (0:Nat))]):dG Tryz.prog LL 104 0 none Qy T [I6 t,.map [] 0,.cells [.map 1]] Q:=by
 unfold Qy;obtain ⟨bn,b_⟩:∃ c,Ub=c:=⟨_,rfl⟩;rw [b_];refine wp_loop bZ ?_;refine .intro (fun m T H=>∃ i:Nat,i≤t.2.length∧m=t.2.length-i∧T=GI 92 [(1,.ptr 0 0),(3,.ptr 2 0),(17,hY t.2.length),(18,hY i)]∧H=[I6 t,.map (r7 (List.range (2*i))) (2*i),.cells [.map 1]]) t.2.length ⟨0,by omega,by omega,rfl,rfl⟩ ?_;clear bZ;rintro m T H ⟨i,hi,rfl,rfl,rfl⟩;conv=>whnf
 refine H6 (fun aU=>?_) (fun aU=>?_)
 ·have aU:i<t.2.length:=by omega
  have dg:I.agg [hY (i:Int),hY 0]=.agg (p4 (rF (2*i))):=by
   have:=Qp (n:=t.2.length) (i:=i) (b:=0) aU (by omega);rw [show 2*i+0=2*i by omega] at this;rw [this];rfl
  have aJ:I.agg [hY (i:Int),hY 1]=.agg (p4 (rF (2*i+1))):=by
   rw [Qp (n:=t.2.length) (i:=i) (b:=1) aU (by omega)];rfl
  have f0:fG (.agg [hY (i:Int),hY 0]) (r7 (List.range (2*i))) 0=some none:=by rw [dg];exact PL _ _ _ (by simp)
  have f1:fG (.agg [hY (i:Int),hY 1]) (r7 (List.range (2*i+1))) 0=some none:=by rw [aJ];exact PL _ _ _ (by simp)
  have fY:r7 (List.range (2*i))++[(2*i,I.agg [hY (i:Int),hY 0],hY 1)]=r7 (List.range (2*i+1)):=by rw [dg,Xw,←vA]
  have e1:r7 (List.range (2*i+1))++[(2*i+1,I.agg [hY (i:Int),hY 1],hY 1)]=r7 (List.range (2*i+1+1)):=by rw [aJ,Xw,←vA]
  conv=>whnf
  subst b_;unfold Ub;obtain ⟨bc,cd⟩:∃ c,T_=c:=⟨_,rfl⟩;rw [cd];refine IK fun m2 Hc=>?_;conv=>whnf
  subst cd;unfold T_;conv=>whnf
  refine ⟨rfl,_,_,rfl,none,f0,?_⟩;conv=>whnf
  refine ⟨rfl,_,_,rfl,none,(by erw [fY];exact f1),?_⟩;conv=>whnf
  erw [fY,e1];refine Hc _ _ _ ?_;conv=>whnf
  exact ⟨t.2.length-(i+1),by omega,i+1,by omega,rfl,by rw [←rJ i (by omega)] <;> rfl,rfl⟩
 ·obtain rfl:i=t.2.length:=by omega
  conv=>whnf
  exact av _
theorem VA {t:qb} {v:List (Int×Int)} (h:Mf t=some v):qD 104 [Hg t] (.ay (v.flatMap p4) v.length .shared):=by
 obtain ⟨⟨CQ,pO⟩,h⟩:=qF h;obtain ⟨out,ak,h⟩:=qj h;obtain ⟨⟨ags,jR⟩,h⟩:=qF h;obtain rfl:=Option.some.inj h;refine qZ dM ag3 rfl (q7 (fun _=>(p5 rfl (p5 rfl rfl))) _ _ _) fun Q bo=>?_;have jG:∀ T H,IP [.tmp 2] (.ay (out.reverse.flatMap p4) out.reverse.length .shared) .ret T H→Q .ret T H:=fun T H bK=>bo _ T H bK;unfold Zh;obtain ⟨Xd,Le⟩:∃ c,Ua=c:=⟨_,rfl⟩;rw [Le];conv=>whnf
 subst Le;unfold Ua;obtain ⟨Sn,Jz⟩:∃ c,Qy=c:=⟨_,rfl⟩;obtain ⟨Xc,KI⟩:∃ c,T'=c:=⟨_,rfl⟩;rw [Jz,KI];conv=>whnf
 subst Jz;refine agS (t:=t) pO ?_ (by exact rfl);intro FL;conv=>whnf
 subst KI;unfold T';obtain ⟨m_,G0⟩:∃ c,Ug=c:=⟨_,rfl⟩;obtain ⟨BL,Jy⟩:∃ c,Uh=c:=⟨_,rfl⟩;rw [G0,Jy];conv=>whnf
 refine ⟨by omega,?_⟩;conv=>whnf
 refine ajD p4 2 qy t.2 0 ⟨by omega,by omega⟩ rfl ?_;conv=>whnf
 subst G0;unfold Ug;obtain ⟨ani,XS⟩:∃ c,Qx=c:=⟨_,rfl⟩;rw [XS];conv=>whnf
 subst XS;have cp:sg t (List.range (2*t.2.length)) [] [] (ix t.2 0).1 (.ay [] 0 .full) (.ay [] 0 .full) 0 2 [I6 t,.map (r7 (List.range (2*t.2.length))) (2*t.2.length),.cells [.map 1],.cells [.ay [] 0 .full],.cells [hY (ix t.2 0).1]] :=
  ⟨uC,rfl,⟨_,rfl⟩,rfl,rfl,rfl,.inl ⟨rfl,rfl⟩,.inl ⟨rfl,rfl⟩,by decide,by simp,by simp,.inl rfl,.inl rfl⟩
 refine ajQ pO cp ak ?_ (by exact rfl);intro L a rQ v5 x y H NC ND NF aaE HN;conv=>whnf
 subst Jy;unfold Uh;rcases HN.aq with ⟨rfl,_⟩ | ⟨rfl,Yg,a2⟩
 ·exact absurd rfl ags
 conv=>whnf
 refine ⟨_,_,Hv (ajF out (by omega) (by omega) (sK _) a2),?_⟩;conv=>whnf
 refine ⟨_,_,fun C=>XM rfl (sK _) (Lf (ss.1 a2).1) (by rw [Ko,List.length_reverse]),?_⟩;rw [aiK];conv=>whnf
 rw [List.length_reverse] at jG;exact jG _ _ ⟨.inr rfl,_,rfl,_,o0 (q7 (fun _=>(p5 rfl (p5 rfl rfl))) _ _ _),rfl⟩
end Go.Proofs.YtfakoboiahbhaaaGreat.Ab


namespace Go.Proofs.YtfakoboiahbhaaaGreat.Ab
open Go
def H7 (e:Int×Int) (v:Int):Nat:=(if e.1=v then 1 else 0)+(if e.2=v then 1 else 0)
def qN (b:qb) (S:List Int) (v:Int):Nat:=(S.map fun i=>H7 (ix b.2 i) v).sum
section
variable {b t:qb}
theorem ae5 (p:Int×Int) (v:Int):H7 (ix b.2 p.1) v=(if qP b p=v then 1 else 0)+(if fin b p=v then 1 else 0):=by
 unfold H7 qP fin;by_cases h:0<p.2
 ·rw [if_pos h,if_pos h,Nat.add_comm]
 ·rw [if_neg h,if_neg h]
theorem KH (v:Int):qN b [] v=0:=rfl
theorem LS (i:Int) (S:List Int) (v:Int):qN b (i::S) v=H7 (ix b.2 i) v+qN b S v:=by simp [qN]
theorem MX (S S':List Int) (v:Int):qN b (S++S') v=qN b S v+qN b S' v:=by simp [qN]
theorem MY {S S':List Int} (h:S.Perm S') (v:Int):qN b S v=qN b S' v:=by
 unfold qN;exact (h.map _).sum_nat
theorem MZ {S:List Int} {v:Int}:qN b S v=0↔∀ i∈S,¬ re b i v:=by
 induction S with
 | nil=>simp [KH]
 | cons i S bb =>
   rw [LS,Nat.add_eq_zero_iff,bb];simp only [sH,forall_eq_or_imp];refine and_congr ?_ Iff.rfl;unfold H7 re;split <;> split <;> simp [*]
theorem JE:∀ (l l':Row) (a:Int),qV b a (l++l')=(qV b a l).bind fun c=>qV b c l'
 | [],_,_=>rfl
 | p::l,l',a=>by
   rw [vg,qV,qV];split
   ·exact JE l l' _
   ·rfl
theorem Ks {a c:Int} {p:Int×Int}:qV b a [p]=some c↔qP b p=a∧fin b p=c:=by
 rw [qV,qV];split
 ·rename_i h;simp [h]
 ·rename_i h;simp [h]
theorem I0 {a c:Int} {p:Int×Int} {l:Row}:qV b a (p::l)=some c↔qP b p=a∧qV b (fin b p) l=some c:=by
 rw [qV];split
 ·rename_i h;simp [h]
 ·rename_i h;simp [h]
theorem O9:∀ (l:Row) (a c v:Int),qV b a l=some c→(qN b (l.map (·.1)) v+(if a=v then 1 else 0)+(if c=v then 1 else 0)) % 2=0
 | [],a,c,v,h=>by
   have:a=c:=by simpa [qV] using h
   subst this;rw [tA,KH];split <;> rfl
 | p::l,a,c,v,h=>by
   obtain ⟨ad,af⟩:=I0.1 h;have bb:=O9 l _ c v af;rw [sy,LS,ae5,ad];omega
def HI (t:qb) (p:Int×Int):Prop:=0≤p.1∧p.1<(t.2.length:Int)∧0≤p.2∧p.2≤1
theorem Jd (p:Int×Int) (v:Int):re b p.1 v↔qP b p=v∨fin b p=v:=by
 unfold re qP fin;split
 ·exact Or.comm
 ·exact Iff.rfl
theorem afh {i:Nat} (hi:i<t.2.length) {v:Int} (h:re t i v):∃ p∈G3 t v,p.1=(i:Int):=by
 rcases h with h | h
 ·exact ⟨((i:Int),0),Lp.2 ⟨by simp only;omega,by simp only;omega,by simp only;omega,by simp only;omega,h⟩,rfl⟩
 ·exact ⟨((i:Int),1),Lp.2 ⟨by simp only;omega,by simp only;omega,by simp only;omega,by simp only;omega,h⟩,rfl⟩
structure H0 (t:qb) (s:Int) (L:List Nat) (qB out:Row) (a h:Int):Prop where
 iD:∀ x∈L,x<2*t.2.length
 sym:∀ i:Nat,2*i∈L↔2*i+1∈L
 ok:∀ p∈qB++out,HI t p
 QO:((qB++out).map (·.1)).Nodup
 L':∀ i:Nat,i<t.2.length→(2*i∈L↔(i:Int) ∉ (qB++out).map (·.1))
 go:qV t s qB=some a
 back:qV t h out.reverse=some s
 Qg:∀ p∈out,∀ i:Nat,i<t.2.length→2*i∈L→¬ re t i (fin t p)
theorem Yk {p:Int×Int} (h:HI t p):∃ i:Nat,p.1=(i:Int)∧i<t.2.length∧((p.2=0∧G1 p=2*i∧G1 (p.1,1-p.2)=2*i+1)∨(p.2=1∧G1 p=2*i+1∧G1 (p.1,1-p.2)=2*i)):=by
 obtain ⟨ad,af,aG,a8⟩:=h;refine ⟨p.1.toNat,by omega,by omega,?_⟩;unfold G1;simp only;rcases show p.2=0∨p.2=1 by omega with h | h
 ·left;omega
 ·right;omega
theorem ah7 {L:List Nat} {p:Int×Int} {x:Nat}:x∈J' L p↔x∈L∧x≠G1 p∧x≠G1 (p.1,1-p.2):=by
 unfold J' Ir;simp only [s_,decide_eq_true_eq,and_assoc]
theorem TH {α:Type} (q:α→Bool):∀ (l:List α) (x:α),x∈l→q x=false→(l.filter q).length<l.length
 | [],_,h,_=>by simp at h
 | y::l,x,h,a5=>by
   have hle:=tO q l;rw [tr];rcases sH.1 h with rfl | h
   ·rw [a5];simp only [Bool.false_eq_true,if_false,sP];omega
   ·have bb:=TH q l x h a5;split <;> simp only [sP] <;> omega
theorem afa {L:List Nat} {p:Int×Int} (h:G1 p∈L) (af:G1 (p.1,1-p.2)∈Ir L p):(J' L p).length+2≤L.length:=by
 have aB:=TH (fun x=>decide (x≠G1 p)) L _ h (by simp);have aH:=TH (fun x=>decide (x≠G1 (p.1,1-p.2))) (Ir L p) _ af (by simp);unfold J';unfold Ir at aB aH ⊢;omega
theorem H0.step {s a h:Int} {L:List Nat} {qB out:Row} {p:Int×Int} (kv:H0 t s L qB out a h) (aC:p∈G3 t a) (fr:G1 p∈L):H0 t s (J' L p) (qB++[p]) out (fin t p) h∧G1 (p.1,1-p.2)∈Ir L p:=by
 have a5:=Lp.1 aC;have bQ:HI t p:=⟨a5.1,a5.2.1,a5.2.2.1,a5.2.2.2.1⟩;obtain ⟨i,hi,q',al⟩:=Yk bQ;have SY:2*i∈L:=by
  rcases al with al | al
  ·rw [←al.2.1];exact fr
  ·rw [kv.sym,←al.2.1];exact fr
 have afA:=(kv.sym i).1 SY;have a1:∀ x,x∈J' L p↔x∈L∧x≠2*i∧x≠2*i+1:=fun x=>by
  rw [ah7];rcases al with al | al <;> rw [al.2.1,al.2.2] <;> constructor <;> rintro ⟨ad,af,aG⟩ <;> exact ⟨ad,by omega,by omega⟩
 have agp:=(kv.L' i q').1 SY;have Ji:((qB++[p]++out).map (·.1)).Perm (p.1::(qB++out).map (·.1)):=by
  rw [←sy];refine List.Perm.map _ ?_;rw [sD];exact List.perm_middle
 refine ⟨⟨fun x al=>kv.iD x ((a1 x).1 al).1,fun j=>?_,fun q a5=>?_,?_,fun j aw=>?_,?_,kv.back,fun q a5 j aw agb=>kv.Qg q a5 j aw ((a1 _).1 agb).1⟩,?_⟩
 ·rw [a1,a1,kv.sym j];constructor <;> rintro ⟨ad,af,aG⟩ <;> exact ⟨ad,by omega,by omega⟩
 ·rcases te.1 a5 with a5 | a5
  ·rcases te.1 a5 with a5 | a5
   ·exact kv.ok q (vz _ a5)
   ·rw [sQ.1 a5];exact bQ
  ·exact kv.ok q (List.mem_append_right _ a5)
 ·rw [Ji.nodup_iff,uA];exact ⟨by rw [hi];exact agp,kv.QO⟩
 ·rw [a1,kv.L' j aw,Ji.mem_iff,sH,hi];constructor
  ·rintro ⟨ad,af,_⟩ (aG | aG)
   ·omega
   ·exact ad aG
  ·intro ad;refine ⟨fun af=>ad (.inr af),fun e=>ad (.inl (by omega)),by omega⟩
 ·rw [JE,kv.go];exact Ks.2 ⟨a5.2.2.2.2,rfl⟩
 ·unfold Ir;rw [s_];rcases al with al | al <;> rw [al.2.1,al.2.2]
  ·exact ⟨afA,by simp⟩
  ·exact ⟨SY,by simp⟩
def Qc (t:qb) (L:List Nat):List Int:=(upto t.2.length).filter fun i=>decide (2*i.toNat∈L)
theorem TN {L:List Nat} {x:Int}:x∈Qc t L↔∃ i:Nat,i<t.2.length∧x=(i:Int)∧2*i∈L:=by
 unfold Qc;rw [s_,Hq,decide_eq_true_eq];constructor
 ·rintro ⟨⟨ad,af⟩,aG⟩;exact ⟨x.toNat,by omega,by omega,aG⟩
 ·rintro ⟨i,ad,rfl,aG⟩;exact ⟨⟨by omega,by omega⟩,by simpa using aG⟩
theorem H0.perm {s a h:Int} {L:List Nat} {qB out:Row} (kv:H0 t s L qB out a h):(upto t.2.length).Perm (Qc t L++(qB++out).map (·.1)):=by
 refine (uO (IJ _) ?_).2 fun x=>?_
 ·rw [uz];refine ⟨(IJ _).filter _,kv.QO,fun x al y a2 e=>?_⟩;subst e;obtain ⟨i,hi,rfl,fr⟩:=TN.1 al;exact (kv.L' i hi).1 fr a2
 ·rw [te,TN,Hq];constructor
  ·rintro ⟨ad,af⟩;obtain ⟨i,rfl⟩:∃ i:Nat,x=(i:Int):=⟨x.toNat,by omega⟩;by_cases hm:(i:Int)∈(qB++out).map (·.1)
   ·exact .inr hm
   ·exact .inl ⟨i,by omega,rfl,(kv.L' i (by omega)).2 hm⟩
  ·rintro (⟨i,hi,rfl,_⟩ | hm)
   ·omega
   ·obtain ⟨p,aC,rfl⟩:=sJ.1 hm;have:=kv.ok p aC;exact ⟨this.1,this.2.1⟩
theorem H0.len {s a h:Int} {L:List Nat} {qB out:Row} (kv:H0 t s L qB out a h):qB.length+out.length≤t.2.length:=by
 have:=kv.perm.length_eq;rw [se] at this;simp at this;omega
theorem H0.stuck {s a h:Int} {L:List Nat} {qB out:Row} (kv:H0 t s L qB out a h) (aA:∀ v,qN t (upto t.2.length) v % 2=0) (ai:∀ i:Nat,i<t.2.length→2*i∈L→¬ re t i a):h=a:=by
 have aS:qN t (Qc t L) a=0:=MZ.2 fun x al=>by
  obtain ⟨i,hi,rfl,fr⟩:=TN.1 al;exact ai i hi fr
 have ad:=aA a;rw [MY kv.perm,MX,aS,ti,MX] at ad;have af:=O9 _ _ _ a kv.go;have aG:=O9 _ _ _ a kv.back;have a8:qN t (out.reverse.map (·.1)) a=qN t (out.map (·.1)) a:=MY ((vZ out).map _) a;rw [a8] at aG;rw [if_pos rfl] at af;by_cases e:h=a
 ·exact e
 ·rw [if_neg e] at aG;omega
theorem H0.pop {s a:Int} {L:List Nat} {qB out:Row} {p:Int×Int} (kv:H0 t s L (qB++[p]) out a a) (ai:∀ i:Nat,i<t.2.length→2*i∈L→¬ re t i a):H0 t s L qB (out++[p]) (qP t p) (qP t p):=by
 have Ji:(qB++(out++[p])).Perm (qB++[p]++out):=by
  rw [sD];exact List.Perm.append_left qB wK
 have Hp:=kv.go;rw [JE] at Hp;obtain ⟨c,ad,af⟩:=qj Hp;obtain ⟨aG,a8⟩:=Ks.1 af;refine ⟨kv.iD,kv.sym,fun q a5=>kv.ok q (Ji.mem_iff.1 a5),(Ji.map _).nodup_iff.2 kv.QO,fun i hi=>?_,by rw [aG];exact ad,?_,fun q a5 i hi fr=>?_⟩
 ·rw [kv.L' i hi,(Ji.map (·.1)).mem_iff]
 ·rw [List.reverse_append];exact I0.2 ⟨rfl,by rw [a8];exact kv.back⟩
 ·rcases te.1 a5 with a5 | a5
  ·exact kv.Qg q a5 i hi fr
  ·rw [sQ.1 a5,a8];exact ai i hi fr
theorem TK (aA:∀ v,qN t (upto t.2.length) v % 2=0) (aN:t.2.length≤1000) {s:Int}:∀ (m:Nat) (L:List Nat) (qB out:Row) (a h:Int),H0 t s L qB out a h→L.length+qB.length<m →
  ∃ iC G4,KT t m L qB out a=some G4∧H0 t s iC [] G4 s s∧∀ i:Nat,i<t.2.length→2*i∈iC→¬ re t i s
 | 0,_,_,_,_,_,_,hm=>absurd hm (by omega)
 | m+1,L,qB,out,a,h,kv,hm=>by
   have hlen:=kv.len;rw [KT,qx ⟨by omega,by omega⟩];cases aQ:(G3 t a).find? (Nb L) with
   | some p =>
     have aC:=List.mem_of_find?_eq_some aQ;(have fr:G1 p∈L:=by simpa [Nb] using List.find?_some aQ);obtain ⟨ad,af⟩:=kv.step aC fr;have aG:=afa fr af;show ∃ iC G4,qh (G1 (p.1,1-p.2)∈Ir L p) _=some G4∧_;rw [qx af];exact TK aA aN m _ _ _ _ _ ad (by simp only [sA,tx];omega)
   | none =>
     have ai:∀ i:Nat,i<t.2.length→2*i∈L→¬ re t i a:=fun i hi fr kB=>by
      obtain ⟨p,aC,e⟩:=afh hi kB;have a5:=Lp.1 aC;obtain ⟨j,aw,_,al⟩:=Yk (t:=t) (p:=p) ⟨a5.1,a5.2.1,a5.2.2.1,a5.2.2.2.1⟩;(have g5:i=j:=by omega);subst g5;have ga:=vB.1 aQ p aC;refine ga ?_;simp only [Nb,decide_eq_true_eq];rcases al with al | al
      ·rw [al.2.1];exact fr
      ·rw [al.2.1];exact (kv.sym i).1 fr
     have afL:=kv.stuck aA ai;subst afL;rcases ZR qB with rfl | ⟨Ix,p,rfl⟩
     ·show ∃ iC G4,some out=some G4∧_;(have e:s=h:=by simpa [qV] using kv.go);subst e;exact ⟨L,out,rfl,kv,ai⟩
     ·rw [List.getLast?_concat];have bQ:=kv.ok p (by simp);show ∃ iC G4,qh (0≤p.1∧p.1<(t.2.length:Int)) (KT t m L (Ix++[p]).dropLast (out++[p]) (qP t p))=some G4∧_;rw [qx ⟨bQ.1,bQ.2.1⟩,List.dropLast_concat];exact TK aA aN m _ _ _ _ _ (kv.pop ai) (by simp only [sA,tx] at hm;omega)
structure Full (t:qb) (l:Row):Prop where
 ok:∀ p∈l,HI t p
 GQ:(l.map (·.1)).Nodup
 all:∀ i:Nat,i<t.2.length→(i:Int)∈l.map (·.1)
theorem H0.all {s:Int} {L:List Nat} {out:Row} (kv:H0 t s L [] out s s) (ai:∀ i:Nat,i<t.2.length→2*i∈L→¬ re t i s) (ao:∀ i:Nat,i<t.2.length→∃ v,re t i v∧rV t (upto t.2.length) s v):∀ i:Nat,i<t.2.length→(i:Int)∈out.map (·.1):=by
 have af0:∀ (l:Row) (a c:Int),qV t a l=some c→∀ p∈l,qP t p=a∨∃ q∈l,fin t q=qP t p:=by
  intro l
  induction l with
  | nil=>intro a c _ p aC;simp at aC
  | cons q l bb =>
    intro a c h p aC;obtain ⟨ad,af⟩:=I0.1 h;rcases sH.1 aC with rfl | aC
    ·exact .inl ad
    ·rcases bb _ c af p aC with aG | ⟨fT,CY,aG⟩
     ·exact .inr ⟨q,by simp,aG.symm⟩
     ·exact .inr ⟨fT,by simp [CY],aG⟩
 have key:∀ v,rV t (upto t.2.length) s v→∀ i:Nat,i<t.2.length→2*i∈L→¬ re t i v:=fun v ae=>by
  induction ae with
  | refl=>exact ai
  | step j _ aw aB aH bb =>
    rename_i g Ga;have ej:=Hq.1 aw;obtain ⟨k,rfl⟩:∃ k:Nat,j=(k:Int):=⟨j.toNat,by omega⟩;(have av:k<t.2.length:=by omega);have l6:2*k ∉ L:=fun h=>bb k av h aB;have hm:(k:Int)∈out.map (·.1):=Classical.byContradiction fun aN=>l6 ((kv.L' k av).2 (by simpa using aN));obtain ⟨p,aC,e⟩:=sJ.1 hm;rw [←e] at aH;rcases (Jd p _).1 aH with h | h
    ·rcases af0 _ _ _ kv.back p (wL.2 aC) with aY | ⟨q,a5,aY⟩
     ·rw [←h,aY];exact ai
     ·intro i hi fr;rw [←h,←aY];exact kv.Qg q (wL.1 a5) i hi fr
    ·intro i hi fr;rw [←h];exact kv.Qg p aC i hi fr
 intro i hi;refine Classical.byContradiction fun aN=>?_;obtain ⟨v,ad,af⟩:=ao i hi;exact key v af i hi ((kv.L' i hi).2 (by simpa using aN)) ad
theorem alv (aA:∀ v,qN t (upto t.2.length) v % 2=0) (aN:t.2.length≤1000) (aS:0<t.2.length) (ao:∀ i:Nat,i<t.2.length→∃ v,re t i v∧rV t (upto t.2.length) (ix t.2 0).1 v) :
  ∃ l,Mf t=some l∧Full t l∧qV t (ix t.2 0).1 l=some (ix t.2 0).1:=by
 have kv:H0 t (ix t.2 0).1 (List.range (2*t.2.length)) [] [] (ix t.2 0).1 (ix t.2 0).1:=by
  refine ⟨fun x al=>sX.1 al,fun i=>?_,fun p aC=>absurd aC (by simp),by simp,fun i hi=>?_,rfl,rfl,fun p aC=>absurd aC (by simp)⟩
  ·rw [sX,sX];omega
  ·rw [sX];simp;omega
 obtain ⟨L,out,ad,af,aG⟩:=TK aA aN qe _ _ _ _ _ kv (rR (by simp;omega));have db:=af.all aG ao;have hlen:=af.len;have bO:out.length≠0:=fun e=>by
  have:=db 0 aS;rw [tt.1 e] at this;simp at this
 refine ⟨out.reverse,?_,⟨fun p aC=>af.ok p (by simpa using aC),?_,fun i hi=>?_⟩,af.back⟩
 ·rw [Mf,qx ⟨aS,aN⟩,ad,sq,qx ⟨bO,by omega⟩]
 ·exact ((vZ out).map _).nodup_iff.2 (by simpa using af.QO)
 ·exact ((vZ out).map (·.1)).mem_iff.2 (db i hi)
end
end Go.Proofs.YtfakoboiahbhaaaGreat.Ab


namespace Go.Proofs.YtfakoboiahbhaaaGreat.Ab
open Go
set_option maxRecDepth 20000
set_option maxHeartbeats 4000000
noncomputable def RH:eE :=
 .loop (some (ED false [0,1,4,1,5,3,52])) (GD [gV 14 [.sl 13,.sl 12] (.bin .lss)] (.seq (.cond (.sl 14) .skip (.exit 0)) (.seq (.block 1 (GD [gV 15 [.sl 11,.sl 13] (.pV 1),Gq 16 15,Gt 7 16] (GD [Gs 17 0,gV 18 [.hS 17] .zI,F_ 19 18 0,F_ 20 19 1,Gq 21 20,Gs 22 7,Gl 23 21 22 2,F_ 24 23 0,Gq 25 24,gV 26 [.sl 5,.sl 25] (.y_ 6 1),Gq 27 26,F3 28 27 1,gV 29 [.sl 5,.hS 25] (.y_ 6 1),⟨none,[.hP 29,.hP 28],none,none,.st 1⟩] (Gw [Gs 30 0,gV 31 [.hS 30] .zI,F_ 32 31 0,F_ 33 32 1,Gq 34 33,Gt 35 7,Gl 36 34 35 2,F_ 37 36 1,Gq 38 37,gV 39 [.sl 5,.sl 38] (.y_ 6 1),Gq 40 39,F3 41 40 1,gV 42 [.sl 5,.hS 38] (.y_ 6 1),⟨none,[.hP 42,.hP 41],none,none,.st 1⟩])))) (Gw [F3 43 13 1,Gt 13 43]))))
noncomputable def RI:eE :=
 .loop (some (ED false [8, 1, 38, 2, 17])) (GD [gV 49 [.sl 48, .iK (.int .i64 6)] (.bin .lss)] (.seq (.cond (.sl 49) .skip (.exit 2)) (.seq (.block 3 (GD [Gs 50 48, gV 51 [.sl 47, .sl 48] (.other (Oper.mk (some 51) (Op.index 101 (Operand.tmp 47) (Operand.tmp 48)) 3 "table.go:64" (Array.mk []) none) 0), Gt 9 50, Gt 10 51] (GD [Gt 52 10, F4 53 52 2 .rem, F4 54 53 1 .eql] (.cond (.sl 54) (Gw [Gs 55 8, Gs 56 8, Gp 57 56, Gt 58 8, Gp 59 58, gV 60 [.hP 55, .hP 57, .hP 59] (.A2 1 false true true), Gt 61 9, gV 62 [.hS 61] (.yg 1 1 [.int .i64 0] [0]), gV 63 [.hP 60, .hP 62] (.app 1 8), Gt 8 63]) .skip)))) (Gw [F3 64 48 1, Gt 48 64]))))
noncomputable def ac3:eE :=
 GD [gV 4 [.iK (.ay [] 0 .full)] (.nil 1)] (GD [gV 5 [] (.alloc [.int .i64 0, .int .i64 0, .int .i64 0, .int .i64 0, .int .i64 0, .int .i64 0])] (.seq (GD [Gt 11 1, gV 12 [.sl 11] .xe, Gr 13 0] (.block 0 RH)) (.seq (GD [gV 44 [.sl 5] (.p2 (.arr 6)), gV 45 [] (.build [.int .i64 0, .int .i64 0, .int .i64 0, .int .i64 0, .int .i64 0, .int .i64 0] []), gV 46 [.hS 44, .hS 45] (.other (Oper.mk (some 46) (Op.binOp .eql 101 (Operand.tmp 44) (Operand.tmp 45) 101) 4 "table.go:60" (Array.mk [Edge.mk 0 Ground.data, Edge.mk 1 Ground.data]) none) 0)] (.cond (.sl 46) (GD [gV 4 [.iK (.ay [] 0 .full)] (.nil 1)] .ret) .skip)) (GD [gV 8 [.iK (.ay [] 0 .full)] (.nil 1)] (.seq (GD [gV 47 [.hS 5] (.p2 (.arr 6)), Gr 48 0] (.block 2 RI)) (GD [Gt 65 8, Gt 4 65] .ret))))))
theorem ahW:zm Tryz.prog PC 76=some (ac3,66,[.tmp 4]):=by kernel_rfl
def ME (t:qk) (qm:ql) (qi:ql→Option ql):Nat→Int→ql→Option ql
 | 0,_,_=>none
 | m+1,s1,s2 =>
   if (decide (s1<(qm.length:Int)))=true then
    qh (0≤s1∧s1<(qm.length:Int)) <|
    qh (0≤(ix qm s1)∧(ix qm s1)<(t.2.length:Int)) <|
    qh (0≤(ix t.2 (ix qm s1)).1∧(ix t.2 (ix qm s1)).1<(6:Int)∧6=s2.length) <|
    qh (0≤(ix t.2 (ix qm s1)).1∧(ix t.2 (ix qm s1)).1<(6:Int)∧6=s2.length) <|
    qh (0≤(ix qm s1)∧(ix qm s1)<(t.2.length:Int)) <|
    qh (0≤(ix t.2 (ix qm s1)).2∧(ix t.2 (ix qm s1)).2<(6:Int)∧6=(s2.set ((ix t.2 (ix qm s1)).1).toNat (w ((ix s2 ((ix t.2 (ix qm s1)).1))+(1:Int)))).length) <|
    qh (0≤(ix t.2 (ix qm s1)).2∧(ix t.2 (ix qm s1)).2<(6:Int)∧6=(s2.set ((ix t.2 (ix qm s1)).1).toNat (w ((ix s2 ((ix t.2 (ix qm s1)).1))+(1:Int)))).length) <|
    ME t qm qi m (w (s1+(1:Int))) ((s2.set ((ix t.2 (ix qm s1)).1).toNat (w ((ix s2 ((ix t.2 (ix qm s1)).1))+(1:Int)))).set ((ix t.2 (ix qm s1)).2).toNat (w ((ix (s2.set ((ix t.2 (ix qm s1)).1).toNat (w ((ix s2 ((ix t.2 (ix qm s1)).1))+(1:Int)))) ((ix t.2 (ix qm s1)).2))+(1:Int))))
   else
    qi s2
def K1 (x6:ql) (qT:ql→Option ql):Nat→ql→Int→Option ql
 | 0,_,_=>none
 | m+1,dj,GC =>
   if (decide (GC<(6:Int)))=true then
    qh (0≤GC∧GC<(6:Int)∧x6.length=6) <|
    qh ((2:Int)≠0) <|
    if (decide (((ix x6 GC).tmod (2:Int))=(1:Int)))=true then
     qh ((dj.length:Int)=(dj.length:Int)∧0≤(dj.length:Int)∧(dj.length:Int)≤(dj.length:Int)) <|
     qh (((dj.take (dj.length:Int).toNat).length+1)*8≤140737488355328) <|
     K1 x6 qT m ((dj.take (dj.length:Int).toNat)++[GC]) (w (GC+(1:Int)))
    else
     K1 x6 qT m dj (w (GC+(1:Int)))
   else
    qT dj
def LF (t:qk) (qm:ql):Option ql :=
 ME t qm (fun x6 =>
   qh (x6.length=6) <|
   qh (x6.length=6) <|
   if (decide (x6=[(0:Int),(0:Int),(0:Int),(0:Int),(0:Int),(0:Int)]))=true then
    some []
   else
    qh (x6.length=6) <|
    K1 x6 (fun ox =>
      some ox) qe ([]:List Int) (0:Int)) qe (0:Int) (List.replicate 6 (0:Int))
theorem amE {t:qk} {qm:ql} {qi:ql→Option ql} {s1:Int} {s2:ql} {v:ql} {Q:q8}   (rD:∀ (x6:ql) (p8:List I),qi x6=some v→qO 66 [(5,(.ptr 0 0))] p8→Q (.exit 0) p8 [au.cells (x6.map hY)]) {T:List I} (bZ:eX (ED false [0,1,4,1,5,3,52]) T=GI 66 [(0,(.bW [(hY t.1),(p9 t.2 .shared)])),(5,(.ptr 0 0)),(11,(qG qm .shared)),(12,(hY (qm.length:Int))),(13,(hY s1))]) (h:ME t qm qi qe s1 s2=some v) :
  dG Tryz.prog PC 76 0 none RH T [au.cells (s2.map hY)] Q:=by
 unfold RH;refine wp_loop bZ ?_;refine .intro (fun m T H=>∃ (s1:Int) (s2:ql),T=GI 66 [(0,(.bW [(hY t.1),(p9 t.2 .shared)])),(5,(.ptr 0 0)),(11,(qG qm .shared)),(12,(hY (qm.length:Int))),(13,(hY s1))]∧H=[au.cells (s2.map hY)]∧ME t qm qi m s1 s2=some v) qe ⟨s1,s2,rfl,rfl,h⟩ ?_;clear h bZ;rintro m T H ⟨s1,s2,rfl,rfl,h⟩;cases m
 ·exact q_ h
 rename_i m;rw [ME.eq_2] at h;conv=>whnf
 refine bs h (fun e0 h=>?_) fun e0 h=>?_
 ·rw [e0];conv=>whnf
  refine qw h id fun fs h=>?_;rw [rS hY qm s1 fs];conv=>whnf
  refine qw h id fun qp h=>?_;rw [qY p4 2 qy t.2 (ix qm s1) qp];conv=>whnf
  obtain ⟨qC,h⟩:=qF h;refine ⟨⟨qC.1,qC.2.1⟩,?_⟩;replace qC:0≤(ix t.2 (ix qm s1)).1∧(ix t.2 (ix qm s1)).1<(s2.length:Int):=⟨qC.1,by have:=qC.2;omega⟩;conv=>whnf
  refine O8 hY s2 ((ix t.2 (ix qm s1)).1) qC ?_;conv=>whnf
  obtain ⟨qH,h⟩:=qF h;refine ⟨⟨qH.1,qH.2.1⟩,?_⟩;replace qH:0≤(ix t.2 (ix qm s1)).1∧(ix t.2 (ix qm s1)).1<(s2.length:Int):=⟨qH.1,by have:=qH.2;omega⟩;conv=>whnf
  refine Pa hY s2 ((ix t.2 (ix qm s1)).1) (w ((ix s2 ((ix t.2 (ix qm s1)).1))+(1:Int))) qH ?_;conv=>whnf
  refine qw h id fun qW h=>?_;rw [qY p4 2 qy t.2 (ix qm s1) qW];conv=>whnf
  obtain ⟨qU,h⟩:=qF h;refine ⟨⟨qU.1,qU.2.1⟩,?_⟩;replace qU:0≤(ix t.2 (ix qm s1)).2∧(ix t.2 (ix qm s1)).2<((s2.set ((ix t.2 (ix qm s1)).1).toNat (w ((ix s2 ((ix t.2 (ix qm s1)).1))+(1:Int)))).length:Int):=⟨qU.1,by have:=qU.2;omega⟩;conv=>whnf
  refine O8 hY (s2.set ((ix t.2 (ix qm s1)).1).toNat (w ((ix s2 ((ix t.2 (ix qm s1)).1))+(1:Int)))) ((ix t.2 (ix qm s1)).2) qU ?_;conv=>whnf
  obtain ⟨qX,h⟩:=qF h;refine ⟨⟨qX.1,qX.2.1⟩,?_⟩;replace qX:0≤(ix t.2 (ix qm s1)).2∧(ix t.2 (ix qm s1)).2<((s2.set ((ix t.2 (ix qm s1)).1).toNat (w ((ix s2 ((ix t.2 (ix qm s1)).1))+(1:Int)))).length:Int):=⟨qX.1,by have:=qX.2;omega⟩;conv=>whnf
  refine Pa hY (s2.set ((ix t.2 (ix qm s1)).1).toNat (w ((ix s2 ((ix t.2 (ix qm s1)).1))+(1:Int)))) ((ix t.2 (ix qm s1)).2) (w ((ix (s2.set ((ix t.2 (ix qm s1)).1).toNat (w ((ix s2 ((ix t.2 (ix qm s1)).1))+(1:Int)))) ((ix t.2 (ix qm s1)).2))+(1:Int))) qX ?_;conv=>whnf
  exact ⟨m,sv m,(w (s1+(1:Int))),((s2.set ((ix t.2 (ix qm s1)).1).toNat (w ((ix s2 ((ix t.2 (ix qm s1)).1))+(1:Int)))).set ((ix t.2 (ix qm s1)).2).toNat (w ((ix (s2.set ((ix t.2 (ix qm s1)).1).toNat (w ((ix s2 ((ix t.2 (ix qm s1)).1))+(1:Int)))) ((ix t.2 (ix qm s1)).2))+(1:Int)))),rfl,rfl,h⟩
 ·rw [e0];conv=>whnf
  exact rD _ _ h ⟨rfl,rfl⟩
theorem amF {x6:ql} {qT:ql→Option ql} {dj:ql} {GC:Int} {v:ql} {Q:q8} {bD:au}  (HX:∀ (ox:ql) (p8:List I),qT ox=some v→qO 66 [(8,(qG ox (.uniq 1)))] p8→Q (.exit 2) p8 [bD]) {T:List I} (bZ:eX (ED false [8,1,38,2,17]) T=GI 66 [(8,(qG dj (.uniq 1))),(47,(.agg ((x6.map hY)))),(48,(hY GC))]) (h:K1 x6 qT qe dj GC=some v) :
  dG Tryz.prog PC 76 0 none RI T [bD] Q:=by
 unfold RI;refine wp_loop bZ ?_;refine .intro (fun m T H=>∃ (dj:ql) (GC:Int),T=GI 66 [(8,(qG dj (.uniq 1))),(47,(.agg ((x6.map hY)))),(48,(hY GC))]∧H=[bD]∧K1 x6 qT m dj GC=some v) qe ⟨dj,GC,rfl,rfl,h⟩ ?_;clear h bZ;rintro m T H ⟨dj,GC,rfl,rfl,h⟩;cases m
 ·exact q_ h
 rename_i m;rw [K1.eq_2] at h;conv=>whnf
 refine bs h (fun rb h=>?_) fun rb h=>?_
 ·rw [rb];conv=>whnf
  obtain ⟨rY,h⟩:=qF h;refine ⟨_,_,fun C=>air rfl (adk (e:=3) (len:=6) (kd:=.i64) (by kernel_rfl) (by kernel_rfl) (by kernel_rfl) (by kernel_rfl) rY.2.2 ⟨rY.1,rY.2.1⟩),?_⟩;conv=>whnf
  refine qw h id fun GY h=>?_;conv=>whnf
  refine bs h (fun sa h=>?_) fun sa h=>?_
  ·rw [sa];(conv=>whnf);refine qw h id fun G_ h=>?_;erw [ZP hY dj (dj.length:Int) G_.2];(conv=>whnf);obtain ⟨rT,h⟩:=qF h;refine ⟨by first | rfl | simp,by have:=rT;omega,by decide,rT,by first | rfl | simp,?_⟩
   erw [J_ hY (dj.take (dj.length:Int).toNat) GC];(conv=>whnf);exact ⟨m,sv m,((dj.take (dj.length:Int).toNat)++[GC]),(w (GC+(1:Int))),rfl,rfl,h⟩
  ·rw [sa];(conv=>whnf);exact ⟨m,sv m,dj,(w (GC+(1:Int))),rfl,rfl,h⟩
 ·rw [rb];conv=>whnf
  exact HX _ _ h ⟨rfl,rfl⟩
theorem Q_ {t:qk} {qm:ql} {v:ql} (h:LF t qm=some v):qD 76 [(.bW [(hY t.1),(.ay (t.2.flatMap p4) t.2.length .shared)]),(.ay (qm.map hY) qm.length .shared)] (.ay (v.map hY) v.length .shared):=by
 refine qZ dM ahW rfl (rO (fun _=>rfl) _ _ _) fun Q bo=>?_;have jG:qK [.tmp 4] Q (fun v=>(qG v .shared)) v:=fun T H bK=>bo _ T H bK;unfold LF at h;unfold ac3;obtain ⟨HD,qS⟩:∃ c,RH=c:=⟨_,rfl⟩;rw [qS];obtain ⟨Lc,sk⟩:∃ c,RI=c:=⟨_,rfl⟩;rw [sk];conv=>whnf
 subst qS;refine amE ?_ (by exact rfl) h;intro x6 p8 h qf;obtain ⟨qJ,rfl⟩:=qf.ex;conv=>whnf
 obtain ⟨ra,h⟩:=qF h;refine ⟨by simp [ra],?_⟩;rw [Yr hY x6 (fun _=>rfl) ra];conv=>whnf
 obtain ⟨qL,h⟩:=qF h;refine ⟨_,_,fun C=>aip rfl rfl (adj .i64 (e:=3) (len:=6) (kd:=.i64) (xs:=x6) (ys:=[(0:Int),(0:Int),(0:Int),(0:Int),(0:Int),(0:Int)]) (by kernel_rfl) (by kernel_rfl) (by kernel_rfl) (by kernel_rfl) qL rfl),?_⟩;conv=>whnf
 refine bs h (fun q9 h=>?_) fun q9 h=>?_
 ·rw [q9];conv=>whnf
  exact qc h jG rfl rfl
 ·rw [q9];conv=>whnf
  obtain ⟨rn,h⟩:=qF h;refine ⟨by simp [rn],?_⟩;rw [Yr hY x6 (fun _=>rfl) rn];conv=>whnf
  subst sk;refine amF ?_ (by exact rfl) h;intro ox p8 h qf;obtain ⟨qJ,rfl⟩:=qf.ex;conv=>whnf
  exact qc h jG rfl rfl

end Go.Proofs.YtfakoboiahbhaaaGreat.Ab


namespace Go.Proofs.YtfakoboiahbhaaaGreat.Ab
open Go
set_option maxRecDepth 20000
set_option maxHeartbeats 4000000
end Go.Proofs.YtfakoboiahbhaaaGreat.Ab


namespace Go.Proofs.YtfakoboiahbhaaaGreat.Ab
open Go
theorem aaK (n:Nat):(upto n).Pairwise (·<·):=by
 unfold upto;exact vd.2 (List.pairwise_lt_range.imp fun h=>Int.ofNat_lt.2 h)
section
variable {b t:qb}
def q3 (b:qb) (S:List Int):List Int:=(upto 6).filter fun f=>decide (qN b S f % 2=1)
theorem Lo {S:List Int} {f:Int}:f∈q3 b S↔(0≤f∧f<6)∧qN b S f % 2=1:=by
 unfold q3;rw [s_,Hq,decide_eq_true_eq];rfl
theorem Qj (S:List Int):(q3 b S).Pairwise (·<·):=(aaK 6).filter _
theorem aie {S S':List Int} (h:S.Perm S'):q3 b S=q3 b S':=by
 unfold q3;simp only [MY h]
theorem ae6 (e:Int×Int) (v:Int):H7 e v≤2:=by unfold H7;split <;> split <;> omega
theorem Xs (S:List Int) (v:Int):qN b S v≤2*S.length:=by
 induction S with
 | nil=>simp [KH]
 | cons i S bb=>rw [LS,sP];have:=ae6 (ix b.2 i) v;omega
def LN (S:List Int) (x:Int):List Int:=S.set x.toNat (w (ix S x+1))
theorem PG (S:List Int) (x:Int):(LN S x).length=S.length:=by simp [LN]
theorem Yn {S:List Int} {x f:Int} (al:0≤x∧x<(S.length:Int)) (aQ:0≤f∧f<(S.length:Int)) (ai:0≤ix S x∧ix S x≤100000):ix (LN S x) f=ix S f+if x=f then 1 else 0:=by
 obtain ⟨a,rfl⟩:∃ a:Nat,x=(a:Int):=⟨x.toNat,by omega⟩;obtain ⟨c,rfl⟩:∃ c:Nat,f=(c:Int):=⟨f.toNat,by omega⟩;unfold LN;rw [HF (by omega),tI];by_cases h:a=c
 ·subst h;rw [L8 (by omega),if_pos rfl]
 ·rw [KQ (Ne.symm h),if_neg (by omega),Int.add_zero]
structure KD (b:qb) (n:Nat) (HK S:List Int):Prop where
 len:S.length=n
 val:∀ f:Int,0≤f→f<(n:Int)→ix S f=(qN b HK f:Int)
theorem KD.step {n:Nat} {HK S:List Int} {i:Int} (h:KD b n HK S) (a1:HK.length≤1000) (ad:0≤(ix b.2 i).1∧(ix b.2 i).1<(n:Int)) (af:0≤(ix b.2 i).2∧(ix b.2 i).2<(n:Int)):KD b n (HK++[i]) (LN (LN S (ix b.2 i).1) (ix b.2 i).2):=by
 have ak:=h.len;have ed:=h.val _ ad.1 ad.2;have anx:=Xs (b:=b) HK (ix b.2 i).1;have dF:=h.val _ af.1 af.2;have anz:=Xs (b:=b) HK (ix b.2 i).2;refine ⟨by rw [PG,PG,ak],fun f M8 Cr=>?_⟩;have e1:∀ f:Int,0≤f→f<(n:Int)→ix (LN S (ix b.2 i).1) f=ix S f+if (ix b.2 i).1=f then 1 else 0:=fun f aB aH=>Yn ⟨ad.1,by omega⟩ ⟨aB,by omega⟩ ⟨by omega,by omega⟩;rw [Yn ⟨af.1,by rw [PG];omega⟩ ⟨M8,by rw [PG];omega⟩ (by rw [e1 _ af.1 af.2,dF];split <;> omega),e1 f M8 Cr,h.val f M8 Cr,MX,LS,KH];unfold H7;split <;> split <;> omega
theorem KD.zero (n:Nat):KD b n [] (List.replicate n 0):=⟨by simp,fun f ad af=>by rw [TG];rfl⟩
theorem abY (p7:qM t) {S:List Int} (cp:rL t S) (ak:S.length≤1000) {k:List Int→Option (List Int)}:∀ (m i:Nat) (z:Int) (C:List Int),z=i→i≤S.length→S.length-i<m→KD t 6 (S.take i) C →
  ∃ V4,KD t 6 S V4∧ME t S k m z C=k V4
 | 0,_,_,_,_,_,h,_=>absurd h (by omega)
 | m+1,i,_,C,rfl,hi,hm,HN=>by
   rw [ME];have bx:=HN.len;have bX:=p7.f6;by_cases h:(i:Int)<(S.length:Int)
   ·(have q':i<S.length:=by omega);have nx:=cp _ (sL q');have kB:=OK (l:=t.2) (i:=S[i]) ⟨nx.1,nx.2⟩;have ad:=p7.left _ kB;have af:=p7.right _ kB;have cM:=HN.step (i:=S[i]) (by simp;omega) ⟨ad.1,by omega⟩ ⟨af.1,by omega⟩;rw [←KY q'] at cM;rw [if_pos (decide_eq_true h),qx ⟨by omega,h⟩,rm q',qx nx,qx ⟨ad.1,by omega,bx.symm⟩,qx ⟨ad.1,by omega,bx.symm⟩,qx nx,qx ⟨af.1,by omega,by simp [bx]⟩,qx ⟨af.1,by omega,by simp [bx]⟩,r4 i (by omega)];exact abY p7 cp ak m (i+1) _ _ rfl (by omega) (by omega) cM
   ·rw [if_neg (by simpa using h)]
    have:i=S.length:=by omega
    subst this;rw [tE] at HN;exact ⟨C,HN,rfl⟩
theorem aay (n:Nat):((n:Int).tmod 2=1)↔n % 2=1:=by
 rw [Int.tmod_eq_emod_of_nonneg (by omega)];omega
theorem aaJ (q:Int→Bool) (i:Nat):(upto (i+1)).filter q=(upto i).filter q++if q (i:Int) then [(i:Int)] else []:=by
 rw [KZ,uy,tr,List.filter_nil]
theorem VR {S C:List Int} (HN:KD t 6 S C) {k:List Int→Option (List Int)}:∀ (m i:Nat) (z:Int),z=i→i≤6→6-i<m →
  K1 C k m ((upto i).filter fun f=>decide (qN t S f % 2=1)) z=k (q3 t S)
 | 0,_,_,_,_,h=>absurd h (by omega)
 | m+1,i,_,rfl,hi,hm=>by
   rw [K1];have ak:((upto i).filter fun f=>decide (qN t S f % 2=1)).length≤6:=sW (tO _ _) (by rw [se];exact hi);by_cases h:(i:Int)<6
   ·rw [if_pos (decide_eq_true h),qx ⟨by omega,h,HN.len⟩,qx (by decide),HN.val i (by omega) h];by_cases aq:qN t S (i:Int) % 2=1
    ·rw [if_pos (decide_eq_true ((aay _).2 aq)),qx ⟨rfl,by omega,by omega⟩,tI,tE,qx (by omega),r4 i (by omega)];have ai:=aaJ (fun f=>decide (qN t S f % 2=1)) i;rw [if_pos (decide_eq_true aq)] at ai;rw [←ai];exact VR HN m (i+1) _ rfl (by omega) (by omega)
    ·rw [if_neg (by simpa [aay] using aq),r4 i (by omega)];have ai:=aaJ (fun f=>decide (qN t S f % 2=1)) i;rw [if_neg (by simpa using aq),sU] at ai;rw [←ai];exact VR HN m (i+1) _ rfl (by omega) (by omega)
   ·rw [if_neg (by simpa using h)]
    have:i=6:=by omega
    subst this;rfl
theorem VQ (p7:qM t) {S:List Int} (cp:rL t S) (ak:S.length≤1000):LF t S=some (q3 t S):=by
 rw [LF]
 obtain ⟨C,HN,aj⟩:=abY p7 cp ak (k:=fun x6 =>
   qh (x6.length=6) <|
   qh (x6.length=6) <|
   if (decide (x6=[(0:Int),(0:Int),(0:Int),(0:Int),(0:Int),(0:Int)]))=true then
    some []
   else
    qh (x6.length=6) <|
    K1 x6 (fun ox =>
      some ox) qe ([]:List Int) (0:Int)) qe 0 0 _ rfl (by omega) (rR (by omega)) (by rw [tu];exact KD.zero 6)
 rw [aj,qx HN.len,qx HN.len];split
 ·rename_i h;have h:=of_decide_eq_true h;congr 1
  symm
  refine List.filter_eq_nil_iff.2 fun f aQ=>?_;have aQ:=Hq.1 aQ;have ae:=HN.val f aQ.1 aQ.2;have e:C=List.replicate 6 (0:Int):=h;rw [e,TG] at ae
  have:qN t S f=0:=by omega
  simp [this]
 ·rw [qx HN.len];exact VR HN qe 0 0 rfl (by omega) (rR (by omega))
theorem abZ (ag:t.2.length≤1000) {k:List Int→Option (List Int)}:∀ (m i:Nat) (z:Int),z=i→i≤t.2.length→t.2.length-i<m→MF t k m (upto i) z=k (upto t.2.length)
 | 0,_,_,_,_,h=>absurd h (by omega)
 | m+1,i,_,rfl,hi,hm=>by
   rw [MF];by_cases h:(i:Int)<(t.2.length:Int)
   ·rw [if_pos (decide_eq_true h),qx (by rw [se];omega),r4 i (by omega),←KZ];exact abZ ag m (i+1) _ rfl (by omega) (by omega)
   ·rw [if_neg (by simpa using h),show i=t.2.length by omega]
theorem VS (ag:t.2.length≤1000):NW t=some (upto t.2.length):=abZ ag qe 0 0 rfl (by omega) (rR (by omega))
def q6 (b:qb):List Int:=q3 b (upto b.2.length)
end
end Go.Proofs.YtfakoboiahbhaaaGreat.Ab


namespace Go.Proofs.YtfakoboiahbhaaaGreat.Ab
open Go
theorem QU {α:Type} [BEq α] [LawfulBEq α]:∀ (a b:List α),a.Nodup→(∀ x∈a,x∈b)→a.length≤b.length
 | [],_,_,_=>sK _
 | x::a,b,aN,h=>by
   obtain ⟨ad,af⟩:=uA.1 aN;have al:=h x (by simp);have:=QU a (b.erase x) af fun y a2=>by
    have bO:y≠x:=fun e=>ad (e ▸ a2);exact (List.mem_erase_of_ne bO).2 (h y (by simp [a2]))
   rw [List.length_erase_of_mem al] at this;have:=List.length_pos_of_mem al;simp only [sP];omega
section
variable {b t:qb}
structure RowsOf (b:qb) (S:List Int) (R:List Row):Prop where
 ok:∀ r∈R,∀ p∈r,HI b p
 go:∀ r∈R,∃ a c,qV b a r=some c
 all:((R.flatten).map (·.1)).Perm S
theorem RowsOf.app {S S':List Int} {R JH:List Row} (h:RowsOf b S R) (aY:RowsOf b S' JH):RowsOf b (S++S') (R++JH):=by
 refine ⟨fun r aj=>?_,fun r aj=>?_,?_⟩
 ·rcases te.1 aj with aj | aj
  ·exact h.ok r aj
  ·exact aY.ok r aj
 ·rcases te.1 aj with aj | aj
  ·exact h.go r aj
  ·exact aY.go r aj
 ·rw [vl,ti];exact h.all.append aY.all
theorem RowsOf.nil:RowsOf b [] []:=⟨fun r aj=>absurd aj (by simp),fun r aj=>absurd aj (by simp),by simp⟩
def Oi (b:qb):Row→List Int
 | []=>[]
 | p::r=>[qP b p,(qV b (qP b p) (p::r)).getD 0]
theorem afc {r:Row} {a c v:Int} (h:qV b a r=some c) (aq:qN b (r.map (·.1)) v % 2=1):v∈Oi b r:=by
 cases r with
 | nil=>simp [KH] at aq
 | cons p r =>
   have ag:=(I0.1 h).1;have aC:=O9 _ _ _ v h;show v∈[qP b p,(qV b (qP b p) (p::r)).getD 0];rw [ag,h];simp only [Option.getD_some,sH,List.not_mem_nil,or_false];by_cases ad:a=v
   ·exact .inl ad.symm
   ·by_cases af:c=v
    ·exact .inr af.symm
    ·rw [if_neg ad,if_neg af] at aC;omega
theorem Xr (v:Int):∀ (R:List Row),qN b ((R.flatten).map (·.1)) v % 2=1→∃ r∈R,qN b (r.map (·.1)) v % 2=1
 | [],h=>by simp [KH] at h
 | r::R,h=>by
   rw [tG,ti,MX] at h;by_cases ad:qN b (r.map (·.1)) v % 2=1
   ·exact ⟨r,by simp,ad⟩
   ·obtain ⟨q,a5,af⟩:=Xr v R (by omega);exact ⟨q,by simp [a5],af⟩
theorem Xv:∀ (R:List Row),(R.flatMap (Oi b)).length≤2*(R.filter fun r=>!r.isEmpty).length
 | []=>by simp
 | r::R=>by
   have bb:=Xv R;rw [uo,sA,tr];cases r with
   | nil=>simpa [Oi] using bb
   | cons p r =>
     rw [if_pos (by simp)];simp only [Oi,sP,uU] at *;omega
theorem RowsOf.Kb {S:List Int} {R:List Row} (h:RowsOf b S R):(q3 b S).length≤2*(R.filter fun r=>!r.isEmpty).length:=by
 refine sW (QU _ (R.flatMap (Oi b)) ((Qj S).imp fun h e=>by omega) fun v ae=>?_) (Xv R);have ae:=(Lo.1 ae).2;rw [←MY h.all] at ae;obtain ⟨r,aj,ad⟩:=Xr v R ae;obtain ⟨a,c,Hp⟩:=h.go r aj;exact List.mem_flatMap.2 ⟨r,aj,afc Hp ad⟩
def Jc (l:List (Int×Int)) (v:Int):Nat:=(l.map fun e=>H7 e v).sum
theorem ae9 (e:Int×Int) (l:List (Int×Int)) (v:Int):Jc (e::l) v=H7 e v+Jc l v:=by simp [Jc]
theorem ae8 (l l':List (Int×Int)) (v:Int):Jc (l++l') v=Jc l v+Jc l' v:=by simp [Jc]
theorem Sz (S:List Int) (v:Int):qN b S v=Jc (S.map (ix b.2)) v:=by
 unfold qN Jc;rw [uD];rfl
theorem YJ {α:Type} [Inhabited α] (l:List α):(upto l.length).map (ix l)=l:=by
 refine List.ext_getElem (by simp [se]) fun i ad af=>?_;simp only [upto,vi,List.getElem_range];exact rm af
theorem Xq (v:Int):qN b (upto b.2.length) v=Jc b.2 v:=by rw [Sz,YJ]
def Hz:List Int→List (Int×Int)
 | x::y::r=>(x,y)::Hz r
 | _=>[]
theorem aaw:∀ (l:List Int),(Hz l).length=l.length / 2
 | []=>rfl
 | [_]=>by simp [Hz]
 | x::y::r=>by simp only [Hz,sP,aaw r];omega
theorem aav:∀ (l:List Int) (v:Int),l.Nodup→l.length % 2=0→Jc (Hz l) v=if v∈l then 1 else 0
 | [],v,_,_=>by simp [Hz,Jc]
 | [_],_,_,h=>by simp at h
 | x::y::r,v,aN,h=>by
   obtain ⟨ad,af⟩:=uA.1 aN;obtain ⟨aG,a8⟩:=uA.1 af;have bb:=aav r v a8 (by simp only [sP] at h;omega);rw [Hz,ae9,bb];unfold H7;have IH:x≠y:=fun e=>ad (by simp [e]);by_cases e1:v=x
   ·subst e1
    have:v ∉ r:=fun hm=>ad (by simp [hm])
    simp [this,Ne.symm IH]
   ·by_cases cm:v=y
    ·subst cm;simp [aG,IH]
    ·simp [e1,cm,Ne.symm e1,Ne.symm cm]
theorem aax:∀ (l:List Int) (e:Int×Int),e∈Hz l→e.1∈l∧e.2∈l
 | [],e,h=>by simp [Hz] at h
 | [_],e,h=>by simp [Hz] at h
 | x::y::r,e,h=>by
   rw [Hz] at h;rcases sH.1 h with rfl | h
   ·simp
   ·have:=aax r e h;exact ⟨by simp [this.1],by simp [this.2]⟩
theorem ZX:∀ (n:Nat) (S:List Int),(∀ i∈S,0≤(ix b.2 i).1∧(ix b.2 i).1<(n:Int)∧0≤(ix b.2 i).2∧(ix b.2 i).2<(n:Int))→((upto n).map fun v=>qN b S v).sum=2*S.length:=by
 have one:∀ (x:Int) (n:Nat),((upto n).map fun v=>if x=v then 1 else 0).sum=if 0≤x∧x<(n:Int) then 1 else 0:=by
  intro x n
  induction n with
  | zero=>rw [if_neg (by omega)];rfl
  | succ n bb =>
    rw [KZ,ti,v3,bb];simp only [sy,tA,tn,List.sum_nil];split <;> split <;> split <;> omega
 have add:∀ (l:List Int) (f g:Int→Nat),(l.map fun v=>f v+g v).sum=(l.map f).sum+(l.map g).sum:=by
  intro l f g
  induction l with
  | nil=>rfl
  | cons x l bb=>simp only [sy,tn,bb];omega
 intro n S h
 induction S with
 | nil =>
   have:∀ l:List Int,(l.map fun v=>qN b [] v).sum=0:=fun l=>by
    induction l with
    | nil=>rfl
    | cons x l bb=>rw [sy,tn,bb,KH]
   exact this _
 | cons i S bb =>
   have hi:=h i (by simp);simp only [LS];rw [add,bb fun j aw=>h j (by simp [aw])];unfold H7;rw [add,one,one,if_pos ⟨hi.1,hi.2.1⟩,if_pos ⟨hi.2.2.1,hi.2.2.2⟩,sP];omega
theorem Ma (p7:qM b) {S:List Int} (cp:rL b S):(q3 b S).length % 2=0:=by
 have bX:=p7.f6;have ai:=ZX (b:=b) 6 S fun i hi=>by
  have hm:=OK (l:=b.2) (i:=i) (cp i hi);have ad:=p7.left _ hm;have af:=p7.right _ hm;exact ⟨ad.1,by omega,af.1,by omega⟩
 have key:∀ l:List Int,(l.filter fun f=>decide (qN b S f % 2=1)).length % 2=(l.map fun v=>qN b S v).sum % 2:=by
  intro l
  induction l with
  | nil=>rfl
  | cons x l bb =>
    rw [tr,sy,tn];split
    ·rename_i h;have h:=of_decide_eq_true h;rw [sP];omega
    ·rename_i h;(have h:¬ qN b S x % 2=1:=by simpa using h);omega
 unfold q3;rw [key,ai];omega
def sm (b:qb) (S:List Int):qb:=(b.1,S.map (ix b.2)++Hz (q3 b S))
theorem NB (S:List Int):(sm b S).2.length=S.length+(q3 b S).length / 2:=by
 unfold sm;simp [aaw]
theorem O' {S:List Int} {i:Nat} (h:i<S.length):ix (sm b S).2 (i:Int)=ix b.2 S[i]:=by
 have aG:i<(S.map (ix b.2)++Hz (q3 b S)).length:=by simp;omega
 show ix (S.map (ix b.2)++Hz (q3 b S)) (i:Int)=_;rw [rm aG,wG (by simpa using h),vi]
theorem akC {S:List Int} {i:Nat} (h:S.length≤i) (af:i<(sm b S).2.length):ix (sm b S).2 (i:Int)∈Hz (q3 b S):=by
 have aG:i<(S.map (ix b.2)++Hz (q3 b S)).length:=af;show ix (S.map (ix b.2)++Hz (q3 b S)) (i:Int)∈_;rw [rm aG,wH (by simpa using h)];exact sL _
theorem akB (p7:qM b) {S:List Int} (cp:rL b S) (v:Int):qN (sm b S) (upto (sm b S).2.length) v % 2=0:=by
 rw [Xq];show Jc (S.map (ix b.2)++Hz (q3 b S)) v % 2=0;rw [ae8,←Sz,aav _ _ ((Qj S).imp fun h e=>by omega) (Ma p7 cp)];split
 ·rename_i h;have:=(Lo.1 h).2;omega
 ·rename_i h;have bX:=p7.f6;refine Classical.byContradiction fun aN=>h (Lo.2 ⟨?_,by omega⟩)
  have:qN b S v≠0:=fun e=>by rw [e] at aN;exact aN rfl
  refine Classical.byContradiction fun ae=>this (MZ.2 fun i hi kB=>?_);have:=PI p7 (Hq.2 (cp i hi)) kB;omega
theorem aag {S:List Int} {f g:Int} (h:rV b S f g):rV (sm b S) (upto (sm b S).2.length) f g:=by
 induction h with
 | refl=>exact .refl
 | step i _ hi aB aH bb =>
   obtain ⟨k,av,e⟩:=uG hi;have ak:=NB (b:=b) S;refine .step (k:Int) bb (Hq.2 ⟨by omega,by omega⟩) ?_ ?_
   ·unfold re at aB ⊢;rw [O' av,e];exact aB
   ·unfold re at aH ⊢;rw [O' av,e];exact aH
theorem round_part (p7:qM b) {S:List Int} (cp:rL b S) (ak:S.length≤990) (aS:S≠[]) (ao:∀ x∈S,∀ y∈S,∀ f g,re b x f→re b y g→rV b S f g) :
  ∃ l a,Mf (sm b S)=some l∧Full (sm b S) l∧qV (sm b S) a l=some a:=by
 have hlen:=NB (b:=b) S;have P9:0<S.length:=tT.2 aS;have aq:(q3 b S).length≤6:=sW (tO _ _) (by rw [se];omega);have fY:ix (sm b S).2 0=ix b.2 S[0]:=O' (i:=0) P9;obtain ⟨l,ad,af,aG⟩:=alv (t:=sm b S) (akB p7 cp) (by omega) (by omega) fun i hi=>by
  by_cases X_:i<S.length
  ·refine ⟨(ix b.2 S[i]).1,.inl (by rw [O' X_]),?_⟩;rw [fY];exact aag (ao _ (sL _) _ (sL X_) _ _ (.inl rfl) (.inl rfl))
  ·have hm:=akC (b:=b) (S:=S) (by omega) hi;refine ⟨(ix (sm b S).2 (i:Int)).1,.inl rfl,?_⟩;have Ih:=(Lo.1 (aax _ _ hm).1).2
   have:¬ ∀ x∈S,¬ re b x (ix (sm b S).2 (i:Int)).1:=fun aN=>by
    rw [MZ.2 aN] at Ih;simp at Ih
   have:∃ x∈S,re b x (ix (sm b S).2 (i:Int)).1:=Classical.byContradiction fun aN=>this fun x al aQ=>aN ⟨x,al,aQ⟩
   obtain ⟨x,al,aQ⟩:=this;rw [fY];exact aag (ao _ (sL P9) x al _ _ (.inl rfl) aQ)
 exact ⟨l,_,ad,af,aG⟩
theorem rz.aeX {S:List Int} {out:List (List Int)} (h:rz b S out) {r:List Int} (aj:r∈out):∀ x∈r,∀ y∈r,∀ f g,re b x f→re b y g→rV b r f g:=by
 intro x al y a2 f g aQ aO;have ao:=h.Jb r aj x al y a2 f g aQ aO;clear aO
 induction ao with
 | refl=>exact .refl
 | step i Cs hi aB aH bb=>exact .step i bb (h.closed aj al aQ Cs i hi aB) aB aH
end
end Go.Proofs.YtfakoboiahbhaaaGreat.Ab


namespace Go.Proofs.YtfakoboiahbhaaaGreat.Ab
open Go
def sh (S:List Int):Row→Row→List Row
 | own,[]=>if 0<own.length then [own] else []
 | own,p::r=>if p.1<(S.length:Int) then sh S (own++[(ix S p.1,p.2)]) r else own::sh S [] r
section
variable {b:qb} {S:List Int}
theorem ZU:∀ (m l:Row) (own:Row),(∀ p∈m,p.1<(S.length:Int))→sh S own (m++l)=sh S (own++m.map fun p=>(ix S p.1,p.2)) l
 | [],l,own,_=>by simp
 | p::m,l,own,h=>by
   rw [vg,sh,if_pos (h p (by simp)),ZU m l _ fun q a5=>h q (by simp [a5])];simp
theorem aer {p:Int×Int} (ad:0≤p.1) (af:p.1<(S.length:Int)):qP (sm b S) p=qP b (ix S p.1,p.2)∧fin (sm b S) p=fin b (ix S p.1,p.2):=by
 obtain ⟨i,hi⟩:∃ i:Nat,p.1=(i:Int):=⟨p.1.toNat,by omega⟩;unfold qP fin;rw [hi,O' (by omega),rm (by omega)];exact ⟨rfl,rfl⟩
theorem QS (cp:rL b S):∀ (l own:Row),(∀ p∈own,HI b p)→(∀ p∈l,HI (sm b S) p)→∀ r∈sh S own l,∀ p∈r,HI b p
 | [],own,ad,_=>by
   rw [sh];split
   ·intro r aj;rw [sQ.1 aj];exact ad
   ·intro r aj;simp at aj
 | q::l,own,ad,af=>by
   rw [sh];have a5:=af q (by simp);split
   ·rename_i aU;refine QS cp l _ (fun p aC=>?_) fun p aC=>af p (by simp [aC]);rcases te.1 aC with aC | aC
    ·exact ad p aC
    ·rw [sQ.1 aC];have hm:ix S q.1∈S:=by
      obtain ⟨i,hi⟩:∃ i:Nat,q.1=(i:Int):=⟨q.1.toNat,by have:=a5.1;omega⟩;rw [hi,rm (by omega)];exact sL _
     exact ⟨(cp _ hm).1,(cp _ hm).2,a5.2.2.1,a5.2.2.2⟩
   ·intro r aj;rcases sH.1 aj with rfl | aj
    ·exact ad
    ·exact QS cp l [] (fun p aC=>absurd aC (by simp)) (fun p aC=>af p (by simp [aC])) r aj
theorem QR:∀ (l own:Row) (jw a e:Int),qV b jw own=some a→qV (sm b S) a l=some e→(∀ p∈l,HI (sm b S) p)→∀ r∈sh S own l,∃ a c,qV b a r=some c
 | [],own,jw,a,e,ad,_,_=>by
   rw [sh];split
   ·intro r aj;rw [sQ.1 aj];exact ⟨_,_,ad⟩
   ·intro r aj;simp at aj
 | q::l,own,jw,a,e,ad,af,aG=>by
   rw [sh];obtain ⟨cd,b_⟩:=I0.1 af;have a5:=aG q (by simp);split
   ·rename_i aU;obtain ⟨br,cL⟩:=aer (b:=b) a5.1 aU;refine QR l _ jw (fin (sm b S) q) e ?_ b_ fun p aC=>aG p (by simp [aC]);rw [JE,ad,sq];exact Ks.2 ⟨by rw [←br];exact cd,cL.symm⟩
   ·intro r aj;rcases sH.1 aj with rfl | aj
    ·exact ⟨_,_,ad⟩
    ·exact QR l [] _ _ e rfl b_ (fun p aC=>aG p (by simp [aC])) r aj
def G2 (S:List Int) (p:Int×Int):Bool:=decide (p.1<(S.length:Int))
theorem QQ:∀ (l own:Row),(sh S own l).flatten.map (·.1)=own.map (·.1)++(l.filter (G2 S)).map fun p=>ix S p.1
 | [],own=>by
   rw [sh];split
   ·simp
   ·have:own=[]:=tt.1 (by omega)
    simp [this]
 | q::l,own=>by
   rw [sh,tr];split
   ·rename_i h;have aY:G2 S q=true:=decide_eq_true h;rw [QQ l,if_pos aY];simp
   ·rename_i h;(have aY:¬ G2 S q=true:=by simpa [G2] using h);rw [tG,ti,QQ l,if_neg aY];simp
theorem Vl {q:Int×Int} (a5:G2 S q=false):∀ (m own:Row),(sh S own (m++[q])).length=(m.filter fun p=>!G2 S p).length+1
 | [],own=>by
   have:¬ q.1<(S.length:Int):=by simpa [G2] using a5
   rw [ur,sh,if_neg this];simp [sh]
 | p::m,own=>by
   rw [vg,sh,tr];split
   ·rename_i h;have aY:G2 S p=true:=decide_eq_true h;rw [Vl a5 m,aY];simp
   ·rename_i h;(have aY:G2 S p=false:=by simpa [G2] using h);rw [sP,Vl a5 m,aY];simp
theorem TW {α:Type} (p:α→Bool):∀ (l:List α) (i:Nat),(posOf p l i=-1∧∀ x∈l,p x=false)∨∃ dO q kS,l=dO++q::kS∧p q=true∧posOf p l i=((i+dO.length:Nat):Int)
 | [],i=>.inl ⟨rfl,fun x al=>by simp at al⟩
 | x::l,i=>by
   rw [posOf];by_cases h:p x=true
   ·rw [if_pos h];exact .inr ⟨[],x,l,rfl,h,rfl⟩
   ·rw [if_neg h];rcases TW p l (i+1) with ⟨ad,af⟩ | ⟨dO,q,kS,rfl,af,aG⟩
    ·refine .inl ⟨ad,fun y a2=>?_⟩;rcases sH.1 a2 with rfl | a2
     ·simpa using h
     ·exact af y a2
    ·refine .inr ⟨x::dO,q,kS,rfl,af,?_⟩;rw [aG,sP];congr 1;omega
theorem Full.perm {t:qb} {l l':Row} (h:Full t l) (aC:l'.Perm l):Full t l' :=
 ⟨fun p P7=>h.ok p (aC.mem_iff.1 P7),(aC.map _).nodup_iff.2 h.GQ,fun i hi=>(aC.map (·.1)).mem_iff.2 (h.all i hi)⟩
theorem Full.upto {t:qb} {l:Row} (h:Full t l):(l.map (·.1)).Perm (upto t.2.length):=by
 refine (uO h.GQ (IJ _)).2 fun x=>?_;rw [Hq];constructor
 ·intro al;obtain ⟨p,aC,rfl⟩:=sJ.1 al;have:=h.ok p aC;exact ⟨this.1,this.2.1⟩
 ·rintro ⟨ad,af⟩;obtain ⟨i,rfl⟩:∃ i:Nat,x=(i:Int):=⟨x.toNat,by omega⟩;exact h.all i (by omega)
theorem Full.own {l:Row} (h:Full (sm b S) l):((l.filter (G2 S)).map fun p=>ix S p.1).Perm S:=by
 have ad:((l.filter (G2 S)).map (·.1)).Perm (Ab.upto S.length):=by
  refine (uO ((List.filter_sublist.map _).nodup h.GQ) (IJ _)).2 fun x=>?_;rw [Hq,sJ];constructor
  ·rintro ⟨p,aC,rfl⟩;rw [s_] at aC;exact ⟨(h.ok p aC.1).1,by simpa [G2] using aC.2⟩
  ·rintro ⟨ad,af⟩;have hm:x∈l.map (·.1):=h.upto.mem_iff.2 (Hq.2 ⟨ad,by rw [NB];omega⟩);obtain ⟨p,aC,rfl⟩:=sJ.1 hm;exact ⟨p,s_.2 ⟨aC,decide_eq_true af⟩,rfl⟩
 have af:=ad.map (ix S);rw [YJ,uD] at af;exact af
theorem XC {α:Type} (q:α→Bool):∀ l:List α,l.length=(l.filter q).length+(l.filter fun x=>!q x).length
 | []=>rfl
 | x::l=>by
   rw [tr,tr,sP,XC q l];cases q x <;> simp <;> omega
theorem Full.threads {l:Row} (h:Full (sm b S) l):(l.filter fun p=>!G2 S p).length=(q3 b S).length / 2:=by
 have ad:=h.upto.length_eq;have af:=h.own.length_eq;rw [tj] at ad af;rw [se,NB] at ad;have aG:=XC (G2 S) l;omega
def Kr (S:List Int) (l:Row):Row:=let c:=posOf (fun p=>!G2 S p) l 0;if 0≤c then l.drop (c+1).toNat++l.take (c+1).toNat else l
theorem ajP (l:Row):(Kr S l=l∧∀ p∈l,G2 S p=true)∨∃ dO q kS,l=dO++q::kS∧G2 S q=false∧Kr S l=(kS++dO)++[q]:=by
 unfold Kr;rcases TW (fun p=>!G2 S p) l 0 with ⟨ad,af⟩ | ⟨dO,q,kS,rfl,af,aG⟩
 ·left;rw [ad];exact ⟨rfl,fun p aC=>by simpa using af p aC⟩
 ·right;refine ⟨dO,q,kS,rfl,by simpa using af,?_⟩;rw [aG];simp only [tc];rw [if_pos (by omega),show ((dO.length:Int)+1).toNat=dO.length+1 by omega];have e:dO++q::kS=(dO++[q])++kS:=by simp
  rw [e,List.drop_left' (by simp),List.take_left' (by simp),sD]
structure V8 (b:qb) (S:List Int) (R:List Row):Prop extends RowsOf b S R where
 ne:∀ r∈R,r≠[]
 len:R.length=max 1 ((q3 b S).length / 2)
theorem Y4 (p7:qM b) (cp:rL b S) (aS:S≠[]) {l:Row} {a:Int} (bE:Full (sm b S) l) (aO:qV (sm b S) a l=some a):V8 b S (sh S [] (Kr S l)):=by
 have P9:0<S.length:=tT.2 aS;have Tz:=bE.threads;have l1:=Ma p7 cp;rcases ajP (S:=S) l with ⟨ad,af⟩ | ⟨dO,q,kS,rfl,af,aG⟩
 ·rw [ad];have jG:RowsOf b S (sh S [] l):=⟨QS cp l [] (fun p aC=>absurd aC (by simp)) bE.ok,QR l [] a a a rfl aO bE.ok,by rw [QQ];simpa using bE.own⟩;have e:(l.filter fun p=>!G2 S p)=[]:=List.filter_eq_nil_iff.2 fun p aC=>by simp [af p aC]
  rw [e] at Tz;simp only [uU] at Tz;have ak:0<l.length:=by
   have:=bE.upto.length_eq;rw [tj,se,NB] at this;omega
  have ai:sh S [] l=[l.map fun p=>(ix S p.1,p.2)]:=by
   have:=ZU (S:=S) l [] [] fun p aC=>of_decide_eq_true (af p aC);rw [sU,ur] at this;rw [this,sh,if_pos (by simpa using ak)]
  refine ⟨jG,fun r aj=>?_,?_⟩
  ·rw [ai] at aj;rw [sQ.1 aj];intro e;have:=congrArg List.length e;simp at this;rw [this] at ak;simp at ak
  ·rw [ai,←Tz];rfl
 ·rw [aG];have Ji:(kS++dO++[q]).Perm (dO++q::kS):=by
   rw [show dO++q::kS=(dO++[q])++kS by simp,sD];exact wK
  have PU:=bE.perm Ji;have Tr:∃ aM,qV (sm b S) aM (kS++dO++[q])=some aM:=by
   rw [show dO++q::kS=(dO++[q])++kS by simp,JE] at aO;obtain ⟨c,cd,b_⟩:=qj aO;refine ⟨c,?_⟩;rw [sD,JE,b_];exact cd
  obtain ⟨aM,Tr⟩:=Tr;have jG:RowsOf b S (sh S [] (kS++dO++[q])):=⟨QS cp _ [] (fun p aC=>absurd aC (by simp)) PU.ok,QR _ [] aM aM aM rfl Tr PU.ok,by rw [QQ];simpa using PU.own⟩;have agF:=PU.threads;rw [uy,sA] at agF;have agw:([q].filter fun p=>!G2 S p).length=1:=by simp [af]
  have hlen:=Vl af (kS++dO) [];have OE:=jG.Kb;have hle:=tO (fun r:Row=>!r.isEmpty) (sh S [] (kS++dO++[q]));refine ⟨jG,fun r aj=>?_,by omega⟩;have heq:((sh S [] (kS++dO++[q])).filter fun r=>!r.isEmpty).length=(sh S [] (kS++dO++[q])).length:=by omega
  have:=List.length_filter_eq_length_iff.1 heq r aj;intro e;rw [e] at this;simp at this
end
end Go.Proofs.YtfakoboiahbhaaaGreat.Ab


namespace Go.Proofs.YtfakoboiahbhaaaGreat.Ab
open Go
set_option maxRecDepth 20000
set_option maxHeartbeats 4000000
theorem Rel.TL {J:List Nat} {S:Nat→Nat→Prop} {w:World} {cells:List I} {v:Value} (h:Rel J S w (.bW cells) v):Rel J S w (.bW (cells.map I.g0)) v:=by
 cases h with
 | bW _ b o f k eS =>
   refine .bW _ b o f (fun j u aw=>?_) (fun j u aw=>?_)
   ·rw [sN] at aw;simp only [sr] at aw;obtain ⟨x,al,rfl⟩:=aw;obtain ⟨aB,aH,aR,bm⟩:=k j x al;exact ⟨aB,aH,ym aR,bm⟩
   ·rw [sN] at aw;simp only [sr] at aw;obtain ⟨x,al,rfl⟩:=aw;exact (eS j x al).g0
theorem lv.TL {P:Program} {k:FuncId} {cs:List I} {v:I} (h:lv P k [.bW (cs.map I.g0)] v):lv P k [.bW cs] v :=
 ⟨⟨h.1.1,h.1.2.1,fun B U J S w vs ah aN ae=>h.1.2.2 B U J S w vs ah aN ⟨by simpa using ae.len,fun i u x hu al=>by
   cases i with
   | zero =>
     obtain rfl:=Option.some.inj hu;exact (ae.rel 0 _ x rfl al).TL
   | succ i=>simp at hu,fun i u x hu al=>by
   cases i with
   | zero=>obtain rfl:=Option.some.inj hu;exact aW.b5 rfl
   | succ i=>simp at hu⟩⟩,h.2⟩
theorem call7 {P:Program} {k:FuncId} {H:List au} {lo id:Nat} {l cs:List I} {v:I} (bG:lo≤id) (ah:H[id]?=some (.cells l)) (ao:l.map I.view=cs) (aC:ct 8 (.bW cs)=true) {ds:List I} (a1:cs.map I.g0=ds) (h:lv P k [.bW ds] v):oz P 7 lo (.fn k) [.ptr id 0] H v.cu (H.set id .dead):=by
 have h:lv P k [.bW cs] v:=lv.TL (by rw [a1];exact h);refine ⟨_,D6 (ZI (by simp [aC]) h []),?_⟩;simp only [eZ,bG,if_true,ah,ao,aC];show ((kZ (.fn k) [.bW cs] [] 0 v []) (.fn k) [.bW cs] [] 0).bind _=_;rw [D5,sq];show (bL [] 0 0 0 8 v).map _=_;rw [o0 h.2];rfl
theorem afy:((List.range 24).all fun n=>match QJ [] 129 [.ay [] 0 .full,.int .i64 ((n+1:Nat):Int)] with | some v=>IQ 3 v (.ay [] 0 (.own 2)) | none=>false)=true:=by kernel_rfl
def VF (s:List (Int×Int)) (n:Int):Option (List (Int×Int)):=qh (s=[]∧0<n∧n≤24) (some s)
theorem alJ {s v:List (Int×Int)} {n:Int} (h:VF s n=some v):qD 129 [.ay [] 0 .full,hY n] (.ay (v.flatMap p4) v.length (.own 2)):=by
 obtain ⟨⟨rfl,aS,ad⟩,h⟩:=qF h;obtain rfl:=Option.some.inj h;obtain ⟨k,rfl⟩:∃ k:Nat,n=((k+1:Nat):Int):=⟨n.toNat-1,by omega⟩;have:=sS.1 afy k (sX.2 (by omega));split at this
 ·rename_i v ae;rw [MU _ _ _ this] at ae;exact G5 (l:=[]) (by simp) ae
 ·cases this

noncomputable def acj:eE :=
 GD [gV 2 [.hP 0] .box,gV 3 [.iK (.bool false)] .i_] (GD [F_ 4 2 0,Gq 5 4,Gq 6 1,Gp 7 6,F5 8 5 7 .geq,Gt 3 8] .ret)
theorem ahe:zm Tryz.prog Wk 105=some (acj,9,[.tmp 3]):=by kernel_rfl
def Pc (p:(Int×Int)) (c0:ql):Option Bool :=
 some (decide ((c0.length:Int)≤p.1))
theorem VB {p:(Int×Int)} {c0:ql} {v:Bool} (h:Pc p c0=some v):qD 105 [(.agg [(hY p.1),(hY p.2)]),(.bW [(.ay (c0.map hY) c0.length .shared)])] (B v):=by
 refine qZ dM ahe rfl rfl fun Q bo=>?_;have jG:qK [.tmp 3] Q (fun v=>(B v)) v:=fun T H bK=>bo _ T H bK;unfold Pc at h;unfold acj;conv=>whnf
 exact qc h jG rfl rfl

noncomputable def Rm:eE :=
 .loop (some (ED false [0, 1, 2, 1, 5, 3, 24])) (GD [gV 12 [.sl 11, .sl 10] (.bin .lss)] (.seq (.cond (.sl 12) .skip (.exit 0)) (.seq (.block 1 (GD [gV 13 [.sl 9, .sl 11] (.pV 1), Gq 14 13, Gt 5 14] (GD [Gt 15 3, Gt 16 5, Gp 17 16, F5 18 15 17 .add, Gt 3 18] (GD [Gs 19 3, F4 20 19 0 .lss] (.cond (.sl 20) (Gw [gV 21 [.iK (.str (ByteArray.mk (Array.mk [108, 101, 110, 32, 111, 117, 116, 32, 111, 102, 32, 114, 97, 110, 103, 101])))] (.other (Oper.mk (some 21) (Op.makeInterface 9 (Operand.const (Value.string (ByteArray.mk (Array.mk [108, 101, 110, 32, 111, 117, 116, 32, 111, 102, 32, 114, 97, 110, 103, 101]))))) 20 "slices.go:496" (Array.mk []) none) 0), ⟨none, [.hS 21], none, none, .other (Oper.mk none (Op.panic (Operand.tmp 21)) 0 "slices.go:496" (Array.mk [Edge.mk 0 Ground.data]) none) 0⟩]) .skip))))) (Gw [F3 22 11 1, Gt 11 22]))))
noncomputable def Rn:eE :=
 .loop (some (ED false [6,1,18,3,8])) (GD [gV 28 [.sl 27,.sl 26] (.bin .lss)] (.seq (.cond (.sl 28) .skip (.exit 2)) (.seq (.block 3 (GD [gV 29 [.sl 25,.sl 27] (.pV 1),Gq 30 29,Gt 8 30] (Gw [Gt 31 6,Gt 32 8,gV 33 [.hP 31,.hP 32] (.app 2 16),Gt 6 33]))) (Gw [F3 34 27 1,Gt 27 34]))))
noncomputable def ack:eE :=
 GD [gV 2 [.iK (.ay [] 0 .full)] (.nil 2)] (GD [Gr 3 0] (.seq (GD [Gs 9 0,gV 10 [.sl 9] .xe,Gr 11 0] (.block 0 Rm)) (GD [Gt 23 3,gV 24 [.iK (.func 129 [] []),.iK (.ay [] 0 .full),.sl 23] (.call 0),Gt 6 24] (.seq (GD [Gt 25 0,gV 26 [.sl 25] .xe,Gr 27 0] (.block 2 Rn)) (GD [Gt 35 6,Gt 2 35] .ret)))))
theorem ahf:zm Tryz.prog Pz 106=some (ack,36,[.tmp 2]):=by kernel_rfl
def Lx (rq:qq) (qi:Int→Option p'):Nat→Int→Int→Option p'
 | 0,_,_=>none
 | m+1,s1,s2 =>
   if (decide (s2<(rq.length:Int)))=true then
    qh (0≤s2∧s2<(rq.length:Int)) <|
    if (decide ((w (s1+((ix rq s2).length:Int)))<(0:Int)))=true then
     none
    else
     Lx rq qi m (w (s1+((ix rq s2).length:Int))) (w (s2+(1:Int)))
   else
    qi s1
def Ly (rq:qq) (qT:p'→Option p'):Nat→p'→Int→Option p'
 | 0,_,_=>none
 | m+1,dj,GC =>
   if (decide (GC<(rq.length:Int)))=true then
    qh (0≤GC∧GC<(rq.length:Int)) <|
    qh ((dj.length+(ix rq GC).length)*16≤140737488355328) <|
    Ly rq qT m (dj++(ix rq GC)) (w (GC+(1:Int)))
   else
    qT dj
def NK (rq:qq):Option p' :=
 Lx rq (fun x6 =>
   (VF [] x6).bind fun r1 =>
   Ly rq (fun ox =>
     some ox) qe r1 (0:Int)) qe (0:Int) (0:Int)
theorem alw {rq:qq} {qi:Int→Option p'} {s1:Int} {s2:Int} {v:p'} {Q:q8}   (rD:∀ (x6:Int) (p8:List I),qi x6=some v→qO 36 [(0,(.ay (rq.map (qv p4)) rq.length .shared)),(3,(hY x6))] p8→Q (.exit 0) p8 []) {T:List I} (bZ:eX (ED false [0,1,2,1,5,3,24]) T=GI 36 [(0,(.ay (rq.map (qv p4)) rq.length .shared)),(3,(hY s1)),(9,(.ay (rq.map (qv p4)) rq.length .shared)),(10,(hY (rq.length:Int))),(11,(hY s2))]) (h:Lx rq qi qe s1 s2=some v) :
  dG Tryz.prog Pz 106 0 none Rm T [] Q:=by
 unfold Rm;refine wp_loop bZ ?_;refine .intro (fun m T H=>∃ (s1 s2:Int),T=GI 36 [(0,(.ay (rq.map (qv p4)) rq.length .shared)),(3,(hY s1)),(9,(.ay (rq.map (qv p4)) rq.length .shared)),(10,(hY (rq.length:Int))),(11,(hY s2))]∧H=[]∧Lx rq qi m s1 s2=some v) qe ⟨s1,s2,rfl,rfl,h⟩ ?_;clear h bZ;rintro m T H ⟨s1,s2,rfl,rfl,h⟩;cases m
 ·exact q_ h
 rename_i m;rw [Lx.eq_2] at h;conv=>whnf
 refine bs h (fun e0 h=>?_) fun e0 h=>?_
 ·rw [e0];conv=>whnf
  refine qw h id fun fs h=>?_;rw [rS (qv p4) rq s2 fs];conv=>whnf
  refine bs h (fun qp h=>?_) fun qp h=>?_
  ·rw [qp];(conv=>whnf);exact q_ h
  ·rw [qp];(conv=>whnf);exact ⟨m,sv m,(w (s1+((ix rq s2).length:Int))),(w (s2+(1:Int))),rfl,rfl,h⟩
 ·rw [e0];conv=>whnf
  exact rD _ _ h ⟨rfl,rfl⟩
theorem alx {rq:qq} {qT:p'→Option p'} {dj:p'} {GC:Int} {v:p'} {Q:q8}   (HX:∀ (ox:p') (p8:List I),qT ox=some v→qO 36 [(6,(p9 ox (.own 2)))] p8→Q (.exit 2) p8 []) {T:List I} (bZ:eX (ED false [6,1,18,3,8]) T=GI 36 [(6,(p9 dj (.own 2))),(25,(.ay (rq.map (qv p4)) rq.length .shared)),(26,(hY (rq.length:Int))),(27,(hY GC))]) (h:Ly rq qT qe dj GC=some v) :
  dG Tryz.prog Pz 106 0 none Rn T [] Q:=by
 unfold Rn;refine wp_loop bZ ?_;refine .intro (fun m T H=>∃ (dj:p') (GC:Int),T=GI 36 [(6,(p9 dj (.own 2))),(25,(.ay (rq.map (qv p4)) rq.length .shared)),(26,(hY (rq.length:Int))),(27,(hY GC))]∧H=[]∧Ly rq qT m dj GC=some v) qe ⟨dj,GC,rfl,rfl,h⟩ ?_;clear h bZ;rintro m T H ⟨dj,GC,rfl,rfl,h⟩;cases m
 ·exact q_ h
 rename_i m;rw [Ly.eq_2] at h;conv=>whnf
 refine bs h (fun qH h=>?_) fun qH h=>?_
 ·rw [qH];conv=>whnf
  refine qw h id fun qW h=>?_;rw [rS (qv p4) rq GC qW];conv=>whnf
  obtain ⟨qU,h⟩:=qF h;refine ⟨by first | rfl | (simp;done) | exact ry p4 _ qy _,by have:=qU;omega,rfl,qU,?_⟩
  erw [Sj p4 dj (ix rq GC)];conv=>whnf
  exact ⟨m,sv m,(dj++(ix rq GC)),(w (GC+(1:Int))),rfl,rfl,h⟩
 ·rw [qH];conv=>whnf
  exact HX _ _ h ⟨rfl,rfl⟩
theorem VC {rq:qq} {v:p'} (h:NK rq=some v):qD 106 [(.ay (rq.map (qv p4)) rq.length .shared)] (.ay (v.flatMap p4) v.length .shared):=by
 refine qZ dM ahf rfl (q7 (fun _=>(p5 rfl (p5 rfl rfl))) _ _ _) fun Q bo=>?_;have jG:qK [.tmp 2] Q (fun v=>(p9 v .shared)) v:=fun T H bK=>bo _ T H bK;unfold NK at h;unfold ack;obtain ⟨HD,qS⟩:∃ c,Rm=c:=⟨_,rfl⟩;rw [qS];obtain ⟨Lc,sk⟩:∃ c,Rn=c:=⟨_,rfl⟩;rw [sk];conv=>whnf
 subst qS;refine alw ?_ (by exact rfl) h;intro x6 p8 h qf;obtain ⟨qJ,rfl⟩:=qf.ex;conv=>whnf
 obtain ⟨r1,qC,h⟩:=qj h;refine ⟨_,_,aeB (p5 rfl (p5 rfl rfl)) (alJ qC) _ _,?_⟩;conv=>whnf
 subst sk;refine alx ?_ (by exact rfl) h;intro ox p8 h qf;obtain ⟨qJ,rfl⟩:=qf.ex;conv=>whnf
 exact qc h jG rfl rfl

noncomputable def RK:eE :=
 .loop (some (ED false [0,1,2,1,1,2,12,3,10,3,98])) (GD [gV 35 [.sl 34,.sl 33] (.bin .lss)] (.seq (.cond (.sl 35) .skip (.exit 2)) (.seq (.block 3 (GD [gV 36 [.sl 32,.sl 34] (.pV 1),Gq 37 36,Gt 8 37] (Gx [gV 38 [.sl 6] (.oY 0),F_ 39 38 1,gV 40 [.hS 39] .take,Gs 41 0,gV 42 [.hS 41] .zI,F_ 43 42 0,F_ 44 43 1,Gq 45 44,Gt 46 8,Gl 47 45 46 2,gV 48 [.hS 47] (.p2 (.str 2)),gV 49 [.hS 48] (.yg 1 2 [.int .i64 0,.int .i64 0] [0]),gV 50 [.hP 40,.hP 49] (.app 2 16),gV 51 [.sl 6] (.oY 0),F_ 52 51 1,⟨none,[.hP 52,.hP 50],none,none,.st 1⟩]))) (Gw [F3 53 34 1,Gt 34 53]))))
noncomputable def N0:eE :=
 .loop (some (ED false [0,1,2,1,1,2,2,2,8,3,111])) (.seq (GD [Gs 57 10,F3 58 57 1,Gs 59 9,Gp 60 59,F5 61 58 60 .lss] (.cond (.sl 61) .skip (.exit 4))) (.seq (.block 5 (Gx [gV 64 [.sl 6] (.oY 0),F_ 65 64 1,gV 66 [.hS 65] .take,Gs 67 9,Gs 68 10,Gl 69 67 68 1,Gq 70 69,Gs 71 9,Gs 72 10,F3 73 72 1,Gl 74 71 73 1,Gq 75 74,gV 76 [.hS 70,.hS 75] (.build [.int .i64 0,.int .i64 0] [(0,1),(1,1)]),gV 77 [.hS 76] (.yg 1 2 [.int .i64 0,.int .i64 0] [0]),gV 78 [.hP 66,.hP 77] (.app 2 16),gV 79 [.sl 6] (.oY 0),F_ 80 79 1,⟨none,[.hP 80,.hP 78],none,none,.st 1⟩])) (Gw [Gt 62 10,F3 63 62 2,Gt 10 63])))
noncomputable def RL:eE :=
 .loop (some (ED false [0,1,2,1,1,1,7,1,5,3,75,3,33])) (GD [gV 100 [.sl 99,.sl 98] (.bin .lss)] (.seq (.cond (.sl 100) .skip (.exit 6)) (.seq (.block 7 (GD [gV 101 [.sl 97,.sl 99] (.pV 2),gV 102 [.hS 101] (.p2 (.str 2)),gV 15 [] (.alloc [.int .i64 0,.int .i64 0]),⟨none,[.sl 15,.hP 102],none,none,.st 2⟩] (.seq (GD [gV 103 [.sl 15] (.oY 0),Gq 104 103,gV 105 [.sl 5] (.p2 .one),Gp 106 105,F5 107 104 106 .lss] (.cond (.sl 107) (.seq (Gx [Gt 108 13,gV 109 [.sl 5] (.p2 .one),gV 110 [.sl 15] (.oY 0),Gq 111 110,Gl 112 109 111 1,Gq 113 112,gV 114 [.sl 15] (.oY 1),Gq 115 114,gV 116 [.hS 113,.hS 115] (.build [.int .i64 0,.int .i64 0] [(0,1),(1,1)]),gV 117 [.hS 116] (.yg 1 2 [.int .i64 0,.int .i64 0] [0]),gV 118 [.hP 108,.hP 117] (.app 2 16),Gt 13 118]) (.exit 7)) .skip)) (Gw [Gt 119 3,Gt 120 13,gV 121 [.hS 120] (.yg 1 1 [.ay [] 0 .full] [0]),gV 122 [.hP 119,.hP 121] (.app 1 24),Gt 3 122,gV 13 [.iK (.ay [] 0 .full)] (.nil 2)])))) (Gw [F3 123 99 1,Gt 99 123]))))
noncomputable def RM:eE :=
 GD [gV 13 [.iK (.ay [] 0 .full)] (.nil 2)] (.seq (GD [Gt 97 11,gV 98 [.sl 97] .xe,Gr 99 0] (.block 6 RL)) (GD [Gs 124 13,Gp 125 124,F4 126 125 0 .gtr] (.cond (.sl 126) (Gw [Gt 127 3,Gt 128 13,gV 129 [.hS 128] (.yg 1 1 [.ay [] 0 .full] [0]),gV 130 [.hP 127,.hP 129] (.app 1 24),Gt 3 130]) .skip)))
noncomputable def RN:eE :=
 .loop (some (ED false [0,1,2,1,15,3,111])) (GD [gV 22 [.sl 21,.sl 20] (.bin .lss)] (.seq (.cond (.sl 22) .skip (.exit 0)) (.seq (.block 1 (GD [gV 23 [.sl 19,.sl 21] (.pV 1),Gq 24 23,gV 5 [] (.alloc [.ay [] 0 .full]),⟨none,[.sl 5,.hP 24],none,none,.st 1⟩] (GD [Gs 25 0,gV 26 [.hS 25] .zI,F_ 27 26 0,F_ 28 27 0,Gq 29 28,gV 30 [.hS 29] (.build [.int .i64 0,.ay [] 0 .full] [(0,1)]),gV 31 [.hS 30] (.build [.int .i64 0,.ay [] 0 .full] [(0,2)]),gV 6 [] (.alloc [.int .i64 0,.ay [] 0 .full]),⟨none,[.sl 6,.hP 31],none,none,.st 2⟩] (.seq (GD [gV 32 [.sl 5] (.p2 .one),gV 33 [.sl 32] .xe,Gr 34 0] (.block 2 RK)) (GD [Gs 54 0,gV 55 [.sl 5] (.p2 .one),gV 56 [.iK (.func 76 [] []),.sl 54,.sl 55] (.call 3),Gt 9 56] (.seq (GD [Gr 10 0] (.block 4 N0)) (GD [gV 81 [.iK (.func 104 [] []),.sl 6] (.call 7),Gt 11 81] (.seq (GD [Gs 82 11,gV 83 [.sl 5] (.zC 105 0 1),gV 84 [.iK (.func 94 [] []),.sl 82,.sl 83] (.call 6),Gt 12 84] (GD [Gs 85 12,F4 86 85 0 .geq] (.cond (.sl 86) (Gx [Gs 87 11,Gs 88 12,F3 89 88 1,gV 90 [.hP 87,.hP 89] (.A2 2 true false false),Gs 91 11,Gs 92 12,F3 93 92 1,gV 94 [.hP 91,.hP 93] (.A2 2 false true false),gV 95 [.hS 90,.hS 94] (.yg 2 1 [.ay [] 0 .full] [0,1]),gV 96 [.iK (.func 106 [] []),.sl 95] (.call 3),Gt 11 96]) .skip))) RM)))))))) (Gw [F3 131 21 1,Gt 21 131]))))
noncomputable def ac5:eE :=
 GD [gV 2 [.iK (.ay [] 0 .full)] (.nil 1)] (GD [gV 3 [.iK (.ay [] 0 .full)] (.nil 1)] (.seq (GD [Gs 16 0,Gs 17 0,gV 18 [.iK (.func 77 [] []),.sl 17] (.call 3),gV 19 [.iK (.func 79 [] []),.sl 16,.sl 18] (.call 3),gV 20 [.sl 19] .xe,Gr 21 0] (.block 0 RN)) (GD [Gt 132 3,Gt 2 132] .ret)))
theorem ahY:zm Tryz.prog Lb 83=some (ac5,133,[.tmp 2]):=by kernel_rfl
def MH (t:qk) (r2:GV) (s2:Int) (qT:p'→Option qq):Nat→Int→p'→Option qq
 | 0,_,_=>none
 | m+1,dj,GC =>
   if (decide (dj<((ix r2 s2).length:Int)))=true then
    qh (0≤dj∧dj<((ix r2 s2).length:Int)) <|
    qh (0≤(ix (ix r2 s2) dj)∧(ix (ix r2 s2) dj)<(t.2.length:Int)) <|
    qh ((GC.length+1)*16≤140737488355328) <|
    MH t r2 s2 qT m (w (dj+(1:Int))) (GC++[(ix t.2 (ix (ix r2 s2) dj))])
   else
    qT GC
def J2 (eJ:ql) (ru:p'→Option qq):Nat→Int→p'→Option qq
 | 0,_,_=>none
 | m+1,qn,qa =>
   if (decide ((w (qn+(1:Int)))<(eJ.length:Int)))=true then
    qh (0≤qn∧qn<(eJ.length:Int)) <|
    qh (0≤(w (qn+(1:Int)))∧(w (qn+(1:Int)))<(eJ.length:Int)) <|
    qh ((qa.length+1)*16≤140737488355328) <|
    J2 eJ ru m (w (qn+(2:Int))) (qa++[((ix eJ qn),(ix eJ (w (qn+(1:Int)))))])
   else
    ru qa
def LH (r2:GV) (s2:Int) (dx:p') (L_:qq→p'→Option qq):Nat→qq→p'→Int→Option qq
 | 0,_,_,_=>none
 | m+1,rh,qg,qs =>
   if (decide (qs<(dx.length:Int)))=true then
    qh (0≤qs∧qs<(dx.length:Int)) <|
    if (decide ((ix dx qs).1<((ix r2 s2).length:Int)))=true then
     qh (0≤(ix dx qs).1∧(ix dx qs).1<((ix r2 s2).length:Int)) <|
     qh ((qg.length+1)*16≤140737488355328) <|
     LH r2 s2 dx L_ m rh (qg++[((ix (ix r2 s2) ((ix dx qs).1)),(ix dx qs).2)]) (w (qs+(1:Int)))
    else
     qh ((rh.length+1)*24≤140737488355328) <|
     LH r2 s2 dx L_ m (rh++[qg]) [] (w (qs+(1:Int)))
   else
    L_ rh qg
def LG (r2:GV) (s1:qq) (s2:Int) (OL:qq→Option qq) (dx:p'):Option qq :=
 LH r2 s2 dx (fun x6 ox =>
   if (decide ((0:Int)<(ox.length:Int)))=true then
    qh ((x6.length+1)*24≤140737488355328) <|
    OL (x6++[ox])
   else
    OL x6) qe s1 ([]:List (Int×Int)) (0:Int)
def I_ (t:qk) (r2:GV) (qi:qq→Option qq):Nat→qq→Int→Option qq
 | 0,_,_=>none
 | m+1,s1,s2 =>
   if (decide (s2<(r2.length:Int)))=true then
    qh (0≤s2∧s2<(r2.length:Int)) <|
    MH t r2 s2 (fun x6 =>
      (LF t (ix r2 s2)).bind fun eJ =>
      J2 eJ (fun x6 =>
        (Mf (t.1,x6)).bind fun qA =>
        (LJ qA (fun q1=>Pc q1 (ix r2 s2))).bind fun qE =>
        if (decide ((0:Int)≤qE))=true then
         qh (0≤(w (qE+(1:Int)))∧(w (qE+(1:Int)))≤(qA.length:Int)) <|
         qh (0≤(w (qE+(1:Int)))∧(w (qE+(1:Int)))≤(qA.length:Int)) <|
         (NK [(qA.drop (w (qE+(1:Int))).toNat),(qA.take (w (qE+(1:Int))).toNat)]).bind fun sb =>
         LG r2 s1 s2 (fun F0 =>
           I_ t r2 qi m F0 (w (s2+(1:Int)))) sb
        else
         LG r2 s1 s2 (fun F0 =>
           I_ t r2 qi m F0 (w (s2+(1:Int)))) qA) qe (0:Int) x6) qe (0:Int) ([]:List (Int×Int))
   else
    qi s1
def Ky (t:qk):Option qq :=
 (NW t).bind fun r1 =>
 (K2 t r1).bind fun r2 =>
 I_ t r2 (fun HA =>
   some HA) qe ([]:List p') (0:Int)
theorem amN {t:qk} {r2:GV} {s2:Int} {qT:p'→Option qq} {dj:Int} {GC:p'} {s1:qq} {v:qq} {Q:q8}  {rv:List au} {H5:iB} (HX:∀ (x6:p') (p8:List I),qT x6=some v→qO 133 [(0,(.bW [(hY t.1),(p9 t.2 .shared)])),(3,(.ay (s1.map (qv p4)) s1.length (.uniq 1))),(5,(.ptr (rv).length 0)),(6,(.ptr ((rv)++[au.cells [(qG (ix r2 s2) .shared)]]).length 0)),(19,(.ay (r2.map js) r2.length .shared)),(20,(hY (r2.length:Int))),(21,(hY s2))] p8→Q (.exit 2) p8 (((rv)++[au.cells [(qG (ix r2 s2) .shared)]])++[au.cells [(hY t.1),(p9 x6 .full)]])) (L4:∀ (x6:p') (p8:List I),qT x6=some v→qO 133 [(0,(.bW [(hY t.1),(p9 t.2 .shared)])),(3,(.ay (s1.map (qv p4)) s1.length (.uniq 1))),(5,(.ptr (rv).length 0)),(6,(.ptr ((rv)++[au.cells [(qG (ix r2 s2) .shared)]]).length 0)),(19,(.ay (r2.map js) r2.length .shared)),(20,(hY (r2.length:Int))),(21,(hY s2))] p8→Q (.exit 2) p8 (((rv)++[au.cells [(qG (ix r2 s2) .shared)]])++[au.cells [(hY t.1),(p9 x6 (.own 2))]])) (L0:(H5=iB.full∨H5=(.own 2))) {T:List I} (bZ:eX (ED false [0,1,2,1,1,2,12,3,10,3,98]) T=GI 133 [(0,(.bW [(hY t.1),(p9 t.2 .shared)])),(3,(.ay (s1.map (qv p4)) s1.length (.uniq 1))),(5,(.ptr (rv).length 0)),(6,(.ptr ((rv)++[au.cells [(qG (ix r2 s2) .shared)]]).length 0)),(19,(.ay (r2.map js) r2.length .shared)),(20,(hY (r2.length:Int))),(21,(hY s2)),(32,(qG (ix r2 s2) .shared)),(33,(hY ((ix r2 s2).length:Int))),(34,(hY dj))]) (h:MH t r2 s2 qT qe dj GC=some v) :
  dG Tryz.prog Lb 83 0 none RK T (((rv)++[au.cells [(qG (ix r2 s2) .shared)]])++[au.cells [(hY t.1),(.ay (GC.flatMap p4) GC.length H5)]]) Q:=by
 unfold RK;refine wp_loop bZ ?_;refine .intro (fun m T H=>∃ (dj:Int) (GC:p') (H5:iB),(H5=iB.full∨H5=(.own 2))∧T=GI 133 [(0,(.bW [(hY t.1),(p9 t.2 .shared)])),(3,(.ay (s1.map (qv p4)) s1.length (.uniq 1))),(5,(.ptr (rv).length 0)),(6,(.ptr ((rv)++[au.cells [(qG (ix r2 s2) .shared)]]).length 0)),(19,(.ay (r2.map js) r2.length .shared)),(20,(hY (r2.length:Int))),(21,(hY s2)),(32,(qG (ix r2 s2) .shared)),(33,(hY ((ix r2 s2).length:Int))),(34,(hY dj))]∧H=(((rv)++[au.cells [(qG (ix r2 s2) .shared)]])++[au.cells [(hY t.1),(.ay (GC.flatMap p4) GC.length H5)]])∧MH t r2 s2 qT m dj GC=some v) qe ⟨dj,GC,_,L0,rfl,rfl,h⟩ ?_;clear h bZ;rintro m T H ⟨dj,GC,H5,L0,rfl,rfl,h⟩;cases m
 ·exact q_ h
 rename_i m;rw [MH.eq_2] at h;rcases L0 with rfl | rfl
 ·conv=>whnf
  refine bs h (fun qH h=>?_) fun qH h=>?_
  ·rw [qH];(conv=>whnf);refine qw h id fun qW h=>?_;rw [rS hY (ix r2 s2) dj qW];(conv=>whnf);refine D1 (x:=au.cells [(hY t.1),(p9 GC .full)]) (by first | exact qz.h | rfl | (simp [su,I.settle];done)) ?_
   (conv=>whnf);refine qw h id fun qU h=>?_;rw [qY p4 2 qy t.2 (ix (ix r2 s2) dj) qU];(conv=>whnf);obtain ⟨qX,h⟩:=qF h;refine ⟨by first | rfl | (simp;done) | exact ry p4 _ qy _,by have:=qX;omega,by decide,qX,by first | rfl | (simp;done) | exact ry p4 _ qy _,?_⟩
   erw [rI p4 GC (ix t.2 (ix (ix r2 s2) dj))];(conv=>whnf);refine D1 (x:=au.cells [(hY t.1),(p9 GC .full)]) (by first | exact qz.h | rfl | (simp [su,I.settle];done)) ?_
   (conv=>whnf);rw [rE];exact ⟨m,sv m,(w (dj+(1:Int))),(GC++[(ix t.2 (ix (ix r2 s2) dj))]),_,(.inr rfl),rfl,rfl,h⟩
  ·rw [qH];(conv=>whnf);exact HX _ _ h ⟨rfl,rfl⟩
 ·conv=>whnf
  refine bs h (fun qH h=>?_) fun qH h=>?_
  ·rw [qH];(conv=>whnf);refine qw h id fun qW h=>?_;rw [rS hY (ix r2 s2) dj qW];(conv=>whnf);refine D1 (x:=au.cells [(hY t.1),(p9 GC (.own 2))]) (by first | exact qz.h | rfl | (simp [su,I.settle];done)) ?_
   (conv=>whnf);rw [rE];refine qw h id fun qU h=>?_;rw [qY p4 2 qy t.2 (ix (ix r2 s2) dj) qU];(conv=>whnf);obtain ⟨qX,h⟩:=qF h;refine ⟨by first | rfl | (simp;done) | exact ry p4 _ qy _,by have:=qX;omega,rfl,qX,?_⟩
   erw [rI p4 GC (ix t.2 (ix (ix r2 s2) dj))];(conv=>whnf);refine D1 (x:=au.cells [(hY t.1),(p9 GC .shared)]) (by first | exact qz.h | rfl | (simp [su,I.settle];done)) ?_
   (conv=>whnf);rw [rE];exact ⟨m,sv m,(w (dj+(1:Int))),(GC++[(ix t.2 (ix (ix r2 s2) dj))]),_,(.inr rfl),rfl,rfl,h⟩
  ·rw [qH];(conv=>whnf);exact L4 _ _ h ⟨rfl,rfl⟩
theorem amO {eJ:ql} {ru:p'→Option qq} {qn:Int} {qa:p'} {t:qk} {r2:GV} {s1:qq} {s2:Int} {v:qq} {Q:q8}  {rv:List au} {H5:iB} (IG:∀ (x6:p') (p8:List I),ru x6=some v→qO 133 [(0,(.bW [(hY t.1),(p9 t.2 .shared)])),(3,(.ay (s1.map (qv p4)) s1.length (.uniq 1))),(5,(.ptr (rv).length 0)),(6,(.ptr ((rv)++[au.cells [(qG (ix r2 s2) .shared)]]).length 0)),(19,(.ay (r2.map js) r2.length .shared)),(20,(hY (r2.length:Int))),(21,(hY s2))] p8→Q (.exit 4) p8 (((rv)++[au.cells [(qG (ix r2 s2) .shared)]])++[au.cells [(hY t.1),(p9 x6 .full)]])) (OG:∀ (x6:p') (p8:List I),ru x6=some v→qO 133 [(0,(.bW [(hY t.1),(p9 t.2 .shared)])),(3,(.ay (s1.map (qv p4)) s1.length (.uniq 1))),(5,(.ptr (rv).length 0)),(6,(.ptr ((rv)++[au.cells [(qG (ix r2 s2) .shared)]]).length 0)),(19,(.ay (r2.map js) r2.length .shared)),(20,(hY (r2.length:Int))),(21,(hY s2))] p8→Q (.exit 4) p8 (((rv)++[au.cells [(qG (ix r2 s2) .shared)]])++[au.cells [(hY t.1),(p9 x6 (.own 2))]])) (L0:(H5=iB.full∨H5=(.own 2))) {T:List I} (bZ:eX (ED false [0,1,2,1,1,2,2,2,8,3,111]) T=GI 133 [(0,(.bW [(hY t.1),(p9 t.2 .shared)])),(3,(.ay (s1.map (qv p4)) s1.length (.uniq 1))),(5,(.ptr (rv).length 0)),(6,(.ptr ((rv)++[au.cells [(qG (ix r2 s2) .shared)]]).length 0)),(9,(qG eJ .shared)),(10,(hY qn)),(19,(.ay (r2.map js) r2.length .shared)),(20,(hY (r2.length:Int))),(21,(hY s2))]) (h:J2 eJ ru qe qn qa=some v) :
  dG Tryz.prog Lb 83 0 none N0 T (((rv)++[au.cells [(qG (ix r2 s2) .shared)]])++[au.cells [(hY t.1),(.ay (qa.flatMap p4) qa.length H5)]]) Q:=by
 unfold N0;refine wp_loop bZ ?_;refine .intro (fun m T H=>∃ (qn:Int) (qa:p') (H5:iB),(H5=iB.full∨H5=(.own 2))∧T=GI 133 [(0,(.bW [(hY t.1),(p9 t.2 .shared)])),(3,(.ay (s1.map (qv p4)) s1.length (.uniq 1))),(5,(.ptr (rv).length 0)),(6,(.ptr ((rv)++[au.cells [(qG (ix r2 s2) .shared)]]).length 0)),(9,(qG eJ .shared)),(10,(hY qn)),(19,(.ay (r2.map js) r2.length .shared)),(20,(hY (r2.length:Int))),(21,(hY s2))]∧H=(((rv)++[au.cells [(qG (ix r2 s2) .shared)]])++[au.cells [(hY t.1),(.ay (qa.flatMap p4) qa.length H5)]])∧J2 eJ ru m qn qa=some v) qe ⟨qn,qa,_,L0,rfl,rfl,h⟩ ?_;clear h bZ;rintro m T H ⟨qn,qa,H5,L0,rfl,rfl,h⟩;cases m
 ·exact q_ h
 rename_i m;rw [J2.eq_2] at h;rcases L0 with rfl | rfl
 ·conv=>whnf
  refine bs h (fun qL h=>?_) fun qL h=>?_
  ·rw [qL];(conv=>whnf);refine D1 (x:=au.cells [(hY t.1),(p9 qa .full)]) (by first | exact qz.h | rfl | (simp [su,I.settle];done)) ?_
   (conv=>whnf);refine qw h id fun q9 h=>?_;rw [rS hY eJ qn q9];(conv=>whnf);refine qw h id fun rn h=>?_;rw [rS hY eJ (w (qn+(1:Int))) rn];(conv=>whnf);obtain ⟨rb,h⟩:=qF h;refine ⟨by first | rfl | (simp;done) | exact ry p4 _ qy _,by have:=rb;omega,by decide,rb,by first | rfl | (simp;done) | exact ry p4 _ qy _,?_⟩
   erw [rI p4 qa ((ix eJ qn),(ix eJ (w (qn+(1:Int)))))];(conv=>whnf);refine D1 (x:=au.cells [(hY t.1),(p9 qa .full)]) (by first | exact qz.h | rfl | (simp [su,I.settle];done)) ?_
   (conv=>whnf);rw [rE];exact ⟨m,sv m,(w (qn+(2:Int))),(qa++[((ix eJ qn),(ix eJ (w (qn+(1:Int)))))]),_,(.inr rfl),rfl,rfl,h⟩
  ·rw [qL];(conv=>whnf);exact IG _ _ h ⟨rfl,rfl⟩
 ·conv=>whnf
  refine bs h (fun qL h=>?_) fun qL h=>?_
  ·rw [qL];(conv=>whnf);refine D1 (x:=au.cells [(hY t.1),(p9 qa (.own 2))]) (by first | exact qz.h | rfl | (simp [su,I.settle];done)) ?_
   (conv=>whnf);rw [rE];refine qw h id fun q9 h=>?_;rw [rS hY eJ qn q9];(conv=>whnf);refine qw h id fun rn h=>?_;rw [rS hY eJ (w (qn+(1:Int))) rn];(conv=>whnf);obtain ⟨rb,h⟩:=qF h;refine ⟨by first | rfl | (simp;done) | exact ry p4 _ qy _,by have:=rb;omega,rfl,rb,?_⟩
   erw [rI p4 qa ((ix eJ qn),(ix eJ (w (qn+(1:Int)))))];(conv=>whnf);refine D1 (x:=au.cells [(hY t.1),(p9 qa .shared)]) (by first | exact qz.h | rfl | (simp [su,I.settle];done)) ?_
   (conv=>whnf);rw [rE];exact ⟨m,sv m,(w (qn+(2:Int))),(qa++[((ix eJ qn),(ix eJ (w (qn+(1:Int)))))]),_,(.inr rfl),rfl,rfl,h⟩
  ·rw [qL];(conv=>whnf);exact OG _ _ h ⟨rfl,rfl⟩
theorem amQ {r2:GV} {s2:Int} {dx:p'} {L_:qq→p'→Option qq} {rh:qq} {qg:p'} {qs:Int} {t:qk} {v:qq} {Q:q8} {bS:au} {rv:List au} {N5:List au} (age:∀ (x6:qq) (ox:p') (qu:List au) (p8:List I),L_ x6 ox=some v→qO 133 [(0,(.bW [(hY t.1),(p9 t.2 .shared)])),(3,(.ay (x6.map (qv p4)) x6.length (.uniq 1))),(13,(p9 ox (.uniq 2))),(19,(.ay (r2.map js) r2.length .shared)),(20,(hY (r2.length:Int))),(21,(hY s2))] p8→Q (.exit 6) p8 (qu)) {T:List I} (bZ:eX (ED false [0,1,2,1,1,1,7,1,5,3,75,3,33]) T=GI 133 [(0,(.bW [(hY t.1),(p9 t.2 .shared)])),(3,(.ay (rh.map (qv p4)) rh.length (.uniq 1))),(5,(.ptr (rv).length 0)),(13,(p9 qg (.uniq 2))),(19,(.ay (r2.map js) r2.length .shared)),(20,(hY (r2.length:Int))),(21,(hY s2)),(97,(p9 dx .shared)),(98,(hY (dx.length:Int))),(99,(hY qs))]) (h:LH r2 s2 dx L_ qe rh qg qs=some v) :
  dG Tryz.prog Lb 83 0 none RL T ((((rv)++[au.cells [(qG (ix r2 s2) .shared)]])++[bS])++N5) Q:=by
 unfold RL;refine wp_loop bZ ?_;refine .intro (fun m T H=>∃ (rh:qq) (qg:p') (qs:Int) (N5:List au),T=GI 133 [(0,(.bW [(hY t.1),(p9 t.2 .shared)])),(3,(.ay (rh.map (qv p4)) rh.length (.uniq 1))),(5,(.ptr (rv).length 0)),(13,(p9 qg (.uniq 2))),(19,(.ay (r2.map js) r2.length .shared)),(20,(hY (r2.length:Int))),(21,(hY s2)),(97,(p9 dx .shared)),(98,(hY (dx.length:Int))),(99,(hY qs))]∧H=((((rv)++[au.cells [(qG (ix r2 s2) .shared)]])++[bS])++N5)∧LH r2 s2 dx L_ m rh qg qs=some v) qe ⟨rh,qg,qs,N5,rfl,rfl,h⟩ ?_;clear h bZ;rintro m T H ⟨rh,qg,qs,N5,rfl,rfl,h⟩;cases m
 ·exact q_ h
 rename_i m;rw [LH.eq_2] at h;conv=>whnf
 refine bs h (fun rX h=>?_) fun rX h=>?_
 ·rw [rX];conv=>whnf
  refine qw h id fun Hd h=>?_;rw [qY p4 2 qy dx qs Hd];conv=>whnf
  refine D1 (x:=au.cells [(hY (0:Int)),(hY (0:Int))]) (by first | exact qz.h | rfl | (simp [su,I.settle];done)) ?_
  conv=>whnf
  rw [rE];refine D1 (x:=au.cells [(hY (ix dx qs).1),(hY (ix dx qs).2)]) (by first | exact qz.h | rfl | (simp [su,I.settle];done)) ?_
  conv=>whnf
  refine D1 (x:=au.cells [(qG (ix r2 s2) .shared)]) (by first | exact qz.h | rfl | (simp [su,I.settle];done)) ?_
  conv=>whnf
  refine bs h (fun sf h=>?_) fun sf h=>?_
  ·rw [sf];(conv=>whnf);refine D1 (x:=au.cells [(qG (ix r2 s2) .shared)]) (by first | exact qz.h | rfl | (simp [su,I.settle];done)) ?_
   (conv=>whnf);refine D1 (x:=au.cells [(hY (ix dx qs).1),(hY (ix dx qs).2)]) (by first | exact qz.h | rfl | (simp [su,I.settle];done)) ?_
   (conv=>whnf);refine qw h id fun HV h=>?_;rw [rS hY (ix r2 s2) ((ix dx qs).1) HV];(conv=>whnf);refine D1 (x:=au.cells [(hY (ix dx qs).1),(hY (ix dx qs).2)]) (by first | exact qz.h | rfl | (simp [su,I.settle];done)) ?_
   (conv=>whnf);obtain ⟨HW,h⟩:=qF h;refine ⟨by first | rfl | (simp;done) | exact ry p4 _ qy _,by have:=HW;omega,rfl,HW,?_⟩
   erw [rI p4 qg ((ix (ix r2 s2) ((ix dx qs).1)),(ix dx qs).2)];(conv=>whnf);exact ⟨m,sv m,rh,(qg++[((ix (ix r2 s2) ((ix dx qs).1)),(ix dx qs).2)]),(w (qs+(1:Int))),_,rfl,(W7 _ _ _),h⟩
  ·rw [sf];(conv=>whnf);obtain ⟨Is,h⟩:=qF h;refine ⟨by first | rfl | simp,by have:=Is;omega,rfl,Is,?_⟩
   erw [J_ (qv p4) rh qg];(conv=>whnf);exact ⟨m,sv m,(rh++[qg]),[],(w (qs+(1:Int))),_,rfl,(W7 _ _ _),h⟩
 ·rw [rX];conv=>whnf
  exact age _ _ _ _ h ⟨rfl,rfl⟩
theorem NY {r2:GV} {s1:qq} {s2:Int} {OL:qq→Option qq} {dx:p'} {t:qk} {v:qq} {Q:q8} {bS:au} {p8:List I} {rv:List au} (Ya:∀ (F0:qq) (qu:List au) (p8:List I),OL F0=some v→qO 133 [(0,(.bW [(hY t.1),(p9 t.2 .shared)])),(3,(.ay (F0.map (qv p4)) F0.length (.uniq 1))),(19,(.ay (r2.map js) r2.length .shared)),(20,(hY (r2.length:Int))),(21,(hY s2))] p8→Q .normal p8 (qu)) (qf:qO 133 [(0,(.bW [(hY t.1),(p9 t.2 .shared)])),(3,(.ay (s1.map (qv p4)) s1.length (.uniq 1))),(5,(.ptr (rv).length 0)),(11,(p9 dx .shared)),(19,(.ay (r2.map js) r2.length .shared)),(20,(hY (r2.length:Int))),(21,(hY s2))] p8) (h:LG r2 s1 s2 OL dx=some v) :
  dG Tryz.prog Lb 83 0 none RM p8 (((rv)++[au.cells [(qG (ix r2 s2) .shared)]])++[bS]) Q:=by
 obtain ⟨qJ,rfl⟩:=qf.ex;unfold LG at h;unfold RM;obtain ⟨Ss,IT⟩:∃ c,RL=c:=⟨_,rfl⟩;rw [IT];conv=>whnf
 subst IT;refine alr ?_;refine amQ ?_ (by exact rfl) h;intro x6 ox qu p8 h qf;obtain ⟨qJ,rfl⟩:=qf.ex;conv=>whnf
 refine bs h (fun HO h=>?_) fun HO h=>?_
 ·rw [HO];conv=>whnf
  obtain ⟨It,h⟩:=qF h;refine ⟨by first | rfl | simp,by have:=It;omega,rfl,It,?_⟩
  erw [J_ (qv p4) x6 ox];conv=>whnf
  exact Ya _ _ _ h ⟨rfl,rfl⟩
 ·rw [HO];conv=>whnf
  exact Ya _ _ _ h ⟨rfl,rfl⟩
theorem amP {Hf:ql} {ru:p'→Option qq} {I1:Int} {JV:p'} {t:qk} {r2:GV} {s1:qq} {s2:Int} {v:qq} {Q:q8}  {rv:List au} (IG:∀ (sn:p') (p8:List I),ru sn=some v→qO 133 [(0,(.bW [(hY t.1),(p9 t.2 .shared)])),(3,(.ay (s1.map (qv p4)) s1.length (.uniq 1))),(5,(.ptr (rv).length 0)),(6,(.ptr ((rv)++[au.cells [(qG (ix r2 s2) .shared)]]).length 0)),(19,(.ay (r2.map js) r2.length .shared)),(20,(hY (r2.length:Int))),(21,(hY s2))] p8→Q (.exit 4) p8 (((rv)++[au.cells [(qG (ix r2 s2) .shared)]])++[au.cells [(hY t.1),(p9 sn (.own 2))]])) {T:List I} (bZ:eX (ED false [0,1,2,1,1,2,2,2,8,3,111]) T=GI 133 [(0,(.bW [(hY t.1),(p9 t.2 .shared)])),(3,(.ay (s1.map (qv p4)) s1.length (.uniq 1))),(5,(.ptr (rv).length 0)),(6,(.ptr ((rv)++[au.cells [(qG (ix r2 s2) .shared)]]).length 0)),(9,(qG Hf .shared)),(10,(hY I1)),(19,(.ay (r2.map js) r2.length .shared)),(20,(hY (r2.length:Int))),(21,(hY s2))]) (h:J2 Hf ru qe I1 JV=some v) :
  dG Tryz.prog Lb 83 0 none N0 T (((rv)++[au.cells [(qG (ix r2 s2) .shared)]])++[au.cells [(hY t.1),(p9 JV (.own 2))]]) Q:=by
 unfold N0;refine wp_loop bZ ?_;refine .intro (fun m T H=>∃ (I1:Int) (JV:p'),T=GI 133 [(0,(.bW [(hY t.1),(p9 t.2 .shared)])),(3,(.ay (s1.map (qv p4)) s1.length (.uniq 1))),(5,(.ptr (rv).length 0)),(6,(.ptr ((rv)++[au.cells [(qG (ix r2 s2) .shared)]]).length 0)),(9,(qG Hf .shared)),(10,(hY I1)),(19,(.ay (r2.map js) r2.length .shared)),(20,(hY (r2.length:Int))),(21,(hY s2))]∧H=(((rv)++[au.cells [(qG (ix r2 s2) .shared)]])++[au.cells [(hY t.1),(p9 JV (.own 2))]])∧J2 Hf ru m I1 JV=some v) qe ⟨I1,JV,rfl,rfl,h⟩ ?_;clear h bZ;rintro m T H ⟨I1,JV,rfl,rfl,h⟩;cases m
 ·exact q_ h
 rename_i m;rw [J2.eq_2] at h;conv=>whnf
 refine bs h (fun Th h=>?_) fun Th h=>?_
 ·rw [Th];conv=>whnf
  refine D1 (x:=au.cells [(hY t.1),(p9 JV (.own 2))]) (by first | exact qz.h | rfl | (simp [su,I.settle];done)) ?_
  conv=>whnf
  rw [rE];refine qw h id fun afT h=>?_;rw [rS hY Hf I1 afT];conv=>whnf
  refine qw h id fun afU h=>?_;rw [rS hY Hf (w (I1+(1:Int))) afU];conv=>whnf
  obtain ⟨X5,h⟩:=qF h;refine ⟨by first | rfl | (simp;done) | exact ry p4 _ qy _,by have:=X5;omega,rfl,X5,?_⟩
  erw [rI p4 JV ((ix Hf I1),(ix Hf (w (I1+(1:Int)))))];conv=>whnf
  refine D1 (x:=au.cells [(hY t.1),(p9 JV .shared)]) (by first | exact qz.h | rfl | (simp [su,I.settle];done)) ?_
  conv=>whnf
  rw [rE];exact ⟨m,sv m,(w (I1+(2:Int))),(JV++[((ix Hf I1),(ix Hf (w (I1+(1:Int)))))]),rfl,rfl,h⟩
 ·rw [Th];conv=>whnf
  exact IG _ _ h ⟨rfl,rfl⟩
theorem amM {t:qk} {r2:GV} {qi:qq→Option qq} {s1:qq} {s2:Int} {v:qq} {Q:q8}   (rD:∀ (HA:qq) (qu:List au) (p8:List I),qi HA=some v→qO 133 [(3,(.ay (HA.map (qv p4)) HA.length (.uniq 1)))] p8→Q (.exit 0) p8 (qu)) {T:List I} (bZ:eX (ED false [0,1,2,1,15,3,111]) T=GI 133 [(0,(.bW [(hY t.1),(p9 t.2 .shared)])),(3,(.ay (s1.map (qv p4)) s1.length (.uniq 1))),(19,(.ay (r2.map js) r2.length .shared)),(20,(hY (r2.length:Int))),(21,(hY s2))]) (h:I_ t r2 qi qe s1 s2=some v) :
  dG Tryz.prog Lb 83 0 none RN T [] Q:=by
 unfold RN;obtain ⟨HD,qS⟩:∃ c,RK=c:=⟨_,rfl⟩;rw [qS];obtain ⟨Lc,sk⟩:∃ c,N0=c:=⟨_,rfl⟩;rw [sk];obtain ⟨aew,Kc⟩:∃ c,RM=c:=⟨_,rfl⟩;rw [Kc];refine wp_loop bZ ?_;refine .intro (fun m T H=>∃ (s1:qq) (s2:Int) (rv:List au),T=GI 133 [(0,(.bW [(hY t.1),(p9 t.2 .shared)])),(3,(.ay (s1.map (qv p4)) s1.length (.uniq 1))),(19,(.ay (r2.map js) r2.length .shared)),(20,(hY (r2.length:Int))),(21,(hY s2))]∧H=(rv)∧I_ t r2 qi m s1 s2=some v) qe ⟨s1,s2,[],rfl,rfl,h⟩ ?_;clear h bZ;rintro m T H ⟨s1,s2,rv,rfl,rfl,h⟩;cases m
 ·exact q_ h
 rename_i m;rw [I_.eq_2] at h;conv=>whnf
 refine bs h (fun qp h=>?_) fun qp h=>?_
 ·rw [qp];conv=>whnf
  refine qw h id fun qC h=>?_;rw [rS js r2 s2 qC];conv=>whnf
  refine D1 (x:=au.cells [(.ay [] 0 .full)]) (by first | exact qz.h | rfl | (simp [su,I.settle];done)) ?_
  conv=>whnf
  rw [rE];refine D1 (x:=au.cells [(hY (0:Int)),(.ay [] 0 .full)]) (by first | exact qz.h | rfl | (simp [su,I.settle];done)) ?_
  conv=>whnf
  rw [rE];refine D1 (x:=au.cells [(qG (ix r2 s2) .shared)]) (by first | exact qz.h | rfl | (simp [su,I.settle];done)) ?_
  conv=>whnf
  subst qS;refine amN ?_ ?_ (.inl rfl) (by exact rfl) h
  ·intro x6 p8 h qf;obtain ⟨qJ,rfl⟩:=qf.ex;(conv=>whnf);refine D1 (x:=au.cells [(qG (ix r2 s2) .shared)]) (by first | exact qz.h | rfl | (simp [su,I.settle];done)) ?_
   (conv=>whnf);obtain ⟨eJ,ra,h⟩:=qj h;refine ⟨qt.pl,_,Q_ ra,?_⟩;(conv=>whnf);subst sk;refine amO ?_ ?_ (.inl rfl) (by exact rfl) h
   ·intro x6 p8 h qf;obtain ⟨qJ,rfl⟩:=qf.ex;(conv=>whnf);obtain ⟨qA,rY,h⟩:=qj h;refine ⟨_,_,call7 (l:=[(hY t.1),(p9 x6 .full)]) (cs:=[(hY t.1),(p9 x6 .full)]) (sK _) (by first | exact qz.h | rfl | (simp [su,I.settle];done)) rfl (rj (p5 rfl (p5 (q7 (fun _=>(p5 rfl (p5 rfl rfl))) _ _ _) rfl))) (ds:=[(hY t.1),(p9 x6 .shared)]) rfl (VA rY),?_⟩
    rw [rE];(conv=>whnf);obtain ⟨qE,GY,h⟩:=qj h;refine ⟨_,_,IS (cs:=[(p9 qA .shared),(.func 105 [] [(.bW [(qG (ix r2 s2) .shared)])])]) (bs:=[(p9 qA .shared),(.func 105 [] [(.bW [(qG (ix r2 s2) .shared)])])]) (rB rfl (rB (Kt r6 (rB (I3 (cs:=[(qG (ix r2 s2) .shared)]) (by first | exact qz.h | rfl | (simp [su,I.settle];done)) rfl) r6)) r6)) (by rfl) (by exact (p5 (q7 (fun _=>(p5 rfl (p5 rfl rfl))) _ _ _) (p5 (JT rfl (p5 (rj (p5 (rO (fun _=>rfl) _ _ _) rfl)) rfl)) rfl))) (Rj ⟨(p5 (rj (p5 (rO (fun _=>rfl) _ _ _) rfl)) rfl),by simp⟩ (fun _ _ a2=>VB a2) GY) rfl,?_⟩
    (conv=>whnf);refine bs h (fun sa h=>?_) fun sa h=>?_
    ·rw [sa];(conv=>whnf);refine qw h id fun G_ h=>?_;erw [QM p4 2 qy qA (w (qE+(1:Int))) G_];(conv=>whnf);refine qw h id fun rT h=>?_;erw [Nz p4 2 qy qA (w (qE+(1:Int))) rT];(conv=>whnf);obtain ⟨sb,Hn,h⟩:=qj h;refine ⟨(p5 (Qr (p5 (q7 (fun _=>(p5 rfl (p5 rfl rfl))) _ _ _) (p5 (q7 (fun _=>(p5 rfl (p5 rfl rfl))) _ _ _) rfl))) rfl),_,VC Hn,Hu,?_⟩;(conv=>whnf);subst Kc;refine NY ?_ (by exact ⟨rfl,rfl⟩) h;intro F0 qu p8 h qf;obtain ⟨qJ,rfl⟩:=qf.ex;(conv=>whnf);exact ⟨m,sv m,F0,(w (s2+(1:Int))),_,rfl,rfl,h⟩
    ·rw [sa];(conv=>whnf);subst Kc;refine NY ?_ (by exact ⟨rfl,rfl⟩) h;intro F0 qu p8 h qf;obtain ⟨qJ,rfl⟩:=qf.ex;(conv=>whnf);exact ⟨m,sv m,F0,(w (s2+(1:Int))),_,rfl,rfl,h⟩
   ·intro x6 p8 h qf;obtain ⟨qJ,rfl⟩:=qf.ex;(conv=>whnf);obtain ⟨HR,KM,h⟩:=qj h;refine ⟨_,_,call7 (l:=[(hY t.1),(p9 x6 (.own 2))]) (cs:=[(hY t.1),(p9 x6 .shared)]) (sK _) (by first | exact qz.h | rfl | (simp [su,I.settle];done)) rfl (rj (p5 rfl (p5 (q7 (fun _=>(p5 rfl (p5 rfl rfl))) _ _ _) rfl))) (ds:=[(hY t.1),(p9 x6 .shared)]) rfl (VA KM),?_⟩
    rw [rE];(conv=>whnf);obtain ⟨Jl,KN,h⟩:=qj h;refine ⟨_,_,IS (cs:=[(p9 HR .shared),(.func 105 [] [(.bW [(qG (ix r2 s2) .shared)])])]) (bs:=[(p9 HR .shared),(.func 105 [] [(.bW [(qG (ix r2 s2) .shared)])])]) (rB rfl (rB (Kt r6 (rB (I3 (cs:=[(qG (ix r2 s2) .shared)]) (by first | exact qz.h | rfl | (simp [su,I.settle];done)) rfl) r6)) r6)) (by rfl) (by exact (p5 (q7 (fun _=>(p5 rfl (p5 rfl rfl))) _ _ _) (p5 (JT rfl (p5 (rj (p5 (rO (fun _=>rfl) _ _ _) rfl)) rfl)) rfl))) (Rj ⟨(p5 (rj (p5 (rO (fun _=>rfl) _ _ _) rfl)) rfl),by simp⟩ (fun _ _ a2=>VB a2) KN) rfl,?_⟩
    (conv=>whnf);refine bs h (fun Oz h=>?_) fun Oz h=>?_
    ·rw [Oz];(conv=>whnf);refine qw h id fun OA h=>?_;erw [QM p4 2 qy HR (w (Jl+(1:Int))) OA];(conv=>whnf);refine qw h id fun Tc h=>?_;erw [Nz p4 2 qy HR (w (Jl+(1:Int))) Tc];(conv=>whnf);obtain ⟨Hy,OB,h⟩:=qj h;refine ⟨(p5 (Qr (p5 (q7 (fun _=>(p5 rfl (p5 rfl rfl))) _ _ _) (p5 (q7 (fun _=>(p5 rfl (p5 rfl rfl))) _ _ _) rfl))) rfl),_,VC OB,Hu,?_⟩;(conv=>whnf);subst Kc;refine NY ?_ (by exact ⟨rfl,rfl⟩) h;intro r8 qu p8 h qf;obtain ⟨qJ,rfl⟩:=qf.ex;(conv=>whnf);exact ⟨m,sv m,r8,(w (s2+(1:Int))),_,rfl,rfl,h⟩
    ·rw [Oz];(conv=>whnf);subst Kc;refine NY ?_ (by exact ⟨rfl,rfl⟩) h;intro r8 qu p8 h qf;obtain ⟨qJ,rfl⟩:=qf.ex;(conv=>whnf);exact ⟨m,sv m,r8,(w (s2+(1:Int))),_,rfl,rfl,h⟩
  ·intro x6 p8 h qf;obtain ⟨qJ,rfl⟩:=qf.ex;(conv=>whnf);refine D1 (x:=au.cells [(qG (ix r2 s2) .shared)]) (by first | exact qz.h | rfl | (simp [su,I.settle];done)) ?_
   (conv=>whnf);obtain ⟨Hf,afS,h⟩:=qj h;refine ⟨qt.pl,_,Q_ afS,?_⟩;(conv=>whnf);subst sk;refine amP ?_ (by exact rfl) h;intro sn p8 h qf;obtain ⟨qJ,rfl⟩:=qf.ex;(conv=>whnf);obtain ⟨Kp,afV,h⟩:=qj h;refine ⟨_,_,call7 (l:=[(hY t.1),(p9 sn (.own 2))]) (cs:=[(hY t.1),(p9 sn .shared)]) (sK _) (by first | exact qz.h | rfl | (simp [su,I.settle];done)) rfl (rj (p5 rfl (p5 (q7 (fun _=>(p5 rfl (p5 rfl rfl))) _ _ _) rfl))) (ds:=[(hY t.1),(p9 sn .shared)]) rfl (VA afV),?_⟩
   rw [rE];(conv=>whnf);obtain ⟨OS,afW,h⟩:=qj h;refine ⟨_,_,IS (cs:=[(p9 Kp .shared),(.func 105 [] [(.bW [(qG (ix r2 s2) .shared)])])]) (bs:=[(p9 Kp .shared),(.func 105 [] [(.bW [(qG (ix r2 s2) .shared)])])]) (rB rfl (rB (Kt r6 (rB (I3 (cs:=[(qG (ix r2 s2) .shared)]) (by first | exact qz.h | rfl | (simp [su,I.settle];done)) rfl) r6)) r6)) (by rfl) (by exact (p5 (q7 (fun _=>(p5 rfl (p5 rfl rfl))) _ _ _) (p5 (JT rfl (p5 (rj (p5 (rO (fun _=>rfl) _ _ _) rfl)) rfl)) rfl))) (Rj ⟨(p5 (rj (p5 (rO (fun _=>rfl) _ _ _) rfl)) rfl),by simp⟩ (fun _ _ a2=>VB a2) afW) rfl,?_⟩
   (conv=>whnf);refine bs h (fun Ti h=>?_) fun Ti h=>?_
   ·rw [Ti];(conv=>whnf);refine qw h id fun afX h=>?_;erw [QM p4 2 qy Kp (w (OS+(1:Int))) afX];(conv=>whnf);refine qw h id fun afY h=>?_;erw [Nz p4 2 qy Kp (w (OS+(1:Int))) afY];(conv=>whnf);obtain ⟨T0,afZ,h⟩:=qj h;refine ⟨(p5 (Qr (p5 (q7 (fun _=>(p5 rfl (p5 rfl rfl))) _ _ _) (p5 (q7 (fun _=>(p5 rfl (p5 rfl rfl))) _ _ _) rfl))) rfl),_,VC afZ,Hu,?_⟩;(conv=>whnf);subst Kc;refine NY ?_ (by exact ⟨rfl,rfl⟩) h;intro Ip qu p8 h qf;obtain ⟨qJ,rfl⟩:=qf.ex;(conv=>whnf);exact ⟨m,sv m,Ip,(w (s2+(1:Int))),_,rfl,rfl,h⟩
   ·rw [Ti];(conv=>whnf);subst Kc;refine NY ?_ (by exact ⟨rfl,rfl⟩) h;intro Ip qu p8 h qf;obtain ⟨qJ,rfl⟩:=qf.ex;(conv=>whnf);exact ⟨m,sv m,Ip,(w (s2+(1:Int))),_,rfl,rfl,h⟩
 ·rw [qp];conv=>whnf
  exact rD _ _ _ h ⟨rfl,rfl⟩
theorem VV {t:qk} {v:qq} (h:Ky t=some v):qD 83 [(.bW [(hY t.1),(.ay (t.2.flatMap p4) t.2.length .shared)])] (.ay (v.map (qv p4)) v.length .shared):=by
 refine qZ dM ahY rfl (rO (fun _=>(q7 (fun _=>(p5 rfl (p5 rfl rfl))) _ _ _)) _ _ _) fun Q bo=>?_;have jG:qK [.tmp 2] Q (fun v=>(.ay (v.map (qv p4)) v.length .shared)) v:=fun T H bK=>bo _ T H bK;unfold Ky at h;unfold ac5;obtain ⟨aex,Oq⟩:∃ c,RN=c:=⟨_,rfl⟩;rw [Oq];conv=>whnf
 obtain ⟨r1,e0,h⟩:=qj h;refine ⟨qt.pl,_,VT e0,?_⟩;conv=>whnf
 obtain ⟨r2,fs,h⟩:=qj h;refine ⟨qt.pl,_,Q' fs,?_⟩;conv=>whnf
 subst Oq;refine amM ?_ (by exact rfl) h;intro HA qu p8 h qf;obtain ⟨qJ,rfl⟩:=qf.ex;conv=>whnf
 exact qc h jG rfl rfl
end Go.Proofs.YtfakoboiahbhaaaGreat.Ab


namespace Go.Proofs.YtfakoboiahbhaaaGreat.Ab
open Go
theorem aly {x y:Row} (h:0<x.length+y.length) (af:x.length+y.length≤24):NK [x,y]=some (x++y):=by
 have fY:ix [x,y] (0:Int)=x:=rfl;have e1:ix [x,y] (1:Int)=y:=rfl;have w0:w ((0:Int)+1)=1:=by decide
 have bF:w ((1:Int)+1)=2:=by decide
 have ak:([x,y]:List Row).length=2:=rfl;rw [NK,show qe=18446744073709551613+3 from rfl,Lx,ak,if_pos (by decide),qx (by decide),fY,HF (n:=(0:Int)+(x.length:Int)) (by omega),if_neg (by simp),w0,Lx,ak,if_pos (by decide),qx (by decide),e1,HF (n:=(0:Int)+(x.length:Int)+(y.length:Int)) (by omega),if_neg (by simp;omega),bF,Lx,ak,if_neg (by decide),VF,qx ⟨rfl,by omega,by omega⟩,sq,Ly,ak,if_pos (by decide),qx (by decide),fY,qx (by simp;omega),w0,Ly,ak,if_pos (by decide),qx (by decide),e1,qx (by simp;omega),bF,Ly,ak,if_neg (by decide)];rfl
section
variable {b t:qb} {S:List Int} {r2:List (List Int)} {s2:Int}
theorem ab6 (he:ix r2 s2=S) (cp:rL t S) (ak:S.length≤1000) {k:Row→Option (List Row)}:∀ (m i:Nat) (z:Int),z=i→i≤S.length→S.length-i<m→MH t r2 s2 k m z ((S.take i).map (ix t.2))=k (S.map (ix t.2))
 | 0,_,_,_,_,h=>absurd h (by omega)
 | m+1,i,_,rfl,hi,hm=>by
   rw [MH,he];by_cases h:(i:Int)<(S.length:Int)
   ·(have q':i<S.length:=by omega);have ai:=cp _ (sL q');rw [if_pos (decide_eq_true h),qx ⟨by omega,h⟩,rm q',qx ai,qx (by simp;omega),r4 i (by omega)];(have e:(S.take i).map (ix t.2)++[ix t.2 S[i]]=(S.take (i+1)).map (ix t.2):=by rw [KY q',ti];rfl);rw [e];exact ab6 he cp ak m (i+1) _ rfl (by omega) (by omega)
   ·rw [if_neg (by simpa using h),show i=S.length by omega,tE]
theorem ab7 {o:List Int} (aq:o.length≤1000) {k:Row→Option (List Row)}:∀ (m i:Nat) (z:Int) (acc:Row),z=i→acc.length+o.length≤10000+i→o.length+2-i<m→i≤o.length+1→acc.length≤10000+i→J2 o k m z acc=k (acc++Hz (o.drop i))
 | 0,_,_,_,_,_,h,_,_=>absurd h (by omega)
 | m+1,i,_,acc,rfl,cg,hm,hi,anv=>by
   rw [J2,r4 i (by omega)];by_cases h:((i+1:Nat):Int)<(o.length:Int)
   ·(have ad:i<o.length:=by omega);(have af:i+1<o.length:=by omega);rw [if_pos (decide_eq_true h),qx ⟨by omega,by omega⟩,qx ⟨by omega,h⟩,qx (by omega),rm ad,rm af,HF (n:=(i:Int)+2) (by omega),ab7 aq m (i+2) _ _ (by omega) (by simp;omega) (by omega) (by omega) (by simp;omega)];rw [tf ad,tf af,Hz];simp
   ·rw [if_neg (by simpa using h)]
    have:Hz (o.drop i)=[]:=by
     have ak:(o.drop i).length≤1:=by simp;omega
     match o.drop i,ak with
     | [],_=>rfl
     | [_],_=>rfl
     | _::_::_,h=>simp at h
    rw [this,sU]
theorem VU (he:ix r2 s2=S) {dx:Row} {T:qb} (aw:∀ p∈dx,HI T p) (ak:dx.length≤1000) {k:List Row→Option (List Row)}:∀ (m i:Nat) (z:Int) (out:List Row) (own:Row),z=i→i≤dx.length→dx.length-i<m→out.length≤1000+i→own.length≤i →
  LH r2 s2 dx (fun x6 ox=>if (decide ((0:Int)<(ox.length:Int)))=true then qh ((x6.length+1)*24≤140737488355328) <| k (x6++[ox]) else k x6) m out own z=k (out++sh S own (dx.drop i))
 | 0,_,_,_,_,_,_,h,_,_=>absurd h (by omega)
 | m+1,i,_,out,own,rfl,hi,hm,ad,af=>by
   rw [LH,he];by_cases h:(i:Int)<(dx.length:Int)
   ·(have q':i<dx.length:=by omega);have aC:=aw _ (sL q');rw [if_pos (decide_eq_true h),qx ⟨by omega,h⟩,rm q',tf q',sh,r4 i (by omega)];by_cases aU:dx[i].1<(S.length:Int)
    ·rw [if_pos (decide_eq_true aU),if_pos aU,qx ⟨aC.1,aU⟩,qx (by omega)];exact VU he aw ak m (i+1) _ out _ rfl (by omega) (by omega) (by omega) (by simp;omega)
    ·rw [if_neg (by simpa using aU),if_neg aU,qx (by omega),VU he aw ak m (i+1) _ (out++[own]) [] rfl (by omega) (by omega) (by simp;omega) (by simp)];simp
   ·rw [if_neg (by simpa using h),List.drop_eq_nil_of_le (by omega),sh];by_cases aS:0<own.length
    ·rw [if_pos (by simpa using aS),if_pos aS,qx (by omega)]
    ·rw [if_neg (by simpa using aS),if_neg aS,sU]
theorem amX {s:List (Int×Int)} {f:Int×Int→Option Bool} {p:Int×Int→Bool} (aQ:∀ x∈s,f x=some (p x)) (ai:s.length≤140737488355328):LJ s f=some (posOf p s 0):=by
 have:=VX aQ ai qe 0 0 rfl (sK _) (rR (by omega));rw [tb] at this;rw [LJ,this]
def HQ (b:qb) (r:List Int):Nat:=max 1 ((q3 b r).length / 2)
theorem TO (r:List Int):HQ b r≤3:=by
 have aq:(q3 b r).length≤6:=sW (tO _ _) (by rw [se];omega);unfold HQ;omega
def G9 (b:qb):Nat:=((parts b).map (HQ b)).sum
theorem ab5 (p7:qM b) {P:List (List Int)} (Cb:rz b (upto b.2.length) P) {k:List Row→Option (List Row)}:∀ (m i:Nat) (z:Int) (out:List Row),z=i→i≤P.length→P.length-i<m→RowsOf b (P.take i).flatten out→(∀ r∈out,r≠[])→out.length=((P.take i).map (HQ b)).sum →
  ∃ G4,I_ b P k m out z=k G4∧RowsOf b P.flatten G4∧(∀ r∈G4,r≠[])∧G4.length=(P.map (HQ b)).sum
 | 0,_,_,_,_,_,h,_,_,_=>absurd h (by omega)
 | m+1,i,_,out,rfl,hi,hm,jG,bO,hlen=>by
   have dD:=p7.len;have bX:=p7.f6;have OE:=Cb.Kb I7;rw [I_];by_cases h:(i:Int)<(P.length:Int)
   ·(have q':i<P.length:=by omega);obtain ⟨S,PV⟩:∃ S,S=P[i]:=⟨_,rfl⟩;(have PX:S∈P:=by rw [PV];exact sL q');(have he:ix P (i:Int)=S:=by rw [rm q',PV]);have Oy:rL b S:=Cb.L7 I7 S PX;(have afG:S.Nodup:=(Cb.II S PX).imp fun h e=>by omega);have PW:S.length≤b.2.length:=KS afG Oy;have Kf:=Cb.ne S PX;obtain ⟨l,a,al,bE,aO⟩:=round_part p7 Oy (by omega) Kf (Cb.aeX PX);have Ta:=Y4 p7 Oy Kf bE aO;have aq:(q3 b S).length≤6:=sW (tO _ _) (by rw [se];omega);have Gf:l.length=S.length+(q3 b S).length / 2:=by
     have:=bE.upto.length_eq
     rwa [tj,se,NB] at this
    (have anI:0<l.length:=by have:=tT.2 Kf;omega);have agE:∀ l:List (List Int),(l.map (HQ b)).sum≤3*l.length:=fun l=>by
     induction l with
     | nil=>simp
     | cons x l bb=>rw [sy,tn,sP];have:=TO (b:=b) x;omega
    have CW:out.length≤30:=by
     have:=agE (P.take i);rw [ta] at this;omega
    have Kk:∃ G4,I_ b P k m (out++sh S [] (Kr S l)) (w ((i:Int)+1))=k G4∧RowsOf b P.flatten G4∧(∀ r∈G4,r≠[])∧G4.length=(P.map (HQ b)).sum:=by
     rw [r4 i (by omega)];refine ab5 p7 Cb m (i+1) _ _ rfl (by omega) (by omega) ?_ ?_ ?_
     ·rw [KY q',vl,←PV];simpa using jG.app Ta.toRowsOf
     ·intro r aj;rcases te.1 aj with aj | aj
      ·exact bO r aj
      ·exact Ta.ne r aj
     ·rw [sA,hlen,Ta.len,KY q',ti,v3,←PV];simp [HQ]
    have aw:∀ (hb:Nat) (l':Row),l'=Kr S l→(∀ p∈l',HI (sm b S) p)→l'.length≤1000→LG P out (i:Int) (fun F0=>I_ b P k m F0 (w ((i:Int)+1))) l'=I_ b P k m (out++sh S [] (Kr S l)) (w ((i:Int)+1)):=fun _ l' e dE fg=>by
     rw [LG];refine (VU (T:=sm b S) (k:=fun F0=>I_ b P k m F0 (w ((i:Int)+1))) he dE fg qe 0 0 out [] rfl (by omega) (rR (by omega)) (by omega) (by simp)).trans ?_;rw [tb,e]
    rw [if_pos (decide_eq_true h),qx ⟨by omega,h⟩]
    have fg:=ab6 (t:=b) (r2:=P) (s2:=(i:Int)) (S:=S) he Oy (by omega) (k:=fun x6 =>
      (LF b (ix P (i:Int))).bind fun eJ =>
      J2 eJ (fun x6 =>
        (Mf (b.1,x6)).bind fun qA =>
        (LJ qA (fun q1=>Pc q1 (ix P (i:Int)))).bind fun qE =>
        if (decide ((0:Int)≤qE))=true then
         qh (0≤(w (qE+(1:Int)))∧(w (qE+(1:Int)))≤(qA.length:Int)) <|
         qh (0≤(w (qE+(1:Int)))∧(w (qE+(1:Int)))≤(qA.length:Int)) <|
         (NK [(qA.drop (w (qE+(1:Int))).toNat),(qA.take (w (qE+(1:Int))).toNat)]).bind fun sb =>
         LG P out (i:Int) (fun F0 =>
           I_ b P k m F0 (w ((i:Int)+(1:Int)))) sb
        else
         LG P out (i:Int) (fun F0 =>
           I_ b P k m F0 (w ((i:Int)+(1:Int)))) qA) qe (0:Int) x6) qe 0 0 rfl (by omega) (rR (by omega))
    rw [tu,tA] at fg;rw [fg,he,VQ p7 Oy (by omega),sq,ab7 (by omega) qe 0 0 _ rfl (by simp;omega) (rR (by omega)) (by omega) (by simp;omega),tb];have nG:Mf (b.1,S.map (ix b.2)++Hz (q3 b S))=some l:=al;rw [nG,sq,amX (p:=fun p=>!G2 S p) (fun p _=>by rw [Pc];unfold G2;congr 1;by_cases ao:p.1<(S.length:Int) <;> simp [ao] <;> omega) (by omega),sq];rcases TW (fun p=>!G2 S p) l 0 with ⟨ad,af⟩ | ⟨dO,q,kS,agf,af,aG⟩
    ·rw [ad,if_neg (by decide),aw 0 l (by unfold Kr;rw [ad];rfl) bE.ok (by omega)];exact Kk
    ·(have cF:dO.length+1≤l.length:=by rw [agf];simp);have agz:Kr S l=l.drop (dO.length+1)++l.take (dO.length+1):=by
      unfold Kr;rw [aG];simp only [tc];rw [if_pos (by omega),show ((dO.length:Int)+1).toNat=dO.length+1 by omega]
     rw [aG,tc,if_pos (by simp),r4 _ (by omega),qx ⟨by omega,by omega⟩,qx ⟨by omega,by omega⟩,tI,aly (by simp;omega) (by simp;omega),sq,aw 0 _ agz.symm ?_ ?_]
     ·exact Kk
     ·intro p aC;rcases te.1 aC with aC | aC
      ·exact bE.ok p (List.mem_of_mem_drop aC)
      ·exact bE.ok p (List.mem_of_mem_take aC)
     ·simp;omega
   ·rw [if_neg (by simpa using h)]
    have:i=P.length:=by omega
    subst this;rw [tE] at jG hlen;exact ⟨out,rfl,jG,bO,hlen⟩
structure MR (b:qb) (R:List Row):Prop extends RowsOf b (upto b.2.length) R where
 ne:∀ r∈R,r≠[]
 len:R.length=G9 b
theorem rz.flat {P:List (List Int)} {S:List Int} (cp:S.Nodup) (Cb:rz b S P):P.flatten.Perm S:=by
 refine (uO Cb.XH cp).2 fun x=>?_;rw [Cb.mem x,List.mem_flatten]
theorem Rd (p7:qM b):∃ R,Ky b=some R∧MR b R:=by
 obtain ⟨ad,af,_⟩:=K3 p7;have hlen:=p7.len;obtain ⟨R,r1,r2,eJ,qA⟩:=ab5 p7 af (k:=fun HA=>some HA) qe 0 0 [] rfl (by omega) (rR (by have:=af.Kb I7;omega)) (by rw [tu];exact RowsOf.nil) (fun r aj=>absurd aj (by simp)) (by simp);refine ⟨R,?_,⟨⟨r2.ok,r2.go,r2.all.trans (af.flat (IJ _))⟩,eJ,qA⟩⟩;rw [Ky,VS (by omega),sq,ad,sq];exact r1
end
end Go.Proofs.YtfakoboiahbhaaaGreat.Ab


namespace Go.Proofs.YtfakoboiahbhaaaGreat.Ab
open Go
instance {d:Nat} {l:List I} [h:qt d l]:qt d (l.map I.g0):=⟨by
 have h:=h.pl;rw [sS] at h ⊢;intro u hu;obtain ⟨v,ae,rfl⟩:=sJ.1 hu;have:=h v ae;cases d with
 | zero=>simp [ct] at this
 | succ d=>cases v with
   | ay cs n c=>cases c <;> exact this
   | _=>exact this⟩
end Go.Proofs.YtfakoboiahbhaaaGreat.Ab


namespace Go.Proofs.YtfakoboiahbhaaaGreat.Ab
open Go
set_option maxRecDepth 20000
set_option maxHeartbeats 4000000
noncomputable def RE:eE :=
 .loop (some (ED false [1,2,1,3,23])) (.seq (GD [Gs 10 6,Gs 11 1,Gp 12 11,F5 13 10 12 .lss] (.cond (.sl 13) .skip (.exit 0))) (.seq (.block 1 (Gx [gV 16 [.sl 5] (.oY 1),gV 17 [.hS 16] .take,gV 18 [.sl 2] (.oY 1),Gq 19 18,Gs 20 1,Gs 21 6,Gl 22 20 21 1,Gq 23 22,Gl 24 19 23 2,gV 25 [.hS 24] (.p2 (.str 2)),gV 26 [.hS 25] (.yg 1 2 [.int .i64 0,.int .i64 0] [0]),gV 27 [.hP 17,.hP 26] (.app 2 16),gV 28 [.sl 5] (.oY 1),⟨none,[.hP 28,.hP 27],none,none,.st 1⟩])) (Gw [Gt 14 6,F3 15 14 1,Gt 6 15])))
noncomputable def acP:eE :=
 GD [gV 2 [.hP 0] .box,gV 4 [] (.alloc [.int .i64 0,.ay [] 0 .full])] (GD [gV 7 [.sl 2] (.oY 0),Gq 8 7,gV 9 [.hS 8] (.build [.int .i64 0,.ay [] 0 .full] [(0,1)]),gV 5 [] (.alloc [.int .i64 0,.ay [] 0 .full]),⟨none,[.sl 5,.hP 9],none,none,.st 2⟩] (.seq (GD [Gr 6 0] (.block 0 RE)) (GD [gV 29 [.hS 5] (.p2 (.str 2)),⟨none,[.sl 4,.hP 29],none,none,.st 2⟩] .ret)))
theorem ahI:zm Tryz.prog Sa 51=some (acP,30,[.cell 4 (.str 2)]):=by kernel_rfl
def My (b:qk) (qm:ql) (qi:p'→Option qk):Nat→Int→p'→Option qk
 | 0,_,_=>none
 | m+1,s1,s2 =>
   if (decide (s1<(qm.length:Int)))=true then
    qh (0≤s1∧s1<(qm.length:Int)) <|
    qh (0≤(ix qm s1)∧(ix qm s1)<(b.2.length:Int)) <|
    qh ((s2.length+1)*16≤140737488355328) <|
    My b qm qi m (w (s1+(1:Int))) (s2++[(ix b.2 (ix qm s1))])
   else
    qi s2
def Pp (b:qk) (qm:ql):Option qk :=
 My b qm (fun x6 =>
   some (b.1,x6)) qe (0:Int) ([]:List (Int×Int))
theorem amt {b:qk} {qm:ql} {qi:p'→Option qk} {s1:Int} {s2:p'} {v:qk} {Q:q8}   {Ld:iB} (rD:∀ (x6:p') (bD:au) (p8:List I),qi x6=some v→qO 30 [(4,(.ptr 1 0)),(5,(.ptr 2 0))] p8→Q (.exit 0) p8 [bD,au.cells [(hY (0:Int)),(.ay [] 0 .full)],au.cells [(hY b.1),(p9 x6 .full)]]) (agd:∀ (x6:p') (bD:au) (p8:List I),qi x6=some v→qO 30 [(4,(.ptr 1 0)),(5,(.ptr 2 0))] p8→Q (.exit 0) p8 [bD,au.cells [(hY (0:Int)),(.ay [] 0 .full)],au.cells [(hY b.1),(p9 x6 (.own 2))]]) (Tl:(Ld=iB.full∨Ld=(.own 2))) {T:List I} (bZ:eX (ED false [1,2,1,3,23]) T=GI 30 [(1,(qG qm .shared)),(2,(.ptr 0 0)),(4,(.ptr 1 0)),(5,(.ptr 2 0)),(6,(hY s1))]) (h:My b qm qi qe s1 s2=some v) :
  dG Tryz.prog Sa 51 0 none RE T [qI b,au.cells [(hY (0:Int)),(.ay [] 0 .full)],au.cells [(hY b.1),(.ay (s2.flatMap p4) s2.length Ld)]] Q:=by
 unfold RE;refine wp_loop bZ ?_;refine .intro (fun m T H=>∃ (s1:Int) (s2:p') (Ld:iB),(Ld=iB.full∨Ld=(.own 2))∧T=GI 30 [(1,(qG qm .shared)),(2,(.ptr 0 0)),(4,(.ptr 1 0)),(5,(.ptr 2 0)),(6,(hY s1))]∧H=[qI b,au.cells [(hY (0:Int)),(.ay [] 0 .full)],au.cells [(hY b.1),(.ay (s2.flatMap p4) s2.length Ld)]]∧My b qm qi m s1 s2=some v) qe ⟨s1,s2,_,Tl,rfl,rfl,h⟩ ?_;clear h bZ;rintro m T H ⟨s1,s2,Ld,Tl,rfl,rfl,h⟩;cases m
 ·exact q_ h
 rename_i m;rw [My.eq_2] at h;rcases Tl with rfl | rfl
 ·conv=>whnf
  refine bs h (fun e0 h=>?_) fun e0 h=>?_
  ·rw [e0];(conv=>whnf);refine qw h id fun fs h=>?_;rw [rS hY qm s1 fs];(conv=>whnf);refine qw h id fun qp h=>?_;rw [qY p4 2 qy b.2 (ix qm s1) qp];(conv=>whnf);obtain ⟨qC,h⟩:=qF h;refine ⟨by first | rfl | (simp;done) | exact ry p4 _ qy _,by have:=qC;omega,by decide,qC,by first | rfl | (simp;done) | exact ry p4 _ qy _,?_⟩
   erw [rI p4 s2 (ix b.2 (ix qm s1))];(conv=>whnf);exact ⟨m,sv m,(w (s1+(1:Int))),(s2++[(ix b.2 (ix qm s1))]),_,(.inr rfl),rfl,rfl,h⟩
  ·rw [e0];(conv=>whnf);exact rD _ _ _ h ⟨rfl,rfl⟩
 ·conv=>whnf
  refine bs h (fun e0 h=>?_) fun e0 h=>?_
  ·rw [e0];(conv=>whnf);refine qw h id fun fs h=>?_;rw [rS hY qm s1 fs];(conv=>whnf);refine qw h id fun qp h=>?_;rw [qY p4 2 qy b.2 (ix qm s1) qp];(conv=>whnf);obtain ⟨qC,h⟩:=qF h;refine ⟨by first | rfl | (simp;done) | exact ry p4 _ qy _,by have:=qC;omega,rfl,qC,?_⟩
   erw [rI p4 s2 (ix b.2 (ix qm s1))];(conv=>whnf);exact ⟨m,sv m,(w (s1+(1:Int))),(s2++[(ix b.2 (ix qm s1))]),_,(.inr rfl),rfl,rfl,h⟩
  ·rw [e0];(conv=>whnf);exact agd _ _ _ h ⟨rfl,rfl⟩
theorem amu {b:qk} {qm:ql} {v:qk} (h:Pp b qm=some v):qD 51 [(.agg [(hY b.1),(.ay (b.2.flatMap p4) b.2.length .shared)]),(.ay (qm.map hY) qm.length .shared)] (.agg [(hY v.1),(.ay (v.2.flatMap p4) v.2.length .shared)]):=by
 refine qZ dM ahI rfl (JD (p5 rfl (p5 (q7 (fun _=>(p5 rfl (p5 rfl rfl))) _ _ _) rfl))) fun Q bo=>?_;have jG:qK [.cell 4 (.str 2)] Q (fun v=>(aet v)) v:=fun T H bK=>bo _ T H bK;unfold Pp at h;unfold acP;obtain ⟨HD,qS⟩:∃ c,RE=c:=⟨_,rfl⟩;rw [qS];conv=>whnf
 subst qS;refine amt ?_ ?_ (.inl rfl) (by exact rfl) h
 ·intro x6 bD p8 h qf;obtain ⟨qJ,rfl⟩:=qf.ex;conv=>whnf
  exact qc h jG rfl rfl
 ·intro x6 bD p8 h qf;obtain ⟨qJ,rfl⟩:=qf.ex;conv=>whnf
  exact qc h jG rfl rfl

end Go.Proofs.YtfakoboiahbhaaaGreat.Ab


namespace Go.Proofs.YtfakoboiahbhaaaGreat.Ab
open Go
set_option maxRecDepth 20000
set_option maxHeartbeats 4000000
noncomputable def acH:eE :=
 GD [gV 1 [.hP 0] .box,Gr 2 0,Gr 3 0] (GD [gV 7 [.hS 1] (.p2 (.str 2)),gV 8 [.iK (.func 64 [] []),.sl 7] (.call 3),Gt 6 8,GL 9 6 0,gV 10 [.hS 6] (.ext 1),Gt 4 9,Gt 5 10] (.seq (GD [Gs 11 5,F4 12 11 0 .neq] (.cond (.sl 12) (GD [Gt 13 5,Gr 2 0,Gt 3 13] .ret) .skip)) (GD [Gt 14 4,gV 15 [.iK (.func 83 [] []),.sl 14] (.call 3),Gp 16 15,Gt 2 16,Gr 3 0] .ret)))
theorem ahA:zm Tryz.prog WI 35=some (acH,17,[.tmp 2,.tmp 3]):=by kernel_rfl
def Pm (b:qk):Option (Int×Int) :=
 (Jo b).bind fun r1 =>
 match r1 with
 | (none,aV) =>
   if (decide (aV≠(0:Int)))=true then
    some ((0:Int),aV)
   else
    none
 | (some bT,aV) =>
   if (decide (aV≠(0:Int)))=true then
    some ((0:Int),aV)
   else
    (Ky bT).bind fun r2 =>
    some ((r2.length:Int),(0:Int))
theorem al7 {b:qk} {v:(Int×Int)} (h:Pm b=some v):qD 35 [(.agg [(hY b.1),(.ay (b.2.flatMap p4) b.2.length .shared)])] (.tuple [(hY v.1),(hY v.2)]):=by
 refine qZ dM ahA rfl (IX (p5 rfl (p5 rfl rfl))) fun Q bo=>?_;have jG:qK [.tmp 2,.tmp 3] Q (fun v=>(.tuple [(hY v.1),(hY v.2)])) v:=fun T H bK=>bo _ T H bK;unfold Pm at h;unfold acH;conv=>whnf
 obtain ⟨r1,e0,h⟩:=qj h;rcases r1 with ⟨_ | bT,aV⟩
 ·refine ⟨qt.pl,_,JG e0,?_⟩;conv=>whnf
  refine bs h (fun fs h=>?_) fun fs h=>?_
  ·rw [fs];(conv=>whnf);exact qc h jG rfl rfl
  ·rw [fs];(conv=>whnf);exact q_ h
 ·refine ⟨qt.pl,_,JG e0,?_⟩;conv=>whnf
  refine bs h (fun qp h=>?_) fun qp h=>?_
  ·rw [qp];(conv=>whnf);exact qc h jG rfl rfl
  ·rw [qp];(conv=>whnf);obtain ⟨r2,qC,h⟩:=qj h;refine ⟨qt.pl,_,VV qC,?_⟩;(conv=>whnf);exact qc h jG rfl rfl

end Go.Proofs.YtfakoboiahbhaaaGreat.Ab


namespace Go.Proofs.YtfakoboiahbhaaaGreat.Ab
open Go
def Md (b:qb) (S:List Int):qb:=(b.1,S.map (ix b.2))
section
variable {b:qb} {S:List Int}
theorem Y3:(Md b S).2.length=S.length:=by simp [Md]
theorem aiu (p7:qM b) (cp:rL b S) (ak:S.length≤10):qM (Md b S):=by
 refine ⟨p7.f1,p7.f6,by rw [Y3];exact ak,fun s ai=>?_,fun s ai=>?_⟩
 all_goals
  obtain ⟨i,hi,rfl⟩:=sJ.1 ai;have hm:=OK (l:=b.2) (i:=i) (cp i hi)
 ·exact p7.left _ hm
 ·exact p7.right _ hm
theorem aiv (v:Int):qN (Md b S) (upto (Md b S).2.length) v=qN b S v:=by
 rw [Xq,Sz];rfl
theorem aiw:q6 (Md b S)=q3 b S:=by
 unfold q6 q3;simp only [aiv]
theorem abR (cp:rL b S) (ak:S.length≤1000) {k:Row→Option qb}:∀ (m i:Nat) (z:Int),z=i→i≤S.length→S.length-i<m→My b S k m z ((S.take i).map (ix b.2))=k (S.map (ix b.2))
 | 0,_,_,_,_,h=>absurd h (by omega)
 | m+1,i,_,rfl,hi,hm=>by
   rw [My];by_cases h:(i:Int)<(S.length:Int)
   ·(have q':i<S.length:=by omega);have ai:=cp _ (sL q');(have e:(S.take i).map (ix b.2)++[ix b.2 S[i]]=(S.take (i+1)).map (ix b.2):=by rw [KY q',ti];rfl);have aj:=abR cp ak (k:=k) m (i+1) _ rfl (by omega) (by omega);rw [if_pos (decide_eq_true h),qx ⟨by omega,h⟩,rm q',qx ai,qx (by simp;omega),r4 i (by omega),e];exact aj
   ·rw [if_neg (by simpa using h),show i=S.length by omega,tE]
theorem ams (cp:rL b S) (ak:S.length≤1000):Pp b S=some (Md b S):=by
 rw [Pp];have:=abR cp ak (k:=fun x6=>some (b.1,x6)) qe 0 0 rfl (by omega) (rR (by omega));rw [tu,tA] at this;exact this
theorem akR (n:Nat):(n:Int).tdiv 2=((n / 2:Nat):Int):=by
 rw [Int.tdiv_eq_ediv_of_nonneg (by omega)];rfl
theorem Y9 (p7:qM b):∀ r∈parts b,rL b r∧r.length≤10:=fun r aj=>by
 have h:=(K3 p7).2.1;have dD:=p7.len;have ad:=h.L7 I7 r aj;exact ⟨ad,sW (KS ((h.II r aj).imp fun h e=>by omega) ad) dD⟩
theorem TS (p7:qM b):(parts b).length≤10:=sW ((K3 p7).2.1.Kb I7) p7.len
theorem Pr (p7:qM b):Jo b=some (some b,0):=by
 rw [Jo,Q2 b (by have:=p7.len;omega),sq,Hi.2 p7];rfl
theorem Pq (ag:b.2.length≤1000) (h:ri b≠0):Jo b=some (none,ri b):=by
 rw [Jo,Q2 b ag,sq,if_pos (by simpa using h)]
def Om (b:qb):Int×Int:=if ri b≠0 then (0,ri b) else (G9 b,0)
theorem Xz (p7:qM b):Om b=((G9 b:Int),0):=by unfold Om;rw [if_neg (by rw [Hi.2 p7];simp)]
theorem aff (h:ri b≠0):Om b=(0,ri b):=by unfold Om;rw [if_pos h]
theorem al6 (ag:b.2.length≤1000):Pm b=some (Om b):=by
 rw [Pm];by_cases h:ri b=0
 ·have p7:=Hi.1 h;obtain ⟨R,ad,af⟩:=Rd p7;rw [Pr p7,sq,Xz p7];show (if decide ((0:Int)≠0)=true then _ else (Ky b).bind fun r2=>some ((r2.length:Int),(0:Int)))=_;rw [if_neg (by decide),ad,sq,af.len]
 ·rw [Pq ag h,sq,aff h];show (if decide (ri b≠0)=true then some ((0:Int),ri b) else none)=_;rw [if_pos (by simpa using h)]
def LK (b:qb) (S:List Int):Prop:=∀ x∈S,∀ y∈S,∀ f g,re b x f→re b y g→rV b S f g
theorem rz.one {out:List (List Int)} (h:rz b S out) (aS:S≠[]):out.length=1↔LK b S:=by
 constructor
 ·intro ad;obtain ⟨r,rfl⟩:∃ r,out=[r]:=List.length_eq_one_iff.1 ad;intro x al y a2 f g aQ aO;have hm:∀ z∈S,z∈r:=fun z bp=>by
   obtain ⟨q,a5,Yi⟩:=(h.mem z).1 bp;rw [sQ.1 a5] at Yi;exact Yi
  exact h.Jb r (by simp) x (hm x al) y (hm y a2) f g aQ aO
 ·intro bK;obtain ⟨x,al⟩:=vY S aS;obtain ⟨r,aj,JQ⟩:=(h.mem x).1 al;have all:∀ q∈out,q=r:=fun q a5=>by
   obtain ⟨y,a2⟩:=vY q (h.ne q a5);have Yh:=(h.mem y).2 ⟨q,a5,a2⟩;have:=h.closed aj JQ (f:=(ix b.2 x).1) (g:=(ix b.2 y).1) (.inl rfl) (bK x al y Yh _ _ (.inl rfl) (.inl rfl)) y Yh (.inl rfl);exact h.uniq a5 aj a2 this
  match out,aj,all,h with
  | [q],_,_,_=>rfl
  | q::fT::l,_,all,h =>
    exfalso;have e1:=all q (by simp);have cm:=all fT (by simp);obtain ⟨y,a2⟩:=vY q (h.ne q (by simp));exact (List.pairwise_cons.1 h.rP).1 fT (by simp) y a2 (by rw [cm,←e1];exact a2)
end
end Go.Proofs.YtfakoboiahbhaaaGreat.Ab


namespace Go.Proofs.YtfakoboiahbhaaaGreat.Ab
open Go
set_option maxRecDepth 20000
set_option maxHeartbeats 4000000
noncomputable def acs:eE :=
 GD [gV 4 [.iK (.bool false)] .i_] (.seq (Gx [gV 5 [.sl 1] (.p2 .one),gV 6 [.hS 5] .zI,F_ 7 6 0,F_ 8 7 1,Gq 9 8,Gs 10 0,Gl 11 9 10 2,F_ 12 11 0,Gq 13 12,gV 14 [.sl 2] (.p2 .one),F5 15 13 14 .eql,Gt 16 15,cS 17 [.sl 1] 16 false (.p2 .one),cS 18 [.hS 17] 16 false .zI,cS 19 [.hS 18] 16 false (.oY 0),cS 20 [.hS 19] 16 false (.oY 1),cS 21 [.hS 20] 16 false (.p2 .one),cS 22 [.sl 0] 16 false .i_,cS 23 [.hS 21,.hS 22] 16 false (.pV 2),cS 24 [.hS 23] 16 false (.oY 1),cS 25 [.hS 24] 16 false (.p2 .one),cS 26 [.sl 2] 16 false (.p2 .one),cS 27 [.hS 25,.hS 26] 16 false (.bin .eql),gV 28 [.sl 16,.iK (.bool true),.hS 27] .pick,Gt 4 28]) .ret)
theorem ahm:zm Tryz.prog Ww 130=some (acs,29,[.tmp 4]):=by kernel_rfl
def NM (i:Int) (c0:qk) (bc:Int):Option Bool :=
 qh (0≤i∧i<(c0.2.length:Int)) <|
 if (decide ((ix c0.2 i).1=bc))=true then
  some true
 else
  qh (0≤i∧i<(c0.2.length:Int)) <|
  some (decide ((ix c0.2 i).2=bc))
theorem abg {i:Int} {c0:qk} {bc:Int} {v:Bool} (h:NM i c0 bc=some v):qD 130 [(hY i),(.bW [(.bW [(hY c0.1),(.ay (c0.2.flatMap p4) c0.2.length .shared)])]),(.bW [(hY bc)])] (B v):=by
 refine qZ dM ahm rfl rfl fun Q bo=>?_;have jG:qK [.tmp 4] Q (fun v=>(B v)) v:=fun T H bK=>bo _ T H bK;unfold NM at h;unfold acs;conv=>whnf
 refine qw h id fun e0 h=>?_;rw [qY p4 2 qy c0.2 i e0];conv=>whnf
 refine bs h (fun fs h=>?_) fun fs h=>?_
 ·rw [fs];conv=>whnf
  exact qc h jG rfl rfl
 ·rw [fs];conv=>whnf
  refine qw h id fun qp h=>?_;rw [qY p4 2 qy c0.2 i qp];conv=>whnf
  exact qc h jG rfl rfl

noncomputable def Rr:eE :=
 .loop (some (ED false [0,2,5,2,10])) (GD [gV 9 [.sl 8,.sl 7] (.bin .lss)] (.seq (.cond (.sl 9) .skip (.exit 0)) (.seq (.block 1 (GD [Gs 10 8,Gt 5 10] (GD [Gs 11 1,Gs 12 0,Gs 13 5,Gl 14 12 13 1,Gq 15 14,F5 16 11 15 .eql] (.cond (.sl 16) (GD [Gt 17 5,Gt 4 17] .ret) .skip)))) (Gw [F3 18 8 1,Gt 8 18]))))
noncomputable def acv:eE :=
 GD [Gr 4 0] (.seq (GD [Gs 6 0,Gp 7 6,Gr 8 0] (.block 0 Rr)) (GD [Gr 4 (-1)] .ret))
theorem aho:zm Tryz.prog R9 146=some (acv,19,[.tmp 4]):=by kernel_rfl
def Mj (s:ql) (Ik:Int) (qi:Unit→Option Int):Nat→Int→Option Int
 | 0,_=>none
 | m+1,s1 =>
   if (decide (s1<(s.length:Int)))=true then
    qh (0≤s1∧s1<(s.length:Int)) <|
    if (decide (Ik=(ix s s1)))=true then
     some s1
    else
     Mj s Ik qi m (w (s1+(1:Int)))
   else
    qi ()
def Q1 (s:ql) (Ik:Int):Option Int :=
 Mj s Ik (fun _ =>
   some (-1:Int)) qe (0:Int)
theorem alM {s:ql} {Ik:Int} {qi:Unit→Option Int} {s1:Int} {v:Int} {Q:q8}   (jG:qK [.tmp 4] Q (fun v=>(hY v)) v) (rD:∀ (p8:List I),qi ()=some v→qO 19 [] p8→Q (.exit 0) p8 []) {T:List I} (bZ:eX (ED false [0,2,5,2,10]) T=GI 19 [(0,(qG s .shared)),(1,(hY Ik)),(7,(hY (s.length:Int))),(8,(hY s1))]) (h:Mj s Ik qi qe s1=some v) :
  dG Tryz.prog R9 146 0 none Rr T [] Q:=by
 unfold Rr;refine wp_loop bZ ?_;refine .intro (fun m T H=>∃ (s1:Int),T=GI 19 [(0,(qG s .shared)),(1,(hY Ik)),(7,(hY (s.length:Int))),(8,(hY s1))]∧H=[]∧Mj s Ik qi m s1=some v) qe ⟨s1,rfl,rfl,h⟩ ?_;clear h bZ;rintro m T H ⟨s1,rfl,rfl,h⟩;cases m
 ·exact q_ h
 rename_i m;rw [Mj.eq_2] at h;conv=>whnf
 refine bs h (fun e0 h=>?_) fun e0 h=>?_
 ·rw [e0];conv=>whnf
  refine qw h id fun fs h=>?_;rw [rS hY s s1 fs];conv=>whnf
  refine bs h (fun qp h=>?_) fun qp h=>?_
  ·rw [qp];(conv=>whnf);exact qc h jG rfl rfl
  ·rw [qp];(conv=>whnf);exact ⟨m,sv m,(w (s1+(1:Int))),rfl,rfl,h⟩
 ·rw [e0];conv=>whnf
  exact rD  _ h ⟨rfl,rfl⟩
theorem alN {s:ql} {Ik:Int} {v:Int} (h:Q1 s Ik=some v):qD 146 [(.ay (s.map hY) s.length .shared),(hY Ik)] (hY v):=by
 refine qZ dM aho rfl rfl fun Q bo=>?_;have jG:qK [.tmp 4] Q (fun v=>(hY v)) v:=fun T H bK=>bo _ T H bK;unfold Q1 at h;unfold acv;obtain ⟨HD,qS⟩:∃ c,Rr=c:=⟨_,rfl⟩;rw [qS];conv=>whnf
 subst qS;refine alM ?_ ?_ (by exact rfl) h
 ·exact fun T H bK=>jG T H bK
 ·intro  p8 h qf;obtain ⟨qJ,rfl⟩:=qf.ex;conv=>whnf
  exact qc h jG rfl rfl

noncomputable def acu:eE :=
 GD [gV 4 [.iK (.bool false)] .i_] (GD [Gt 5 0,Gt 6 1,gV 7 [.iK (.func 146 [] []),.sl 5,.sl 6] (.call 3),F4 8 7 0 .geq,Gt 4 8] .ret)
theorem ahn:zm Tryz.prog Wx 131=some (acu,9,[.tmp 4]):=by kernel_rfl
def Pe (s:ql) (Ik:Int):Option Bool :=
 (Q1 s Ik).bind fun r1 =>
 some (decide ((0:Int)≤r1))
theorem alL {s:ql} {Ik:Int} {v:Bool} (h:Pe s Ik=some v):qD 131 [(.ay (s.map hY) s.length .shared),(hY Ik)] (B v):=by
 refine qZ dM ahn rfl rfl fun Q bo=>?_;have jG:qK [.tmp 4] Q (fun v=>(B v)) v:=fun T H bK=>bo _ T H bK;unfold Pe at h;unfold acu;conv=>whnf
 obtain ⟨r1,e0,h⟩:=qj h;refine ⟨qt.pl,_,alN e0,?_⟩;conv=>whnf
 exact qc h jG rfl rfl
end Go.Proofs.YtfakoboiahbhaaaGreat.Ab
