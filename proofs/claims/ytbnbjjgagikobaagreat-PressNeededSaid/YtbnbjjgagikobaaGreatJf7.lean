
import Derived.Test.YtbnbjjgagikobaaGreatJf5
import Derived.Test.YtbnbjjgagikobaaGreatJf4
import Derived.KernelRfl
import Derived.Test.YtbnbjjgagikobaaGreatJf6
set_option linter.unusedSimpArgs false
set_option linter.unusedVariables false
set_option linter.unusedSectionVars false

namespace Go.Proofs.YtbnbjjgagikobaaGreat.Ab
open Go
set_option maxRecDepth 20000
set_option maxHeartbeats 4000000
theorem s103_ok (l:List Int) (hl:l.length≤1000):Seq Tryz.prog 103 [.lptr [.lst (l.map I) l.length .shared]] (l.map I):=by
 intro L N Pre hlen hL hr Y
 obtain ⟨Z,hZ0,hZ⟩:=seq_states hr Y
 have hE:(l.map I).length=l.length:=by simp
 have hZ':∀ j (h:j<l.length),Sem Tryz.prog (.yield L) [I l[j]] (Pre j++Z j) 0 (.bool true) (Pre (j+1)++Z (j+1)):=fun j hj=>by
  have:=hZ j (by rw [hE];exact hj)
  rw [List.getElem_map] at this
  exact this
 refine ⟨Z l.length,?_⟩
 rw [hE]
 refine fn_semQ hmix lk103 rfl (low0 ?_) fun Q hQ=>?_
 ·have key:∀ j,j≤l.length→(Pre 0++Y).length≤(Pre j++Z j).length:=fun j=>by
   induction j with
   | zero=>intro _;rw [hZ0];exact Nat.le_refl _
   | succ j ih=>intro hj;exact Nat.le_trans (ih (by omega)) (hZ' j (by omega)).1.1
  exact key l.length (Nat.le_refl _)
 unfold rc103
 conv=>whnf
 refine .intro (fun m T H=>∃ j:Nat,j≤l.length∧m=l.length-j∧T=slots 16 [(0,.yield L),(5,.lst (l.map I) l.length .shared),(6,I (l.length:Int)),(7,I (j:Int))]∧H=Pre j++Z j) l.length ⟨0,Nat.zero_le _,rfl,rfl,by rw [hZ0]⟩ ?_
 rintro m T H ⟨j,hj,rfl,rfl,rfl⟩
 conv=>whnf
 refine dcase (fun hc'=>?_) (fun hc'=>?_)
 ·have hlt:j<l.length:=by omega
  have hb:0≤(j:Int)∧(j:Int)<(l.length:Int):=by omega
  conv=>whnf
  refine ⟨hb,?_⟩
  rw [drop1 I l (j:Int) hb]
  conv=>whnf
  rw [ix_nat hlt]
  refine ⟨_,_,call1 (hZ' j hlt),?_⟩
  conv=>whnf
  refine ⟨l.length-(j+1),by omega,j+1,by omega,rfl,?_,rfl⟩
  rw [show ((j+1:Nat):Int)=IntKind.i64.wrap ((j:Int)+1) by rw [wrapI _ (by omega) (by omega)];omega]
  rfl
 ·obtain rfl:j=l.length:=by omega
  conv=>whnf
  exact hQ _ _ _ ⟨.inl rfl,Fgt.refl _,rfl⟩
def sortU (l:List Int):List Int:=(Sort.insertionSort Sort.ltInt l.toArray 0 l.length).toList
theorem insS_len (lt:Int→Int→Bool) (d:Array Int) (a b:Nat):(Sort.insertionSort lt d a b).size=d.size:=by
 have hI:∀ (j:Nat) (d:Array Int),(Sort.insInner lt a j d).size=d.size:=fun j=>by
  induction j with
  | zero=>intro d;rfl
  | succ j ih =>
    intro d
    rw [Sort.insInner]
    split
    ·rw [ih,swp_size]
    ·rfl
 show (Sort.insOuter lt a b (a+1) d).size=d.size
 have:∀ (n i:Nat) (d:Array Int),b-i=n→(Sort.insOuter lt a b i d).size=d.size:=fun n=>by
  induction n with
  | zero=>intro i d h;rw [Sort.insOuter.eq_1,if_neg (by omega)]
  | succ n ih=>intro i d h;rw [Sort.insOuter.eq_1,if_pos (by omega),ih _ _ (by omega),hI]
 exact this _ _ d rfl
def x77 (l:List Int):Option (List Int):=if 0<l.length∧l.length≤12 then some (sortU l) else none
theorem x77_ok {l v:List Int} (h:x77 l=some v):PO 77 [.func 103 [] [.lptr [.lst (l.map I) l.length .shared]]] (.lst (v.map I) v.length .shared):=by
 unfold x77 at h
 split at h
 ·rename_i hc
  obtain rfl:=Option.some.inj h
  have hpl:[AV.lptr [.lst (l.map I) l.length .shared]].all (pureD 7)=true:=allc (pu_lptr (allc (pu_map (fun _=>rfl) _ _ _) rfl)) rfl
  have hcl:=collectS_ok hpl (s103_ok l (by omega)) (by omega)
  have hS:=sort12_sem (lo:=0) (id:=0) (Nat.le_refl 0) l.toArray (by simpa using hc.2) (H:=[Cd l.toArray]) rfl
  obtain ⟨S,hSd⟩:∃ S,S=Sort.insertionSort Sort.ltInt l.toArray 0 l.toArray.size:=⟨_,rfl⟩
  have hv:sortU l=S.toList:=by rw [hSd];unfold sortU;simp
  have hsz:S.size=l.length:=by rw [hSd,insS_len];simp
  rw [←hSd] at hS
  rw [hv]
  have hne:l≠[]:=fun e=>by rw [e] at hc;exact absurd hc.1 (by decide)
  have hcol:colL l=.lst (l.map I) l.length (.uniq 1):=by
   cases l with
   | nil=>exact absurd rfl hne
   | cons a l=>rfl
  rw [hcol] at hcl
  refine fn_pureW hmix lk77 rfl (pu_map (fun _=>rfl) _ _ _) fun Q hQ=>?_
  unfold rc77
  conv=>whnf
  refine ⟨_,_,call0 (allc (pu_fn rfl hpl) rfl) hcl _ _,?_⟩
  conv=>whnf
  refine .inl ⟨by omega,?_⟩
  conv=>whnf
  have e1:AObj.cells (l.map I)=Cd l.toArray:=rfl
  have e2:AV.ref 0 0 l.length none 1=Da 0 l.toArray.size:=by unfold Da;simp
  erw [e1]
  refine ⟨_,_,call1 (by show Sem Tryz.prog (.fn 84) [AV.ref 0 0 l.length none 1] [Cd l.toArray] 0 (.tuple []) [Cd S];rw [e2];exact hS),?_⟩
  conv=>whnf
  have hrow:rowOf [Cd S] (.ref 0 0 l.length none 1)=some (S.toList.map I):=row_full rfl (hsz.symm.trans Array.length_toList.symm) fun _=>rfl
  refine ⟨.lst (S.toList.map I) l.length .shared,[.dead],fun C=>?_,?_⟩
  ·show ((rowOf [Cd S] (.ref 0 0 l.length none 1)).bind fun row=>some (AV.lst row l.length .shared,[AObj.dead]))=_
   rw [hrow];rfl
  conv=>whnf
  rw [show S.toList.length=l.length from Array.length_toList.trans hsz] at hQ
  exact hQ _ _ _ ⟨.inr rfl,_,rfl,_,frz_pure (pu_map (fun _=>rfl) _ _ _),rfl⟩
 ·cases h

noncomputable def xrc78:RC :=
 .seq (.reg false [I_ 1 [.tk 0] .box,I_ 2 [.cv .junk] .mv]) (.seq (.reg false [I_ 3 [.tv 1] (.mkF 103 0 1),I_ 2 [.tk 3] .mv]) .ret)
theorem lxx78:linkF Tryz.prog ann78 78=some (xrc78,4,[.tmp 2]):=by kernel_rfl
def x78 (s:(List Int)):Option Unit :=
 some ()
theorem x78_ok {s:(List Int)} {v:Unit} (h:x78 s=some v):PO 78 [(.lst (s.map I) s.length .shared)] (.func 103 [] [(.lptr [(.lst (s.map I) s.length .shared)])]):=by
 refine fn_pureW hmix lxx78 rfl (pu_fn rfl (allc (pu_lptr (allc (pu_map (fun _=>rfl) _ _ _) rfl)) rfl)) fun Q hQ=>?_
 have hR:∀ T H,RetW [.tmp 2] (.func 103 [] [(.lptr [(.lst (s.map I) s.length .shared)])]) .ret T H→Q .ret T H:=fun T H hh=>hQ _ T H hh
 unfold x78 at h
 unfold xrc78
 skip
 conv=>whnf
 exact hR _ _ ⟨.inr rfl,_,rfl,_,(frz_fn mapO_nil' (mapO_cons' (frz_ptr (l:=[(.lst (s.map I) s.length .shared)]) (by first | with_reducible exact get_concat _ _ | exact get_concat _ _ | exact ga (get_concat _ _) | rfl | (simp [List.getElem?_append,AV.settle];done)) (allc (pu_map (fun _=>rfl) _ _ _) rfl)) mapO_nil')),rfl⟩

noncomputable def xrc37_1:RC :=
 .rng (.sl 36) [37] (rngA Tryz.prog 37 0) (rngB Tryz.prog 37 0)
noncomputable def xrc37_2:RC :=
 .loop (some [o_,o_,o_,o_,o_,o_,i_,o_,i_,o_,o_,o_,o_,o_,o_,o_,o_,o_,o_,o_,o_,o_,i_,i_,i_,o_,o_,o_,o_,o_,o_,o_,o_,o_,o_,o_,o_,o_,o_,o_,o_,o_,o_,o_,o_,o_,o_,o_,o_,o_,o_]) (.seq (.reg false [I_ 25 [.sl 24,.sl 23] (.bin .lss)]) (.seq (.cond (.sl 25) .skip
 (.exit 0)) (.seq (.block 1 (.seq (.reg false [I_ 26 [.sl 22,.sl 24] (.ia 1),I_ 27 [.tv 26] (.ld .one),I_ 10 [.tk 27] .mv]) (.seq (.reg true [I_ 28 [.sl 6] .mv,I_ 29 [.tk 10] .mv,I_ 30 [.cv (.func 76 [] []),.sl 28,.sl 29]
 (.call 3),I_ 31 [.sl 6] .mv,I_ 32 [.tv 31] .nilc,I_ 33 [.tv 32] (.fa 5),I_ 34 [.tv 33] (.ld .one),I_ 35 [.tk 34] .lenS,I_ 36 [.cv (.func 75 [] []),.sl 30,.sl 35] (.call 3)]) (.block 2 xrc37_1)))) (.reg false [I_ 49 [.tv
 24,.cv (.int .i64 1)] (.bin .add),I_ 24 [.tk 49] .mv]))))
noncomputable def xrc37:RC :=
 .seq (.reg false [I_ 2 [.tk 0] .box,I_ 4 [.cv (.lst [] 0 .full)] (.nil 1),I_ 5 [.cv (.int .i64 0)] .mv]) (.seq (.reg false [I_ 13 [.tv 2] (.ld (.str 4)),I_ 14 [.tk 1] .mv,I_ 15 [.cv (.func 69 [] []),.sl 13,.sl 14] (.call
 3),I_ 12 [.tk 15] .mv,I_ 16 [.sl 12] (.ext 0),I_ 17 [.tv 12] (.ext 1),I_ 6 [.tk 16] .mv,I_ 7 [.tk 17] .mv]) (.seq (.seq (.reg false [I_ 18 [.sl 7] .mv,I_ 19 [.tv 18,.cv (.int .i64 0)] (.bin .neq)]) (.cond (.sl 19) (.seq
 (.reg false [I_ 20 [.tk 7] .mv,I_ 4 [.cv (.lst [] 0 .full)] (.nil 1),I_ 5 [.tk 20] .mv]) .ret) .skip)) (.seq (.reg false [I_ 8 [] (.alloc [.lst [] 0 (.own 1)])]) (.seq (.seq (.reg false [I_ 21 [.sl 6] .mv,I_ 22 [.cv (.func
 74 [] []),.sl 21] (.call 3),I_ 23 [.sl 22] .lenS,I_ 24 [.cv (.int .i64 0)] .mv]) (.block 0 xrc37_2)) (.seq (.reg false [I_ 50 [.tv 8] (.ld .one),I_ 4 [.tk 50] .mv,I_ 5 [.cv (.int .i64 0)] .mv]) .ret)))))
noncomputable def xrc37_A0:RC :=
 .reg false [I_ 11 [.tk 37] .mv]
theorem lxx37_A0:linkC Tryz.prog ann37 (rngA Tryz.prog 37 0) 0=some xrc37_A0:=by kernel_rfl
noncomputable def xrc37_B0:RC :=
 .block 3 (.reg true [I_ 38 [.sl 8] (.ld .one),I_ 39 [.sl 8] (.ld .one),I_ 40 [.tk 39] .lenS,I_ 41 [.sl 8] (.ld .one),I_ 42 [.tk 41] .lenS,I_ 43 [.tk 38,.tk 40,.tk 42] (.slS 1 false true true),I_ 44 [.tk 11] .mv,I_ 45
 [.cv (.func 78 [] []),.sl 44] (.call 3),I_ 46 [.cv (.func 77 [] []),.sl 45] (.call 3),I_ 47 [.tv 46] (.buildS 1 1 [.lst [] 0 .full] [0]),I_ 48 [.tk 43,.tk 47] (.app 1 24),⟨none,[.sl 8,.tk 48],none,none,.st 1⟩])
theorem lxx37_B0:linkC Tryz.prog ann37 (rngB Tryz.prog 37 0) 0=some xrc37_B0:=by kernel_rfl
theorem lxx37:linkF Tryz.prog ann37 37=some (xrc37,51,[.tmp 4,.tmp 5]):=by kernel_rfl
def x37_r1  (t1:(List (List Int))) (e1:(List Int)):Option ((List (List Int))) :=
 gd ((t1.length:Int)=(t1.length:Int)∧0≤(t1.length:Int)∧(t1.length:Int)≤(t1.length:Int)) <|
 (x78 e1).bind fun r5 =>
 (x77 e1).bind fun r6 =>
 gd ((1≠0)∧((t1.take (t1.length:Int).toNat).length+1)*24≤140737488355328) <|
 some ((t1.take (t1.length:Int).toNat)++[r6])
def x37_l1 (p1:((Int×(List Int)×Int×Int)×(List (Int×Int))×(List Int)×(List Int))) (r2:(List Int)) (kl1_0:(List (List Int))→Option ((List (List Int))×Int)):Nat→Int→(List (List Int))→Option ((List (List Int))×Int)
 | 0,_,_=>none
 | m+1,s1,s2 =>
   if (decide (s1<(r2.length:Int)))=true then
    gd (0≤s1∧s1<(r2.length:Int)) <|
    (x76 p1 (ix r2 s1)).bind fun r3 =>
    (x75 r3 (p1.2.2.1.length:Int)).bind fun r4 =>
    (s98 r3 (p1.2.2.1.length:Int)).bind fun l1 =>
    (foldO x37_r1 l1 s2).bind fun r7 =>
    x37_l1 p1 r2 kl1_0 m (w (s1+(1:Int))) r7
   else
    kl1_0 s2
def x37 (b:(Int×(List Int)×Int×Int)) (panels:(List (Int×Int))):Option ((List (List Int))×Int) :=
 (x69 b panels).bind fun r1 =>
 match r1 with
 | (none,q1) =>
   if (decide (q1≠(0:Int)))=true then
    some ([],q1)
   else
    none
 | (some p1,q1) =>
   if (decide (q1≠(0:Int)))=true then
    some ([],q1)
   else
    (x74 p1).bind fun r2 =>
    x37_l1 p1 r2 (fun z1 =>
      some (z1,(0:Int))) FU (0:Int) ([]:List (List Int))
theorem x37_r1_ok {t1:(List (List Int))} {e1:(List Int)} {u0:AV} {u1:AV} {u2:AV} {u3:AV} {u4:AV} {u5:AV} {u6:AV} {u7:AV} {u9:AV} {u10:AV} {u11:AV} {u12:AV} {u13:AV} {u14:AV} {u15:AV} {u16:AV} {u17:AV} {u18:AV} {u19:AV} {u20:AV} {u21:AV} {u22:AV} {u23:AV} {u24:AV} {u25:AV} {u26:AV} {u27:AV} {u28:AV} {u29:AV} {u30:AV} {u31:AV} {u32:AV} {u33:AV} {u34:AV} {u35:AV} {u36:AV} {u37:AV} {u38:AV} {u39:AV} {u40:AV} {u41:AV} {u42:AV} {u43:AV} {u44:AV} {u45:AV} {u46:AV} {u47:AV} {u48:AV} {u49:AV} {u50:AV} {o1:AObj} {Y37_1:List AObj} {v_:(List (List Int))} (h:x37_r1  t1 e1=some v_) (Y:List AObj) :
  ∃ Y',Sem Tryz.prog (.yield ((o1::AObj.cells [(.lst (t1.map L1) t1.length (.own 1))]::Y37_1)).length) [(.lst (e1.map I) e1.length .full)] (((o1::AObj.cells [(.lst (t1.map L1) t1.length (.own 1))]::Y37_1)++[AObj.loop .ready none 37 [u0,u1,u2,u3,u4,u5,u6,u7,(.ptr 1 0),u9,u10,u11,u12,u13,u14,u15,u16,u17,u18,u19,u20,u21,u22,u23,u24,u25,u26,u27,u28,u29,u30,u31,u32,u33,u34,u35,u36,u37,u38,u39,u40,u41,u42,u43,u44,u45,u46,u47,u48,u49,u50] [37] (rngA Tryz.prog 37 0) (rngB Tryz.prog 37 0) ann37])++Y) 0 (.bool true) (((o1::AObj.cells [(.lst (v_.map L1) v_.length (.own 1))]::Y37_1)++[AObj.loop .ready none 37 [u0,u1,u2,u3,u4,u5,u6,u7,(.ptr 1 0),u9,u10,u11,u12,u13,u14,u15,u16,u17,u18,u19,u20,u21,u22,u23,u24,u25,u26,u27,u28,u29,u30,u31,u32,u33,u34,u35,u36,u37,u38,u39,u40,u41,u42,u43,u44,u45,u46,u47,u48,u49,u50] [37] (rngA Tryz.prog 37 0) (rngB Tryz.prog 37 0) ann37])++Y'):=by
 unfold x37_r1 at h
 refine ⟨Y,sem_round hmix lxx37_A0 lxx37_B0 (get_mid _ _ _) rfl (low0 (by simp)) ?_⟩
 unfold xrc37_A0
 conv=>whnf
 refine ⟨rfl,get_mid _ _ _,?_⟩
 rw [set_mid]
 unfold xrc37_B0
 conv=>whnf
 obtain ⟨hb9,h⟩:=gd_some h
 refine ⟨hb9,?_⟩
 erw [slHi L1 t1 (t1.length:Int) hb9.2]
 conv=>whnf
 obtain ⟨r5,hb10,h⟩:=bd_some h
 refine ⟨(allc (pu_map (fun _=>rfl) _ _ _) rfl),_,x78_ok hb10,acc0,?_⟩
 conv=>whnf
 obtain ⟨r6,hb11,h⟩:=bd_some h
 refine ⟨(allc (pu_fn rfl (allc (pu_lptr (allc (pu_map (fun _=>rfl) _ _ _) rfl)) rfl)) rfl),_,x77_ok  hb11,accN rfl,?_⟩
 conv=>whnf
 obtain ⟨hb12,h⟩:=gd_some h
 refine ⟨by first | rfl | simp,by have:=hb12.2;omega,hb12.1,hb12.2,by first | rfl | simp,?_⟩
 erw [apnd1 L1 (t1.take (t1.length:Int).toNat) r6]
 conv=>whnf
 obtain rfl:=Option.some.inj h
 show _∧(((o1::AObj.cells [(.lst (((t1.take (t1.length:Int).toNat)++[r6]).map L1) ((t1.take (t1.length:Int).toNat)++[r6]).length (.own 1))]::Y37_1)++[AObj.loop .busy none 37 [u0,u1,u2,u3,u4,u5,u6,u7,(.ptr 1 0),u9,u10,u11,u12,u13,u14,u15,u16,u17,u18,u19,u20,u21,u22,u23,u24,u25,u26,u27,u28,u29,u30,u31,u32,u33,u34,u35,u36,u37,u38,u39,u40,u41,u42,u43,u44,u45,u46,u47,u48,u49,u50] [37] (rngA Tryz.prog 37 0) (rngB Tryz.prog 37 0) ann37])++Y)[((o1::AObj.cells [(.lst (((t1.take (t1.length:Int).toNat)++[r6]).map L1) ((t1.take (t1.length:Int).toNat)++[r6]).length (.own 1))]::Y37_1)).length]?=_∧Fgt ((((o1::AObj.cells [(.lst (((t1.take (t1.length:Int).toNat)++[r6]).map L1) ((t1.take (t1.length:Int).toNat)++[r6]).length (.own 1))]::Y37_1)++[AObj.loop .busy none 37 [u0,u1,u2,u3,u4,u5,u6,u7,(.ptr 1 0),u9,u10,u11,u12,u13,u14,u15,u16,u17,u18,u19,u20,u21,u22,u23,u24,u25,u26,u27,u28,u29,u30,u31,u32,u33,u34,u35,u36,u37,u38,u39,u40,u41,u42,u43,u44,u45,u46,u47,u48,u49,u50] [37] (rngA Tryz.prog 37 0) (rngB Tryz.prog 37 0) ann37])++Y).set ((o1::AObj.cells [(.lst (((t1.take (t1.length:Int).toNat)++[r6]).map L1) ((t1.take (t1.length:Int).toNat)++[r6]).length (.own 1))]::Y37_1)).length _) _
 exact ⟨rfl,get_mid _ _ _,by rw [set_mid];exact Fgt.refl _⟩
theorem x37_l1_ok {p1:((Int×(List Int)×Int×Int)×(List (Int×Int))×(List Int)×(List Int))} {r2:(List Int)} {kl1_0:(List (List Int))→Option ((List (List Int))×Int)} {s1:Int} {s2:(List (List Int))} {v:((List (List Int))×Int)} {Q:Ex→List AV→List AObj→Prop} {o1:AObj}  (hkl1_0:∀ (z1:(List (List Int))) (u0:AV) (u1:AV) (u2:AV) (u4:AV) (u5:AV) (u6:AV) (u7:AV) (u10:AV) (u11:AV) (u12:AV) (u13:AV) (u14:AV) (u15:AV) (u16:AV) (u17:AV) (u18:AV) (u19:AV) (u20:AV) (u21:AV) (u22:AV) (u23:AV) (u24:AV) (u25:AV) (u26:AV) (u27:AV) (u28:AV) (u29:AV) (u30:AV) (u31:AV) (u32:AV) (u33:AV) (u34:AV) (u35:AV) (u36:AV) (u37:AV) (u38:AV) (u39:AV) (u40:AV) (u41:AV) (u42:AV) (u43:AV) (u44:AV) (u45:AV) (u46:AV) (u47:AV) (u48:AV) (u49:AV) (u50:AV) (Yq:List AObj),kl1_0 z1=some v→Q (.exit 0) [u0,u1,u2,J,u4,u5,u6,u7,(.ptr 1 0),J,u10,u11,u12,u13,u14,u15,u16,u17,u18,u19,u20,u21,u22,u23,u24,u25,u26,u27,u28,u29,u30,u31,u32,u33,u34,u35,u36,u37,u38,u39,u40,u41,u42,u43,u44,u45,u46,u47,u48,u49,u50] (o1::AObj.cells [(.lst (z1.map L1) z1.length (.own 1))]::Yq)) {T:List AV} (hT:zipKeep [o_,o_,o_,o_,o_,o_,i_,o_,i_,o_,o_,o_,o_,o_,o_,o_,o_,o_,o_,o_,o_,o_,i_,i_,i_,o_,o_,o_,o_,o_,o_,o_,o_,o_,o_,o_,o_,o_,o_,o_,o_,o_,o_,o_,o_,o_,o_,o_,o_,o_,o_] T=slots 51 [(6,(.lptr ((I p1.1.1)::(.lst (p1.1.2.1.map I) p1.1.2.1.length .shared)::(I p1.1.2.2.1)::(I p1.1.2.2.2)::(.lst (p1.2.1.flatMap pr) p1.2.1.length .shared)::(.lst (p1.2.2.1.map I) p1.2.2.1.length .shared)::(p1.2.2.2.map I)))),(8,(.ptr 1 0)),(22,(.lst (r2.map I) r2.length .shared)),(23,(I (r2.length:Int))),(24,(I s1))]) (h:x37_l1 p1 r2 kl1_0 FU s1 s2=some v) :
  wpR Tryz.prog ann37 37 0 none xrc37_2 T [o1,AObj.cells [(.lst (s2.map L1) s2.length (.own 1))]] Q:=by
 unfold xrc37_2
 obtain ⟨c_1,g_1⟩:∃ c,xrc37_1=c:=⟨_,rfl⟩
 rw [g_1]
 refine wp_loop hT ?_
 refine .intro (fun m T H=>∃ (s1:Int) (s2:(List (List Int))) (Y37_1:List AObj),T=slots 51 [(6,(.lptr ((I p1.1.1)::(.lst (p1.1.2.1.map I) p1.1.2.1.length .shared)::(I p1.1.2.2.1)::(I p1.1.2.2.2)::(.lst (p1.2.1.flatMap pr) p1.2.1.length .shared)::(.lst (p1.2.2.1.map I) p1.2.2.1.length .shared)::(p1.2.2.2.map I)))),(8,(.ptr 1 0)),(22,(.lst (r2.map I) r2.length .shared)),(23,(I (r2.length:Int))),(24,(I s1))]∧H=(o1::AObj.cells [(.lst (s2.map L1) s2.length (.own 1))]::Y37_1)∧x37_l1 p1 r2 kl1_0 m s1 s2=some v) FU ⟨s1,s2,[],rfl,rfl,h⟩ ?_
 clear h hT
 rintro m T H ⟨s1,s2,Y37_1,rfl,rfl,h⟩
 cases m
 ·exact none_ne h
 rename_i m
 rw [x37_l1.eq_2] at h
 conv=>whnf
 rcases bt (decide (s1<(r2.length:Int))) with hb5 | hb5
 ·rw [hb5]
  conv=>whnf
  replace h:=it_t hb5 h
  obtain ⟨hb6,h⟩:=gd_some h
  refine ⟨hb6,?_⟩
  rw [drop1 I r2 s1 hb6]
  conv=>whnf
  obtain ⟨r3,hb7,h⟩:=bd_some h
  refine ⟨(allc (pu_lptr (allc rfl (allc (pu_map (fun _=>rfl) _ _ _) (allc rfl (allc rfl (allc (pu_flat (fun _=>(allc rfl (allc rfl rfl))) _ _ _) (allc (pu_map (fun _=>rfl) _ _ _) (pu_run (fun _=>rfl) _)))))))) (allc rfl rfl)),_,x76_ok hb7,acc0,?_⟩
  conv=>whnf
  obtain ⟨r4,hb8,h⟩:=bd_some h
  refine ⟨(allc (pu_map (fun _=>rfl) _ _ _) (allc rfl rfl)),_,x75_ok hb8,accN rfl,?_⟩
  conv=>whnf
  obtain ⟨l1,hb13,h⟩:=bd_some h
  obtain ⟨r7,hb14,h⟩:=bd_some h
  obtain ⟨F_,hF0,hFn,hF⟩:=foldO_states hb14
  subst g_1
  unfold xrc37_1
  refine rng_wp (f:=fun (e1:(List Int))=>(.lst (e1.map I) e1.length .full)) (s98_ok hb13) (fun i=>(o1::AObj.cells [(.lst ((F_ i).map L1) (F_ i).length (.own 1))]::Y37_1)) (by exact rfl) (by show (o1::AObj.cells [(.lst ((F_ 0).map L1) (F_ 0).length (.own 1))]::Y37_1)=_;first | (rw [hF0];done) | (rw [hF0];rfl)) (fun _=>rfl) ?_ (rl:=none) (by exact rfl) (Hn:=(o1::AObj.cells [(.lst (r7.map L1) r7.length (.own 1))]::Y37_1)) (by show (o1::AObj.cells [(.lst ((F_ l1.length).map L1) (F_ l1.length).length (.own 1))]::Y37_1)=_;first | (rw [hFn];done) | (rw [hFn];rfl)) (fun Yr4=>?_)
  ·intro i hi Y
   exact x37_r1_ok (hF i hi) Y
  conv=>whnf
  exact ⟨m,Nat.lt_succ_self m,(w (s1+(1:Int))),r7,_,rfl,rfl,h⟩
 ·rw [hb5]
  conv=>whnf
  replace h:=it_f hb5 h
  exact hkl1_0 _ _ _ _ _ _ _ _ _ _ _ _ _ _ _ _ _ _ _ _ _ _ _ _ _ _ _ _ _ _ _ _ _ _ _ _ _ _ _ _ _ _ _ _ _ _ _ _ _ _ h
theorem x37_ok {b:(Int×(List Int)×Int×Int)} {panels:(List (Int×Int))} {v:((List (List Int))×Int)} (h:x37 b panels=some v):PO 37 [(.agg [(I b.1),(.lst (b.2.1.map I) b.2.1.length .shared),(I b.2.2.1),(I b.2.2.2)]),(.lst (panels.flatMap pr) panels.length .shared)] (.tuple [(.lst (v.1.map L1) v.1.length .shared),(I v.2)]):=by
 refine fn_pureW hmix lxx37 rfl (pu_tup (allc (pu_map (fun _=>(pu_map (fun _=>rfl) _ _ _)) _ _ _) (allc rfl rfl))) fun Q hQ=>?_
 have hR:∀ T H,RetW [.tmp 4,.tmp 5] (.tuple [(.lst (v.1.map L1) v.1.length .shared),(I v.2)]) .ret T H→Q .ret T H:=fun T H hh=>hQ _ T H hh
 unfold x37 at h
 unfold xrc37
 obtain ⟨c_2,g_2⟩:∃ c,xrc37_2=c:=⟨_,rfl⟩
 rw [g_2]
 conv=>whnf
 obtain ⟨r1,hb1,h⟩:=bd_some h
 rcases r1 with ⟨_ | p1,q1⟩
 ·refine ⟨(allc (pu_agg (allc rfl (allc (pu_map (fun _=>rfl) _ _ _) (allc rfl (allc rfl rfl))))) (allc (pu_flat (fun _=>(allc rfl (allc rfl rfl))) _ _ _) rfl)),_,x69_ok hb1,?_⟩
  conv=>whnf
  rcases bt (decide (q1≠(0:Int))) with hb2 | hb2
  ·rw [hb2]
   conv=>whnf
   replace h:=it_t hb2 h
   obtain rfl:=Option.some.inj h
   exact hR _ _ ⟨.inr rfl,_,rfl,_,frz_pure (pu_tup (allc rfl (allc rfl rfl))),rfl⟩
  ·rw [hb2]
   conv=>whnf
   replace h:=it_f hb2 h
   exact none_ne h
 ·refine ⟨(allc (pu_agg (allc rfl (allc (pu_map (fun _=>rfl) _ _ _) (allc rfl (allc rfl rfl))))) (allc (pu_flat (fun _=>(allc rfl (allc rfl rfl))) _ _ _) rfl)),_,x69_ok hb1,?_⟩
  conv=>whnf
  rcases bt (decide (q1≠(0:Int))) with hb3 | hb3
  ·rw [hb3]
   conv=>whnf
   replace h:=it_t hb3 h
   obtain rfl:=Option.some.inj h
   exact hR _ _ ⟨.inr rfl,_,rfl,_,frz_pure (pu_tup (allc rfl (allc rfl rfl))),rfl⟩
  ·rw [hb3]
   conv=>whnf
   replace h:=it_f hb3 h
   obtain ⟨r2,hb4,h⟩:=bd_some h
   refine ⟨(allc (pu_lptr (allc rfl (allc (pu_map (fun _=>rfl) _ _ _) (allc rfl (allc rfl (allc (pu_flat (fun _=>(allc rfl (allc rfl rfl))) _ _ _) (allc (pu_map (fun _=>rfl) _ _ _) (pu_run (fun _=>rfl) _)))))))) rfl),_,x74_ok hb4,?_⟩
   conv=>whnf
   subst g_2
   refine x37_l1_ok ?_ (by exact rfl) h
   intro z1 u0 u1 u2 u4 u5 u6 u7 u10 u11 u12 u13 u14 u15 u16 u17 u18 u19 u20 u21 u22 u23 u24 u25 u26 u27 u28 u29 u30 u31 u32 u33 u34 u35 u36 u37 u38 u39 u40 u41 u42 u43 u44 u45 u46 u47 u48 u49 u50 Yq h
   conv=>whnf
   obtain rfl:=Option.some.inj h
   exact hR _ _ ⟨.inr rfl,_,rfl,_,frz_pure (pu_tup (allc (pu_map (fun _=>(pu_map (fun _=>rfl) _ _ _)) _ _ _) (allc rfl rfl))),rfl⟩

noncomputable def xrc46:RC :=
 .seq (.reg false [I_ 2 [.tk 0] .box,I_ 4 [.cv (.int .i64 0)] .mv,I_ 5 [.cv (.int .i64 0)] .mv,I_ 6 [.cv (.lst [] 0 .full)] (.nil 1),I_ 7 [.cv (.bool false)] .mv]) (.seq (.reg false [I_ 19 [.sl 2] (.ld (.str 4)),I_ 20 [.sl 1]
 .mv,I_ 21 [.cv (.func 33 [] []),.sl 19,.sl 20] (.call 3),I_ 18 [.tk 21] .mv,I_ 22 [.sl 18] (.ext 0),I_ 23 [.tv 18] (.ext 1),I_ 8 [.tk 22] .mv,I_ 9 [.tk 23] .mv]) (.seq (.reg false [I_ 25 [.sl 2] (.ld (.str 4)),I_ 26
 [.sl 1] .mv,I_ 27 [.cv (.func 35 [] []),.sl 25,.sl 26] (.call 3),I_ 24 [.tk 27] .mv,I_ 28 [.sl 24] (.ext 0),I_ 29 [.tv 24] (.ext 1),I_ 10 [.tk 28] .mv,I_ 11 [.tk 29] .mv]) (.seq (.reg false [I_ 31 [.sl 2] (.ld (.str
 4)),I_ 32 [.sl 1] .mv,I_ 33 [.cv (.func 37 [] []),.sl 31,.sl 32] (.call 3),I_ 30 [.tk 33] .mv,I_ 34 [.sl 30] (.ext 0),I_ 35 [.tv 30] (.ext 1),I_ 12 [.tk 34] .mv,I_ 13 [.tk 35] .mv]) (.seq (.seq (.reg false [I_ 36 [.tk
 9] .mv,I_ 37 [.tv 36,.cv (.int .i64 0)] (.bin .neq),I_ 38 [.tk 37] .mv,⟨some 39,[.tk 11],some (38,false),none,.mv⟩,⟨some 40,[.tv 39,.cv (.int .i64 0)],some (38,false),none,.bin .neq⟩,I_ 41 [.tv 38,.cv (.bool
 true),.tv 40] .pick,I_ 42 [.tk 41] .mv,⟨some 43,[.tk 13],some (42,false),none,.mv⟩,⟨some 44,[.tv 43,.cv (.int .i64 0)],some (42,false),none,.bin .neq⟩,I_ 45 [.tv 42,.cv (.bool true),.tv 44] .pick,I_ 46 [.tk
 45] .mv,⟨some 47,[.sl 12],some (46,false),none,.mv⟩,⟨some 48,[.cv (.func 25 [] []),.sl 47],some (46,false),none,.call 3⟩,I_ 49 [.tv 46,.cv (.bool true),.tv 48] .pick]) (.cond (.sl 49) (.seq (.reg false [I_ 4
 [.cv (.int .i64 0)] .mv,I_ 5 [.cv (.int .i64 0)] .mv,I_ 6 [.cv (.lst [] 0 .full)] (.nil 1),I_ 7 [.cv (.bool false)] .mv]) .ret) .skip)) (.seq (.reg false [I_ 51 [.sl 2] (.ld (.str 4)),I_ 52 [.sl 1] .mv,I_ 53 [.sl 12] .mv,
 I_ 54 [.cv (.func 26 [] []),.sl 51,.sl 52,.sl 53] (.call 3),I_ 50 [.tk 54] .mv,I_ 55 [.sl 50] (.ext 0),I_ 56 [.sl 50] (.ext 1),I_ 57 [.tv 50] (.ext 2),I_ 14 [.tk 55] .mv,I_ 15 [.tk 56] .mv,I_ 9 [.tk 57] .mv]) (.seq
 (.reg false [I_ 59 [.tv 2] (.ld (.str 4)),I_ 60 [.tk 1] .mv,I_ 61 [.sl 12] .mv,I_ 62 [.cv (.func 27 [] []),.sl 59,.sl 60,.sl 61] (.call 3),I_ 58 [.tk 62] .mv,I_ 63 [.sl 58] (.ext 0),I_ 64 [.sl 58] (.ext 1),I_ 65 [.tv
 58] (.ext 2),I_ 16 [.tk 63] .mv,I_ 17 [.tk 64] .mv,I_ 11 [.tk 65] .mv]) (.seq (.reg false [I_ 66 [.sl 8] .mv,I_ 67 [.sl 10] .mv,I_ 68 [.tk 12] .mv,I_ 69 [.tk 9] .mv,I_ 70 [.tv 69,.cv (.int .i64 0)] (.bin .eql),I_ 71
 [.tk 70] .mv,⟨some 72,[.tk 11],some (71,true),none,.mv⟩,⟨some 73,[.tv 72,.cv (.int .i64 0)],some (71,true),none,.bin .eql⟩,I_ 74 [.tv 71,.tv 73,.cv (.bool false)] .pick,I_ 75 [.tk 74] .mv,⟨some 76,[.tk 14],
 some (75,true),none,.mv⟩,⟨some 77,[.sl 8],some (75,true),none,.mv⟩,⟨some 78,[.tv 76,.tv 77],some (75,true),none,.bin .eql⟩,I_ 79 [.tv 75,.tv 78,.cv (.bool false)] .pick,I_ 80 [.tk 79] .mv,⟨some 81,[.tk
 16],some (80,true),none,.mv⟩,⟨some 82,[.tk 8],some (80,true),none,.mv⟩,⟨some 83,[.tv 81,.tv 82],some (80,true),none,.bin .eql⟩,I_ 84 [.tv 80,.tv 83,.cv (.bool false)] .pick,I_ 85 [.tk 84] .mv,⟨some 86,
 [.tk 15],some (85,true),none,.mv⟩,⟨some 87,[.sl 10],some (85,true),none,.mv⟩,⟨some 88,[.tv 86,.tv 87],some (85,true),none,.bin .eql⟩,I_ 89 [.tv 85,.tv 88,.cv (.bool false)] .pick,I_ 90 [.tk 89] .mv,⟨some
 91,[.tk 17],some (90,true),none,.mv⟩,⟨some 92,[.tk 10],some (90,true),none,.mv⟩,⟨some 93,[.tv 91,.tv 92],some (90,true),none,.bin .eql⟩,I_ 94 [.tv 90,.tv 93,.cv (.bool false)] .pick,I_ 4 [.tk 66] .mv,I_ 5
 [.tk 67] .mv,I_ 6 [.tk 68] .mv,I_ 7 [.tk 94] .mv]) .ret)))))))
theorem lxx46:linkF Tryz.prog ann46 46=some (xrc46,95,[.tmp 4,.tmp 5,.tmp 6,.tmp 7]):=by kernel_rfl
def x46 (b:(Int×(List Int)×Int×Int)) (panels:(List (Int×Int))):Option (Int×Int×(List (List Int))×Bool) :=
 (x33 b panels).bind fun r1 =>
 (x35 b panels).bind fun r2 =>
 (x37 b panels).bind fun r3 =>
 if (decide (r1.2≠(0:Int)))=true then
  some ((0:Int),(0:Int),[],false)
 else
  if (decide (r2.2≠(0:Int)))=true then
   some ((0:Int),(0:Int),[],false)
  else
   if (decide (r3.2≠(0:Int)))=true then
    some ((0:Int),(0:Int),[],false)
   else
    (x25 r3.1).bind fun r4 =>
    if r4=true then
     some ((0:Int),(0:Int),[],false)
    else
     (x26 b panels r3.1).bind fun r5 =>
     (x27 b panels r3.1).bind fun r6 =>
     if (decide (r5.2.2=(0:Int)))=true then
      if (decide (r6.2.2=(0:Int)))=true then
       if (decide (r5.1=r1.1))=true then
        if (decide (r6.1=r1.1))=true then
         if (decide (r5.2.1=r2.1))=true then
          some (r1.1,r2.1,r3.1,(decide (r6.2.1=r2.1)))
         else
          some (r1.1,r2.1,r3.1,false)
        else
         some (r1.1,r2.1,r3.1,false)
       else
        some (r1.1,r2.1,r3.1,false)
      else
       some (r1.1,r2.1,r3.1,false)
     else
      some (r1.1,r2.1,r3.1,false)
theorem x46_ok {b:(Int×(List Int)×Int×Int)} {panels:(List (Int×Int))} {v:(Int×Int×(List (List Int))×Bool)} (h:x46 b panels=some v):PO 46 [(.agg [(I b.1),(.lst (b.2.1.map I) b.2.1.length .shared),(I b.2.2.1),(I b.2.2.2)]),(.lst (panels.flatMap pr) panels.length .shared)] (.tuple [(I v.1),(I v.2.1),(.lst (v.2.2.1.map L1) v.2.2.1.length .shared),(B v.2.2.2)]):=by
 refine fn_pureW hmix lxx46 rfl (pu_tup (allc rfl (allc rfl (allc (pu_map (fun _=>(pu_map (fun _=>rfl) _ _ _)) _ _ _) (allc rfl rfl))))) fun Q hQ=>?_
 have hR:∀ T H,RetW [.tmp 4,.tmp 5,.tmp 6,.tmp 7] (.tuple [(I v.1),(I v.2.1),(.lst (v.2.2.1.map L1) v.2.2.1.length .shared),(B v.2.2.2)]) .ret T H→Q .ret T H:=fun T H hh=>hQ _ T H hh
 unfold x46 at h
 unfold xrc46
 skip
 conv=>whnf
 obtain ⟨r1,hb1,h⟩:=bd_some h
 refine ⟨(allc (pu_agg (allc rfl (allc (pu_map (fun _=>rfl) _ _ _) (allc rfl (allc rfl rfl))))) (allc (pu_flat (fun _=>(allc rfl (allc rfl rfl))) _ _ _) rfl)),_,x33_ok hb1,?_⟩
 conv=>whnf
 obtain ⟨r2,hb2,h⟩:=bd_some h
 refine ⟨(allc (pu_agg (allc rfl (allc (pu_map (fun _=>rfl) _ _ _) (allc rfl (allc rfl rfl))))) (allc (pu_flat (fun _=>(allc rfl (allc rfl rfl))) _ _ _) rfl)),_,x35_ok hb2,?_⟩
 conv=>whnf
 obtain ⟨r3,hb3,h⟩:=bd_some h
 refine ⟨(allc (pu_agg (allc rfl (allc (pu_map (fun _=>rfl) _ _ _) (allc rfl (allc rfl rfl))))) (allc (pu_flat (fun _=>(allc rfl (allc rfl rfl))) _ _ _) rfl)),_,x37_ok hb3,?_⟩
 conv=>whnf
 rcases bt (decide (r1.2≠(0:Int))) with hb4 | hb4
 ·rw [hb4]
  conv=>whnf
  replace h:=it_t hb4 h
  obtain rfl:=Option.some.inj h
  exact hR _ _ ⟨.inr rfl,_,rfl,_,frz_pure (pu_tup (allc rfl (allc rfl (allc rfl (allc rfl rfl))))),rfl⟩
 ·rw [hb4]
  conv=>whnf
  replace h:=it_f hb4 h
  rcases bt (decide (r2.2≠(0:Int))) with hb5 | hb5
  ·rw [hb5]
   conv=>whnf
   replace h:=it_t hb5 h
   obtain rfl:=Option.some.inj h
   exact hR _ _ ⟨.inr rfl,_,rfl,_,frz_pure (pu_tup (allc rfl (allc rfl (allc rfl (allc rfl rfl))))),rfl⟩
  ·rw [hb5]
   conv=>whnf
   replace h:=it_f hb5 h
   rcases bt (decide (r3.2≠(0:Int))) with hb6 | hb6
   ·rw [hb6]
    conv=>whnf
    replace h:=it_t hb6 h
    obtain rfl:=Option.some.inj h
    exact hR _ _ ⟨.inr rfl,_,rfl,_,frz_pure (pu_tup (allc rfl (allc rfl (allc rfl (allc rfl rfl))))),rfl⟩
   ·rw [hb6]
    conv=>whnf
    replace h:=it_f hb6 h
    obtain ⟨r4,hb7,h⟩:=bd_some h
    refine ⟨(allc (pu_map (fun _=>(pu_map (fun _=>rfl) _ _ _)) _ _ _) rfl),_,x25_ok hb7,?_⟩
    conv=>whnf
    cases r4
    ·conv=>whnf
     replace h:=it_f rfl h
     obtain ⟨r5,hb8,h⟩:=bd_some h
     refine ⟨(allc (pu_agg (allc rfl (allc (pu_map (fun _=>rfl) _ _ _) (allc rfl (allc rfl rfl))))) (allc (pu_flat (fun _=>(allc rfl (allc rfl rfl))) _ _ _) (allc (pu_map (fun _=>(pu_map (fun _=>rfl) _ _ _)) _ _ _) rfl))),_,x26_ok hb8,?_⟩
     conv=>whnf
     obtain ⟨r6,hb9,h⟩:=bd_some h
     refine ⟨(allc (pu_agg (allc rfl (allc (pu_map (fun _=>rfl) _ _ _) (allc rfl (allc rfl rfl))))) (allc (pu_flat (fun _=>(allc rfl (allc rfl rfl))) _ _ _) (allc (pu_map (fun _=>(pu_map (fun _=>rfl) _ _ _)) _ _ _) rfl))),_,x27_ok hb9,?_⟩
     conv=>whnf
     rcases bt (decide (r5.2.2=(0:Int))) with hb10 | hb10
     ·rw [hb10]
      conv=>whnf
      replace h:=it_t hb10 h
      rcases bt (decide (r6.2.2=(0:Int))) with hb11 | hb11
      ·rw [hb11]
       conv=>whnf
       replace h:=it_t hb11 h
       rcases bt (decide (r5.1=r1.1)) with hb12 | hb12
       ·rw [hb12]
        conv=>whnf
        replace h:=it_t hb12 h
        rcases bt (decide (r6.1=r1.1)) with hb13 | hb13
        ·rw [hb13]
         conv=>whnf
         replace h:=it_t hb13 h
         rcases bt (decide (r5.2.1=r2.1)) with hb14 | hb14
         ·rw [hb14]
          conv=>whnf
          replace h:=it_t hb14 h
          obtain rfl:=Option.some.inj h
          exact hR _ _ ⟨.inr rfl,_,rfl,_,frz_pure (pu_tup (allc rfl (allc rfl (allc (pu_map (fun _=>(pu_map (fun _=>rfl) _ _ _)) _ _ _) (allc rfl rfl))))),rfl⟩
         ·rw [hb14]
          conv=>whnf
          replace h:=it_f hb14 h
          obtain rfl:=Option.some.inj h
          exact hR _ _ ⟨.inr rfl,_,rfl,_,frz_pure (pu_tup (allc rfl (allc rfl (allc (pu_map (fun _=>(pu_map (fun _=>rfl) _ _ _)) _ _ _) (allc rfl rfl))))),rfl⟩
        ·rw [hb13]
         conv=>whnf
         replace h:=it_f hb13 h
         obtain rfl:=Option.some.inj h
         exact hR _ _ ⟨.inr rfl,_,rfl,_,frz_pure (pu_tup (allc rfl (allc rfl (allc (pu_map (fun _=>(pu_map (fun _=>rfl) _ _ _)) _ _ _) (allc rfl rfl))))),rfl⟩
       ·rw [hb12]
        conv=>whnf
        replace h:=it_f hb12 h
        obtain rfl:=Option.some.inj h
        exact hR _ _ ⟨.inr rfl,_,rfl,_,frz_pure (pu_tup (allc rfl (allc rfl (allc (pu_map (fun _=>(pu_map (fun _=>rfl) _ _ _)) _ _ _) (allc rfl rfl))))),rfl⟩
      ·rw [hb11]
       conv=>whnf
       replace h:=it_f hb11 h
       obtain rfl:=Option.some.inj h
       exact hR _ _ ⟨.inr rfl,_,rfl,_,frz_pure (pu_tup (allc rfl (allc rfl (allc (pu_map (fun _=>(pu_map (fun _=>rfl) _ _ _)) _ _ _) (allc rfl rfl))))),rfl⟩
     ·rw [hb10]
      conv=>whnf
      replace h:=it_f hb10 h
      obtain rfl:=Option.some.inj h
      exact hR _ _ ⟨.inr rfl,_,rfl,_,frz_pure (pu_tup (allc rfl (allc rfl (allc (pu_map (fun _=>(pu_map (fun _=>rfl) _ _ _)) _ _ _) (allc rfl rfl))))),rfl⟩
    ·conv=>whnf
     replace h:=it_t rfl h
     obtain rfl:=Option.some.inj h
     exact hR _ _ ⟨.inr rfl,_,rfl,_,frz_pure (pu_tup (allc rfl (allc rfl (allc rfl (allc rfl rfl))))),rfl⟩

def x5 (b:(Int×(List Int)×Int×Int)) (panels:(List (Int×Int))):Option Bool :=
 (x16 b panels).bind fun r1 =>
 if r1=true then
  (x17).bind fun r2 =>
  some r2
 else
  (x33 b panels).bind fun r3 =>
  (x34 b panels).bind fun r4 =>
  (x35 b panels).bind fun r5 =>
  (x36 b panels).bind fun r6 =>
  (x37 b panels).bind fun r7 =>
  if (decide (r3.1≠r4.1))=true then
   some false
  else
   if (decide (r3.2≠r4.2))=true then
    some false
   else
    if (decide (r5.1≠r6.1))=true then
     some false
    else
     if (decide (r5.2≠r6.2))=true then
      some false
     else
      if (decide (r7.2≠r4.2))=true then
       some false
      else
       (x25 r7.1).bind fun r8 =>
       if r8=true then
        some false
       else
        if (decide (r4.2≠(0:Int)))=true then
         if (decide ((r7.1.length:Int)=(0:Int)))=true then
          (x17).bind fun r9 =>
          some r9
         else
          some false
        else
         (x27 b panels r7.1).bind fun r10 =>
         if (decide (r10.2.2=(0:Int)))=true then
          if (decide (r10.1=r4.1))=true then
           if (decide (r10.2.1=r6.1))=true then
            (x17).bind fun r11 =>
            some r11
           else
            some false
          else
           some false
         else
          some false

theorem swo_up:Sort.SWO Sort.ltInt:=by
 constructor <;> intros <;> simp_all [Sort.ltInt] <;> omega
theorem sortU_perm (l:List Int):(sortU l).Perm l:=by
 obtain ⟨⟨h1,_,h3⟩,_⟩:=Sort.insertionSort_holds (lt:=Sort.ltInt) swo_up l.toArray 0 l.length (Nat.zero_le _) (by simp)
 unfold sortU
 generalize Sort.insertionSort Sort.ltInt l.toArray 0 l.length=d at h1 h3
 have e1:(d.extract 0 l.length).toList=d.toList:=by
  have:l.length=d.size:=by rw [h1];simp
  rw [this];simp
 have e2:(l.toArray.extract 0 l.length).toList=l:=by simp
 rwa [e1,e2] at h3
theorem sortU_len (l:List Int):(sortU l).length=l.length:=(sortU_perm l).length_eq
theorem sortU_mem (l:List Int) (x:Int):x∈sortU l↔x∈l:=(sortU_perm l).mem_iff
theorem sortU_up {l:List Int} (hn:l.Nodup):(sortU l).Pairwise (·<·):=by
 have hn2:(sortU l).Nodup:=(sortU_perm l).nodup_iff.2 hn
 obtain ⟨⟨h1,_,_⟩,h4⟩:=Sort.insertionSort_holds (lt:=Sort.ltInt) swo_up l.toArray 0 l.length (Nat.zero_le _) (by simp)
 rw [List.pairwise_iff_getElem]
 intro i j hi hj hij
 have hl:=sortU_len l
 have hs:(Sort.insertionSort Sort.ltInt l.toArray 0 l.length).size=l.length:=by rw [h1];simp
 have h5:=h4 i j (Nat.zero_le _) (by omega) (by omega)
 rw [getElem!_pos _ i (by omega),getElem!_pos _ j (by omega)] at h5
 have h6:(sortU l)[i]≤(sortU l)[j]:=by
  have g:∀ k (hk:k<(sortU l).length),(sortU l)[k]=(Sort.insertionSort Sort.ltInt l.toArray 0 l.length)[k]'(by omega):=fun k hk=>rfl
  rw [g i hi,g j hj]
  simp only [Sort.ltInt,decide_eq_false_iff_not] at h5
  omega
 have h7:=List.pairwise_iff_getElem.1 hn2 i j hi hj hij
 omega
theorem chunks_take (n:Nat) (l:List Int):∀ c,((List.range c).map fun j=>(l.drop (j*n)).take n).flatten=l.take (c*n)
 | 0=>by simp
 | c+1=>by
   rw [List.range_succ,List.map_append,List.flatten_append,chunks_take n l c,Nat.succ_mul,List.take_add];simp
theorem chunks_flat {n:Nat} (hn:0<n) (l:List Int):(chunks n l).flatten=l:=by
 unfold chunks
 rw [chunks_take]
 refine List.take_of_length_le ?_
 rcases Nat.lt_or_ge ((l.length+n-1) / n*n) l.length with h | h
 ·have:=(chunks_lt (k:=l.length) hn (j:=(l.length+n-1) / n)).2 h
  omega
 ·exact h
theorem map_flat_perm (f:List Int→List Int) (hf:∀ l,(f l).Perm l):∀ L:List (List Int),(L.map f).flatten.Perm L.flatten
 | []=>.refl _
 | e::L=>by rw [List.map_cons,List.flatten_cons,List.flatten_cons];exact (hf e).append (map_flat_perm f hf L)
theorem chunk_eq {n:Nat} {l e:List Int} (h:e∈chunks n l):∃ j,e=(l.drop (j*n)).take n:=by
 obtain ⟨j,_,rfl⟩:=List.mem_map.1 h
 exact ⟨j,rfl⟩
theorem chunk_sub {n:Nat} {l e:List Int} (h:e∈chunks n l):e.Sublist l:=by
 obtain ⟨j,rfl⟩:=chunk_eq h
 exact (List.take_sublist _ _).trans (List.drop_sublist _ _)
theorem ofL_perm (ps:List (Int×Int)) (h:Int):(ofL ps h).Perm (idxs ps h):=by
 have hS:Sort.SWO (longer ps):=by
  constructor <;> intros <;> simp_all [longer] <;> omega
 obtain ⟨⟨h1,_,h3⟩,_⟩:=Sort.insertionSort_holds (lt:=longer ps) hS (idxs ps h).toArray 0 (idxs ps h).length (Nat.zero_le _) (by simp)
 unfold ofL
 generalize Sort.insertionSort (longer ps) (idxs ps h).toArray 0 (idxs ps h).length=d at h1 h3
 have e1:(d.extract 0 (idxs ps h).length).toList=d.toList:=by
  have:(idxs ps h).length=d.size:=by rw [h1];simp
  rw [this];simp
 have e2:((idxs ps h).toArray.extract 0 (idxs ps h).length).toList=idxs ps h:=by simp
 rwa [e1,e2] at h3
theorem idxs_mem {ps:List (Int×Int)} {h x:Int}:x∈idxs ps h↔(0≤x∧x<(ps.length:Int))∧(ix ps x).1=h:=by
 unfold idxs wants
 rw [List.mem_map]
 constructor
 ·rintro ⟨i,hi,rfl⟩
  obtain ⟨h1,h2⟩:=List.mem_filter.1 hi
  have h1:=List.mem_range.1 h1
  exact ⟨by omega,of_decide_eq_true h2⟩
 ·rintro ⟨h1,h2⟩
  have e:((x.toNat:Nat):Int)=x:=by omega
  exact ⟨x.toNat,List.mem_filter.2 ⟨List.mem_range.2 (by omega),by rw [e];exact decide_eq_true h2⟩,e⟩
theorem idxs_nodup (ps:List (Int×Int)) (h:Int):(idxs ps h).Nodup:=by
 unfold idxs
 rw [List.nodup_iff_pairwise_ne,List.pairwise_map]
 exact (List.nodup_range.filter _).imp fun h e=>h (by omega)
theorem ofL_mem {ps:List (Int×Int)} {h x:Int}:x∈ofL ps h↔(0≤x∧x<(ps.length:Int))∧(ix ps x).1=h:=by
 rw [(ofL_perm ps h).mem_iff,idxs_mem]
theorem ofL_nodup (ps:List (Int×Int)) (h:Int):(ofL ps h).Nodup:=(ofL_perm ps h).nodup_iff.2 (idxs_nodup ps h)
def turnsOf (n:Nat) (ps:List (Int×Int)) (h:Int):List (List Int):=(chunks n (ofL ps h)).map sortU
def turnsL (n:Nat) (ps:List (Int×Int)) (l:List Int):List (List Int):=(l.map (turnsOf n ps)).flatten
theorem turnsL_cons (n:Nat) (ps:List (Int×Int)) (h:Int) (l:List Int):turnsL n ps (h::l)=turnsOf n ps h++turnsL n ps l:=rfl
theorem turnsOf_len {n:Nat} (hn:0<n) (ps:List (Int×Int)) (h:Int):(turnsOf n ps h).length≤ps.length:=by
 unfold turnsOf
 rw [List.length_map]
 have h1:=chunks_cnt hn (ofL ps h)
 have h2:=idxs_len ps h
 rw [ofL_len] at h1
 omega
theorem mem_turnsL {n:Nat} {ps:List (Int×Int)} {l t:List Int} (h:t∈turnsL n ps l):∃ he∈l,∃ e∈chunks n (ofL ps he),t=sortU e:=by
 obtain ⟨L,hL,ht⟩:=List.mem_flatten.1 h
 obtain ⟨he,h1,rfl⟩:=List.mem_map.1 hL
 obtain ⟨e,h2,rfl⟩:=List.mem_map.1 ht
 exact ⟨he,h1,e,h2,rfl⟩
theorem turnsL_flat {n:Nat} (hn:0<n) (ps:List (Int×Int)):∀ l:List Int,(turnsL n ps l).flatten.Perm (l.map (idxs ps)).flatten
 | []=>.refl _
 | h::l=>by
   rw [turnsL_cons,List.flatten_append,List.map_cons,List.flatten_cons]
   refine .append ?_ (turnsL_flat hn ps l)
   refine (map_flat_perm sortU sortU_perm _).trans ?_
   rw [chunks_flat hn]
   exact ofL_perm ps h
theorem chunk_heat {n:Nat} {ps:List (Int×Int)} {h:Int} {e:List Int} (he:e∈chunks n (ofL ps h)):∀ x∈sortU e,(0≤x∧x<(ps.length:Int))∧(ix ps x).1=h:=fun x hx =>
 ofL_mem.1 (chunk_mem he x ((sortU_mem e x).1 hx))
theorem turn_heat {n:Nat} (hn:0<n) {ps:List (Int×Int)} {h:Int} {e:List Int} (he:e∈chunks n (ofL ps h)):0<(sortU e).length∧heatT ps (sortU e)=h:=by
 have h0:0<(sortU e).length:=by
  rw [sortU_len];exact List.length_pos_iff.2 (chunk_ne hn he)
 exact ⟨h0,(chunk_heat he _ (ix0_mem h0)).2⟩
theorem turnsL_ok {n:Nat} (hn:0<n) {ps:List (Int×Int)} (hp:PsOk ps) (h:Int):TOk n ps [] (turnsL n ps (ordP h ps)):=by
 have hflat:=turnsL_flat hn ps (ordP h ps)
 refine ⟨fun t ht=>?_,fun t ht x hx=>?_,fun t ht=>?_,fun t ht=>?_,fun t ht x hx=>?_,?_,?_⟩
 ·obtain ⟨he,_,e,h2,rfl⟩:=mem_turnsL ht
  exact (turn_heat hn h2).1
 ·obtain ⟨he,_,e,h2,rfl⟩:=mem_turnsL ht
  exact (chunk_heat h2 x hx).1
 ·obtain ⟨he,_,e,h2,rfl⟩:=mem_turnsL ht
  exact sortU_up ((chunk_sub h2).nodup (ofL_nodup ps he))
 ·obtain ⟨he,_,e,h2,rfl⟩:=mem_turnsL ht
  obtain ⟨j,rfl⟩:=chunk_eq h2
  rw [sortU_len,List.length_take];omega
 ·obtain ⟨he,_,e,h2,rfl⟩:=mem_turnsL ht
  rw [(turn_heat hn h2).2];exact (chunk_heat h2 x hx).2
 ·rw [List.nil_append,hflat.nodup_iff]
  refine List.pairwise_flatten.2 ⟨fun l hl=>?_,?_⟩
  ·obtain ⟨he,_,rfl⟩:=List.mem_map.1 hl
   exact idxs_nodup ps he
  ·rw [List.pairwise_map]
   exact (ordP_nodup h ps).imp fun hne x hx y hy e=>hne (by rw [←(idxs_mem.1 hx).2,←(idxs_mem.1 hy).2,e])
 ·rw [List.nil_append,hflat.length_eq]
  have:=pig ((List.range ps.length).map fun (i:Nat)=>(i:Int)) ((ordP h ps).map (idxs ps)).flatten (nodup_cast _) fun x hx=>by
   obtain ⟨i,hi,rfl⟩:=List.mem_map.1 hx
   have hi:=List.mem_range.1 hi
   have hr:0≤(i:Int)∧(i:Int)<(ps.length:Int):=by omega
   exact List.mem_flatten.2 ⟨_,List.mem_map.2 ⟨(ix ps (i:Int)).1,(ordP_mem hp.heat _).2 (List.mem_map.2 ⟨_,ixps_mem hr,rfl⟩),rfl⟩,idxs_mem.2 ⟨hr,rfl⟩⟩
  simpa using this
theorem hourT_set {ps:List (Int×Int)} {t e:List Int} (h:∀ x,x∈t↔x∈e):hourT ps t=hourT ps e:=by
 unfold hourT
 refine maxL_set (fun x=>?_) 0
 rw [List.mem_map,List.mem_map]
 exact ⟨fun ⟨y,hy,e⟩=>⟨y,(h y).1 hy,e⟩,fun ⟨y,hy,e⟩=>⟨y,(h y).2 hy,e⟩⟩
theorem maxL_head {a:Int} {r:List Int} (ha:0≤a) (h:∀ x∈r,x≤a):maxL 0 (a::r)=a:=by
 have s:=maxL_spec (a::r) 0
 refine Int.le_antisymm ?_ (s.2.1 a (by simp))
 rcases s.2.2 with h1 | h1
 ·omega
 ·rcases List.mem_cons.1 h1 with h2 | h2
  ·omega
  ·exact h _ h2
theorem chunk_hour {n:Nat} (hn:0<n) {ps:List (Int×Int)} (hp:hrsOk ps) {h:Int} {e:List Int} (he:e∈chunks n (ofL ps h)):hourT ps (sortU e)=(ix ps (e.headD 0)).2:=by
 rw [hourT_set (sortU_mem e)]
 have hs:(e.map fun x=>(ix ps x).2).Pairwise (fun a b=>b≤a):=by
  have h1:((ofL ps h).map fun x=>(ix ps x).2).Pairwise (fun a b=>b≤a):=by
   rw [ofL_hrs];exact down_sorted fun x hx=>(hrs_in hp h x hx).1
  exact h1.sublist ((chunk_sub he).map _)
 have hne:=chunk_ne hn he
 have hm:=chunk_mem he
 cases e with
 | nil=>exact absurd rfl hne
 | cons a r =>
   have ha:=(ofL_mem.1 (hm a (by simp))).1
   have:=hp _ (ixps_mem ha)
   exact maxL_head this.1 (List.pairwise_cons.1 hs).1
theorem tHours_app (ps:List (Int×Int)) (a b:List (List Int)):tHours ps (a++b)=tHours ps a+tHours ps b:=by
 unfold tHours;rw [List.map_append,List.sum_append]
theorem turnsOf_hours {n:Nat} (hn:0<n) {ps:List (Int×Int)} (hp:hrsOk ps) (h:Int):tHours ps (turnsOf n ps h)=hH n (hrs ps h):=by
 rw [←sum_heads n hn ps h]
 unfold tHours turnsOf
 rw [List.map_map]
 congr 1
 exact List.map_congr_left fun e he=>chunk_hour hn hp he
theorem turnsL_sum {n:Nat} (hn:0<n) {ps:List (Int×Int)} (hp:hrsOk ps):∀ l:List Int,tHours ps (turnsL n ps l)=(l.map fun h=>hH n (hrs ps h)).sum
 | []=>rfl
 | h::l=>by rw [turnsL_cons,tHours_app,turnsOf_hours hn hp,turnsL_sum hn hp l,List.map_cons,List.sum_cons]
theorem sum_filter0 {f:Nat→Int} {p:Nat→Bool}:∀ l:List Nat,(∀ x∈l,p x=false→f x=0)→((l.filter p).map f).sum=(l.map f).sum
 | [],_=>rfl
 | a::l,h=>by
   have ih:=sum_filter0 l fun x hx=>h x (by simp [hx])
   cases hp:p a with
   | true=>rw [List.filter_cons_of_pos hp,List.map_cons,List.map_cons,List.sum_cons,List.sum_cons,ih]
   | false=>rw [List.filter_cons_of_neg (by simp [hp]),List.map_cons,List.sum_cons,ih,h a (by simp) hp,Int.zero_add]
theorem turnsL_hours {n:Nat} (hn:0<n) {ps:List (Int×Int)} (hp:PsOk ps) (h:Int):tHours ps (turnsL n ps (ordP h ps))=hSum n ps 21:=by
 rw [turnsL_sum hn hp.hrs]
 have h1:((upTo (wantL ps) 21).map fun h=>hH n (hrs ps h)).sum=hSum n ps 21:=by
  unfold upTo hSum
  rw [List.map_map]
  refine sum_filter0 _ fun x hx hf=>?_
  have hx:=List.mem_range.1 hx
  have h2:(x:Int) ∉ ps.map (·.1):=fun hm=>by
   obtain ⟨j,_,h3,h4⟩:=mem_upTo.1 ((want_mem hp.heat _).2 hm)
   rw [←h4] at h3
   exact absurd (decide_eq_true h3) (by rw [hf];decide)
  show hH n (hrs ps (x:Int))=0
  have h3:hrs ps (x:Int)=[]:=by
   unfold hrs
   rw [List.map_eq_nil_iff,List.filter_eq_nil_iff]
   intro p hp e
   exact h2 (List.mem_map.2 ⟨p,hp,of_decide_eq_true e⟩)
  rw [h3,hH_nil n hn]
 unfold ordP
 split
 ·rw [←h1]
  exact perm_sum ((List.reverse_perm _).map _)
 ·exact h1
theorem walk_rep (h:Int) (l:List Int):∀ c,walk h (List.replicate c h++l)=walk h l
 | 0=>rfl
 | c+1=>by rw [List.replicate_succ,List.cons_append,walk,walk_rep h l c];omega
theorem turnsL_walk {n:Nat} (hn:0<n) {ps:List (Int×Int)}:∀ (l:List Int) (s:Int),(∀ h∈l,h∈ps.map (·.1))→walk s ((turnsL n ps l).map (heatT ps))=walk s l
 | [],_,_=>rfl
 | h::l,s,hl=>by
   have ih:=turnsL_walk hn l h fun x hx=>hl x (by simp [hx])
   have e1:(turnsOf n ps h).map (heatT ps)=List.replicate (turnsOf n ps h).length h:=by
    rw [List.eq_replicate_iff]
    refine ⟨by simp,fun b hb=>?_⟩
    obtain ⟨t,ht,rfl⟩:=List.mem_map.1 hb
    obtain ⟨e,he,rfl⟩:=List.mem_map.1 ht
    exact (turn_heat hn he).2
   obtain ⟨p,hp,e2⟩:=List.mem_map.1 (hl h (by simp))
   obtain ⟨i,hi,e3⟩:=List.mem_iff_getElem.1 hp
   have hm:(i:Int)∈ofL ps h:=ofL_mem.2 ⟨by omega,by rw [ix_nat hi,e3];exact e2⟩
   have hpos:0<(turnsOf n ps h).length:=by
    unfold turnsOf
    rw [List.length_map]
    rcases Nat.eq_zero_or_pos (chunks n (ofL ps h)).length with h0 | h0
    ·have:=chunks_flat hn (ofL ps h)
     rw [List.eq_nil_of_length_eq_zero h0] at this
     rw [←this] at hm;cases hm
    ·exact h0
   rw [turnsL_cons,List.map_append,e1]
   obtain ⟨c,hc⟩:∃ c,(turnsOf n ps h).length=c+1:=⟨(turnsOf n ps h).length-1,by omega⟩
   rw [hc,List.replicate_succ,List.cons_append,walk,walk_rep,ih,walk]
theorem turnsL_way {n:Nat} (hn:0<n) {ps:List (Int×Int)} (hp:PsOk ps) {h:Int} (hh:0≤h∧h≤20):walk h ((turnsL n ps (ordP h ps)).map (heatT ps))=wayM h (ps.map (·.1)):=by
 rw [turnsL_walk hn _ h fun x hx=>(ordP_mem hp.heat x).1 hx,ordP_way hh hp.heat]
theorem fold37:∀ (L:List (List Int)) (t:List (List Int)),(∀ e∈L,0<e.length∧e.length≤12)→t.length+L.length≤1000→foldO x37_r1 L t=some (t++L.map sortU)
 | [],t,_,_=>by simp [foldO]
 | e::L,t,h,hl=>by
   have h1:=h e (by simp)
   rw [List.length_cons] at hl
   have e1:x37_r1 t e=some (t++[sortU e]):=by
    have e77:x77 e=some (sortU e):=if_pos h1
    have et:t.take (t.length:Int).toNat=t:=by rw [Int.toNat_natCast,List.take_length]
    rw [x37_r1,gd_pos ⟨rfl,by omega,Int.le_refl _⟩,et]
    show (x78 e).bind _=_
    rw [x78,Option.bind_some,e77,Option.bind_some,gd_pos ⟨by decide,by omega⟩]
   rw [foldO,e1,Option.bind_some,fold37 L _ (fun e he=>h e (by simp [he])) (by rw [List.length_append];simp;omega),List.append_assoc];rfl
theorem x37_l1_eq {p1:Bench} {ps:List (Int×Int)} (hp1:p1.2.1=ps) (hp:ps.length≤12) (hn:1≤p1.2.2.1.length∧p1.2.2.1.length≤10) {r2:List Int} (hr:r2.length≤21) {k:List (List Int)→Option (List (List Int)×Int)}:∀ (m i:Nat) (z:Int) (s:List (List Int)),z=i→i≤r2.length→r2.length-i<m→s.length≤12*i→x37_l1 p1 r2 k m z s=k (s++turnsL p1.2.2.1.length ps (r2.drop i))
 | 0,i,_,_,_,_,h,_=>absurd h (by omega)
 | m+1,i,_,s,rfl,hi,hm,hs=>by
   rw [x37_l1]
   by_cases h:i<r2.length
   ·have h1:=turnsOf_len (n:=p1.2.2.1.length) (by omega) ps r2[i]
    have hol:(ofL ps r2[i]).length≤ps.length:=by rw [ofL_len];exact idxs_len ps _
    have hcl:(chunks p1.2.2.1.length (ofL ps r2[i])).length≤ps.length:=by unfold turnsOf at h1;rwa [List.length_map] at h1
    have e1:x76 p1 r2[i]=some (ofL ps r2[i]):=by rw [x76,hp1,if_pos (by omega)]
    have e2:x75 (ofL ps r2[i]) (p1.2.2.1.length:Int)=some ():=if_neg (by rw [decide_eq_true_eq];omega)
    have e3:s98 (ofL ps r2[i]) (p1.2.2.1.length:Int)=some (chunks p1.2.2.1.length (ofL ps r2[i])):=by
     unfold s98;rw [if_pos ⟨by omega,by omega,by omega⟩,Int.toNat_natCast]
    have e4:=fold37 (chunks p1.2.2.1.length (ofL ps r2[i])) s (fun e he=>⟨List.length_pos_iff.2 (chunk_ne (by omega) he),by have:=(chunk_sub he).length_le;omega⟩) (by omega)
    rw [iflt h,gdi h,ix_nat h,e1,Option.bind_some,e2,Option.bind_some,e3,Option.bind_some,e4,Option.bind_some,w_succ i (by omega)]
    have ih:=x37_l1_eq hp1 hp hn hr (k:=k) m (i+1) _ (s++turnsOf p1.2.2.1.length ps r2[i]) rfl (by omega) (by omega) (by rw [List.length_append];omega)
    rw [List.drop_eq_getElem_cons h,turnsL_cons,←List.append_assoc]
    exact ih
   ·obtain rfl:i=r2.length:=by omega
    rw [ifge h,List.drop_length]
    show k s=k (s++[])
    rw [List.append_nil]
def bestT (b:Bed) (ps:List (Int×Int)):List (List Int):=turnsL (wn b) ps (ordP b.2.2.1 ps)
theorem x37_eq {b:Bed} (hb:bErr b=0) (hl:b.2.1.length≤20) {ps:List (Int×Int)} (hp:PsOk ps):x37 b ps=some (bestT b ps,0):=by
 have hB:=bedOk hb
 have hw:=wn_pos hB
 have h1:=ordP_len b.2.2.1 ps
 have:=x37_l1_eq (p1:=(b,ps,wholeL b.1.toNat b.2.1,wantL ps)) rfl hp.len hw h1 (k:=fun z1=>some (z1,(0:Int))) FU 0 0 [] rfl (Nat.zero_le _) (FU_lt (by omega)) (by simp)
 rw [List.drop_zero,List.nil_append] at this
 rw [x37,x69_eq hb hl hp,Option.bind_some]
 show (if (decide ((0:Int)≠(0:Int)))=true then _ else _)=_
 rw [if_neg (by decide),x74_eq hp.heat,Option.bind_some]
 exact this
theorem x25_l1_eq {l:List (List Int)} (hl:l.length≤1000) (ht:∀ t∈l,t.length≤1000000000000000) {k:Int→Option Bool}:∀ (m i:Nat) (z:Int) (s:Nat),z=i→i≤l.length→l.length-i<m→s≤1000000000000000*i→x25_l1 l k m (s:Int) z=k (((s+((l.drop i).map List.length).sum:Nat)):Int)
 | 0,i,_,_,_,_,h,_=>absurd h (by omega)
 | m+1,i,_,s,rfl,hi,hm,hs=>by
   rw [x25_l1]
   by_cases h:i<l.length
   ·have h1:=ht _ (List.getElem_mem h)
    have e:w ((s:Int)+(l[i].length:Int))=((s+l[i].length:Nat):Int):=by rw [w_id (by omega)];omega
    rw [iflt h,gdi h,ix_nat h,e,w_succ i (by omega),x25_l1_eq hl ht m (i+1) _ _ rfl (by omega) (by omega) (by omega),List.drop_eq_getElem_cons h,List.map_cons,List.sum_cons,Nat.add_assoc]
   ·rw [ifge h,List.drop_eq_nil_of_le (by omega)]
    show k (s:Int)=k ((s+0:Nat):Int)
    rfl
theorem x25_eq {l:List (List Int)} (ht:∀ t∈l,t.length≤1000000000000000):x25 l=some (decide (20<l.length) || decide (40<(l.map List.length).sum)):=by
 rw [x25]
 by_cases h:20<l.length
 ·rw [if_pos (decide_eq_true (by omega)),decide_eq_true h];rfl
 ·rw [if_neg (by rw [decide_eq_true_eq];omega),decide_eq_false h,Bool.false_or]
  have:=x25_l1_eq (l:=l) (by omega) ht (k:=fun z1=>some (decide ((40:Int)<z1))) FU 0 0 0 rfl (Nat.zero_le _) (FU_lt (by omega)) (by omega)
  rw [List.drop_zero,Nat.zero_add] at this
  refine this.trans ?_
  congr 1
  rw [Bool.eq_iff_iff,decide_eq_true_eq,decide_eq_true_eq];omega
theorem len_flat:∀ L:List (List Int),L.flatten.length=(L.map List.length).sum
 | []=>rfl
 | e::L=>by rw [List.flatten_cons,List.length_append,len_flat L,List.map_cons,List.sum_cons]
theorem cnt_flat:∀ L:List (List Int),(∀ t∈L,0<t.length)→L.length≤L.flatten.length
 | [],_=>Nat.le_refl _
 | e::L,h=>by
   have h1:=(List.forall_mem_cons.1 h).1
   have h2:=cnt_flat L (List.forall_mem_cons.1 h).2
   rw [List.flatten_cons,List.length_append,List.length_cons];omega
theorem len_of_flat {L:List (List Int)} {t:List Int} (h:t∈L):t.length≤L.flatten.length:=by
 rw [len_flat]
 induction L with
 | nil=>cases h
 | cons e L ih =>
   rw [List.map_cons,List.sum_cons]
   rcases List.mem_cons.1 h with rfl | h
   ·omega
   ·have:=ih h;omega
theorem TOk.flat {n:Nat} {ps:List (Int×Int)} {ts:List (List Int)} (h:TOk n ps [] ts):ts.flatten.length=ps.length:=by
 have h1:=h.all
 have h2:=h.nd
 rw [List.nil_append] at h1 h2
 refine Nat.le_antisymm ?_ h1
 have:=pig ts.flatten ((List.range ps.length).map fun (i:Nat)=>(i:Int)) h2 fun x hx=>by
  obtain ⟨t,ht,hxt⟩:=List.mem_flatten.1 hx
  have:=h.rng t ht x hxt
  exact List.mem_map.2 ⟨x.toNat,List.mem_range.2 (by omega),by omega⟩
 simpa using this
theorem TOk.cnt {n:Nat} {ps:List (Int×Int)} {ts:List (List Int)} (h:TOk n ps [] ts):ts.length≤ps.length:=by
 have:=cnt_flat ts h.ne;rw [h.flat] at this;exact this
theorem TOk.one {n:Nat} {ps:List (Int×Int)} {ts:List (List Int)} (h:TOk n ps [] ts):∀ t∈ts,t.length≤ps.length:=fun t ht=>by
 have:=len_of_flat ht;rw [h.flat] at this;exact this
theorem bestT_ok {b:Bed} (hb:bErr b=0) {ps:List (Int×Int)} (hp:PsOk ps):TOk (wn b) ps [] (bestT b ps):=turnsL_ok (by have:=wn_pos (bedOk hb);omega) hp _
theorem x25_short {n:Nat} {ps:List (Int×Int)} (hp:ps.length≤12) {ts:List (List Int)} (h:TOk n ps [] ts):x25 ts=some false:=by
 have h1:=h.flat
 have h2:=h.cnt
 rw [x25_eq fun t ht=>by have:=h.one t ht;omega,←len_flat,h1,decide_eq_false (by omega),decide_eq_false (by omega)];rfl
theorem tAns_best {b:Bed} (hb:bErr b=0) {ps:List (Int×Int)} (hp:PsOk ps):tAns b ps (bestT b ps)=(hSum (wn b) ps 21,wayM b.2.2.1 (ps.map (·.1)),0):=by
 have hB:=bedOk hb
 have hw:=wn_pos hB
 have hT:=(tErr_iff _ [] nil_nodup).2 (bestT_ok hb hp)
 unfold tAns
 rw [if_pos (eB_of hb hp),if_pos hT]
 unfold bestT
 rw [turnsL_hours (by omega) hp,turnsL_way (by omega) hp hB.h0]
theorem x46_eq {b:Bed} {ps:List (Int×Int)} (hf:FineOk b ps):x46 b ps=some (hSum (wn b) ps 21,wayM b.2.2.1 (ps.map (·.1)),bestT b ps,true):=by
 obtain ⟨hl,hb,hp⟩:=hf
 have hpl:=hp.len
 have hO:=bestT_ok hb hp
 have h1:(bestT b ps).length≤1000:=by have:=hO.cnt;omega
 have h2:∀ t∈bestT b ps,t.length≤9223372036854775807:=fun t ht=>by have:=hO.one t ht;omega
 rw [x46,x33_eq hb hl hp,Option.bind_some,x35_eq hb hl hp,Option.bind_some,x37_eq hb hl hp,Option.bind_some]
 simp only [ne_eq,not_true_eq_false,decide_false,Bool.false_eq_true,if_false]
 rw [x25_short hpl hO,Option.bind_some,if_neg (by decide),x26_eq hl h1 h2,Option.bind_some,x27_eq hl h1 h2,Option.bind_some,tAns_best hb hp]
 simp only [decide_true,if_true]

end Go.Proofs.YtbnbjjgagikobaaGreat.Ab


namespace Go.Proofs.YtbnbjjgagikobaaGreat.Ab
open Go
set_option maxRecDepth 20000
set_option maxHeartbeats 4000000
noncomputable def xrc42_1:RC :=
 .loop (some [o_,i_,o_,o_,o_,o_,o_,o_,i_,o_,i_,i_,o_,o_,o_,o_,o_,o_,o_,o_,o_,o_,o_,o_,o_,o_,o_,o_,o_,o_,o_,o_,o_,o_,o_,o_,o_,o_,o_,o_,o_,o_,o_,o_,o_,o_,o_,o_,o_]) (.seq (.seq (.reg false [I_ 32 [.sl 8] .mv,I_ 33 [.sl 10] .mv,I_ 34 [.cv (.func 70 [] []),.sl 32,
 .sl 33] (.call 3),I_ 35 [.sl 11] .mv,I_ 36 [.tv 34,.tv 35] (.bin .gtr)]) (.cond (.sl 36) .skip (.exit 1))) (.seq (.block 2 (.seq (.reg false [I_ 39 [.sl 10] .mv,I_ 40 [.sl 1] .mv,I_ 41 [.tk 40] .lenS,I_ 42 [.tv 39,.tv
 41] (.bin .gtr)]) (.cond (.sl 42) (.exit 1) .skip))) (.reg false [I_ 37 [.tk 10] .mv,I_ 38 [.tv 37,.cv (.int .i64 1)] (.bin .add),I_ 10 [.tk 38] .mv])))
noncomputable def xrc42:RC :=
 .seq (.reg false [I_ 3 [.tk 0] .box,I_ 6 [.cv (.int .i64 0)] .mv,I_ 7 [.cv (.int .i64 0)] .mv]) (.seq (.reg false [I_ 13 [.sl 3] (.ld (.str 4)),I_ 14 [.sl 1] .mv,I_ 15 [.cv (.func 69 [] []),.sl 13,.sl 14] (.call 3),I_ 12
 [.tk 15] .mv,I_ 16 [.sl 12] (.ext 0),I_ 17 [.tv 12] (.ext 1),I_ 8 [.tk 16] .mv,I_ 9 [.tk 17] .mv]) (.seq (.block 0 (.seq (.reg false [I_ 19 [.sl 9] .mv,I_ 20 [.tv 19,.cv (.int .i64 0)] (.bin .neq),I_ 18 [.tk 20] .mv])
 (.cond (.sl 18) (.seq (.reg false [I_ 21 [.tk 9] .mv,I_ 6 [.cv (.int .i64 0)] .mv,I_ 7 [.tk 21] .mv]) .ret) (.seq (.reg false [I_ 23 [.sl 2] .mv,I_ 24 [.tv 23,.cv (.int .i64 0)] (.bin .lss),I_ 22 [.tk 24] .mv]) (.cond (.sl
 22) (.seq (.reg false [I_ 6 [.cv (.int .i64 0)] .mv,I_ 7 [.cv (.int .i64 2)] .mv]) .ret) .skip))))) (.seq (.reg true [I_ 25 [.tk 2] .mv,I_ 26 [.tv 3] (.fa 3),I_ 27 [.tv 26] (.ld .one),I_ 28 [.sl 8] .mv,I_ 29 [.cv (.func 72
 [] []),.sl 28] (.call 3),I_ 30 [.tv 27,.tv 29] (.bin .mul),I_ 31 [.tv 25,.tv 30] (.bin .sub),I_ 10 [.cv (.int .i64 1)] .mv,I_ 11 [.tk 31] .mv]) (.seq .skip (.seq (.block 1 xrc42_1) (.seq (.seq (.reg false [I_ 43 [.tk 8]
 .mv,I_ 44 [.sl 10] .mv,I_ 45 [.cv (.func 70 [] []),.sl 43,.sl 44] (.call 3),I_ 46 [.tk 11] .mv,I_ 47 [.tv 45,.tv 46] (.bin .gtr)]) (.cond (.sl 47) (.seq (.reg false [I_ 6 [.cv (.int .i64 0)] .mv,I_ 7 [.cv (.int .i64 5)]
 .mv]) .ret) .skip)) (.seq (.reg false [I_ 48 [.tk 10] .mv,I_ 6 [.tk 48] .mv,I_ 7 [.cv (.int .i64 0)] .mv]) .ret)))))))
theorem lxx42:linkF Tryz.prog ann42 42=some (xrc42,49,[.tmp 6,.tmp 7]):=by kernel_rfl
def x42_l1 (b:(Int×(List Int)×Int×Int)) (panels:(List (Int×Int))) (hours:Int) (p1:((Int×(List Int)×Int×Int)×(List (Int×Int))×(List Int)×(List Int))) (r2:Int) (kl1_0:Int→Option (Int×Int)):Nat→Int→Option (Int×Int)
 | 0,_=>none
 | m+1,s1 =>
   (x70 p1 s1).bind fun r3 =>
   if (decide ((w (hours-(w (b.2.2.2*r2))))<r3))=true then
    if (decide ((panels.length:Int)<s1))=true then
     kl1_0 s1
    else
     x42_l1 b panels hours p1 r2 kl1_0 m (w (s1+(1:Int)))
   else
    kl1_0 s1
def x42 (b:(Int×(List Int)×Int×Int)) (panels:(List (Int×Int))) (hours:Int):Option (Int×Int) :=
 (x69 b panels).bind fun r1 =>
 match r1 with
 | (none,q1) =>
   if (decide (q1≠(0:Int)))=true then
    some ((0:Int),q1)
   else
    if (decide (hours<(0:Int)))=true then
     some ((0:Int),(2:Int))
    else
     none
 | (some p1,q1) =>
   if (decide (q1≠(0:Int)))=true then
    some ((0:Int),q1)
   else
    if (decide (hours<(0:Int)))=true then
     some ((0:Int),(2:Int))
    else
     (x72 p1).bind fun r2 =>
     x42_l1 b panels hours p1 r2 (fun z1 =>
       (x70 p1 z1).bind fun r4 =>
       if (decide ((w (hours-(w (b.2.2.2*r2))))<r4))=true then
        some ((0:Int),(5:Int))
       else
        some (z1,(0:Int))) FU (1:Int)
theorem x42_l1_ok {b:(Int×(List Int)×Int×Int)} {panels:(List (Int×Int))} {hours:Int} {p1:((Int×(List Int)×Int×Int)×(List (Int×Int))×(List Int)×(List Int))} {r2:Int} {kl1_0:Int→Option (Int×Int)} {s1:Int} {v:(Int×Int)} {Q:Ex→List AV→List AObj→Prop} {o1:AObj}  (hkl1_0:∀ (z1:Int) (u0:AV) (u1:AV) (u2:AV) (u3:AV) (u6:AV) (u7:AV) (u9:AV) (u12:AV) (u13:AV) (u14:AV) (u15:AV) (u16:AV) (u17:AV) (u18:AV) (u19:AV) (u20:AV) (u21:AV) (u22:AV) (u23:AV) (u24:AV) (u25:AV) (u26:AV) (u27:AV) (u28:AV) (u29:AV) (u30:AV) (u31:AV) (u32:AV) (u33:AV) (u34:AV) (u35:AV) (u36:AV) (u37:AV) (u38:AV) (u39:AV) (u40:AV) (u41:AV) (u42:AV) (u43:AV) (u44:AV) (u45:AV) (u46:AV) (u47:AV) (u48:AV),kl1_0 z1=some v→Q (.exit 1) [u0,u1,u2,u3,J,J,u6,u7,(.lptr ((I p1.1.1)::(.lst (p1.1.2.1.map I) p1.1.2.1.length .shared)::(I p1.1.2.2.1)::(I p1.1.2.2.2)::(.lst (p1.2.1.flatMap pr) p1.2.1.length .shared)::(.lst (p1.2.2.1.map I) p1.2.2.1.length .shared)::(p1.2.2.2.map I))),u9,(I z1),(I (w (hours-(w (b.2.2.2*r2))))),u12,u13,u14,u15,u16,u17,u18,u19,u20,u21,u22,u23,u24,u25,u26,u27,u28,u29,u30,u31,u32,u33,u34,u35,u36,u37,u38,u39,u40,u41,u42,u43,u44,u45,u46,u47,u48] [o1]) {T:List AV} (hT:zipKeep [o_,i_,o_,o_,o_,o_,o_,o_,i_,o_,i_,i_,o_,o_,o_,o_,o_,o_,o_,o_,o_,o_,o_,o_,o_,o_,o_,o_,o_,o_,o_,o_,o_,o_,o_,o_,o_,o_,o_,o_,o_,o_,o_,o_,o_,o_,o_,o_,o_] T=slots 49 [(1,(.lst (panels.flatMap pr) panels.length .shared)),(8,(.lptr ((I p1.1.1)::(.lst (p1.1.2.1.map I) p1.1.2.1.length .shared)::(I p1.1.2.2.1)::(I p1.1.2.2.2)::(.lst (p1.2.1.flatMap pr) p1.2.1.length .shared)::(.lst (p1.2.2.1.map I) p1.2.2.1.length .shared)::(p1.2.2.2.map I)))),(10,(I s1)),(11,(I (w (hours-(w (b.2.2.2*r2))))))]) (h:x42_l1 b panels hours p1 r2 kl1_0 FU s1=some v) :
  wpR Tryz.prog ann42 42 0 none xrc42_1 T [o1] Q:=by
 unfold xrc42_1
 skip
 refine wp_loop hT ?_
 refine .intro (fun m T H=>∃ (s1:Int),T=slots 49 [(1,(.lst (panels.flatMap pr) panels.length .shared)),(8,(.lptr ((I p1.1.1)::(.lst (p1.1.2.1.map I) p1.1.2.1.length .shared)::(I p1.1.2.2.1)::(I p1.1.2.2.2)::(.lst (p1.2.1.flatMap pr) p1.2.1.length .shared)::(.lst (p1.2.2.1.map I) p1.2.2.1.length .shared)::(p1.2.2.2.map I)))),(10,(I s1)),(11,(I (w (hours-(w (b.2.2.2*r2))))))]∧H=[o1]∧x42_l1 b panels hours p1 r2 kl1_0 m s1=some v) FU ⟨s1,rfl,rfl,h⟩ ?_
 clear h hT
 rintro m T H ⟨s1,rfl,rfl,h⟩
 cases m
 ·exact none_ne h
 rename_i m
 rw [x42_l1.eq_2] at h
 conv=>whnf
 obtain ⟨r3,hb7,h⟩:=bd_some h
 refine ⟨(allc (pu_lptr (allc rfl (allc (pu_map (fun _=>rfl) _ _ _) (allc rfl (allc rfl (allc (pu_flat (fun _=>(allc rfl (allc rfl rfl))) _ _ _) (allc (pu_map (fun _=>rfl) _ _ _) (pu_run (fun _=>rfl) _)))))))) (allc rfl rfl)),_,x70_ok hb7,?_⟩
 conv=>whnf
 rcases bt (decide ((w (hours-(w (b.2.2.2*r2))))<r3)) with hb8 | hb8
 ·rw [hb8]
  conv=>whnf
  replace h:=it_t hb8 h
  rcases bt (decide ((panels.length:Int)<s1)) with hb9 | hb9
  ·rw [hb9]
   conv=>whnf
   replace h:=it_t hb9 h
   exact hkl1_0 _ _ _ _ _ _ _ _ _ _ _ _ _ _ _ _ _ _ _ _ _ _ _ _ _ _ _ _ _ _ _ _ _ _ _ _ _ _ _ _ _ _ _ _ _ h
  ·rw [hb9]
   conv=>whnf
   replace h:=it_f hb9 h
   exact ⟨m,Nat.lt_succ_self m,(w (s1+(1:Int))),rfl,rfl,h⟩
 ·rw [hb8]
  conv=>whnf
  replace h:=it_f hb8 h
  exact hkl1_0 _ _ _ _ _ _ _ _ _ _ _ _ _ _ _ _ _ _ _ _ _ _ _ _ _ _ _ _ _ _ _ _ _ _ _ _ _ _ _ _ _ _ _ _ _ h
theorem x42_ok {b:(Int×(List Int)×Int×Int)} {panels:(List (Int×Int))} {hours:Int} {v:(Int×Int)} (h:x42 b panels hours=some v):PO 42 [(.agg [(I b.1),(.lst (b.2.1.map I) b.2.1.length .shared),(I b.2.2.1),(I b.2.2.2)]),(.lst (panels.flatMap pr) panels.length .shared),(I hours)] (.tuple [(I v.1),(I v.2)]):=by
 refine fn_pureW hmix lxx42 rfl (pu_tup (allc rfl (allc rfl rfl))) fun Q hQ=>?_
 have hR:∀ T H,RetW [.tmp 6,.tmp 7] (.tuple [(I v.1),(I v.2)]) .ret T H→Q .ret T H:=fun T H hh=>hQ _ T H hh
 unfold x42 at h
 unfold xrc42
 obtain ⟨c_1,g_1⟩:∃ c,xrc42_1=c:=⟨_,rfl⟩
 rw [g_1]
 conv=>whnf
 obtain ⟨r1,hb1,h⟩:=bd_some h
 rcases r1 with ⟨_ | p1,q1⟩
 ·refine ⟨(allc (pu_agg (allc rfl (allc (pu_map (fun _=>rfl) _ _ _) (allc rfl (allc rfl rfl))))) (allc (pu_flat (fun _=>(allc rfl (allc rfl rfl))) _ _ _) rfl)),_,x69_ok hb1,?_⟩
  conv=>whnf
  rcases bt (decide (q1≠(0:Int))) with hb2 | hb2
  ·rw [hb2]
   conv=>whnf
   replace h:=it_t hb2 h
   obtain rfl:=Option.some.inj h
   exact hR _ _ ⟨.inr rfl,_,rfl,_,frz_pure (pu_tup (allc rfl (allc rfl rfl))),rfl⟩
  ·rw [hb2]
   conv=>whnf
   replace h:=it_f hb2 h
   rcases bt (decide (hours<(0:Int))) with hb3 | hb3
   ·rw [hb3]
    conv=>whnf
    replace h:=it_t hb3 h
    obtain rfl:=Option.some.inj h
    exact hR _ _ ⟨.inr rfl,_,rfl,_,frz_pure (pu_tup (allc rfl (allc rfl rfl))),rfl⟩
   ·rw [hb3]
    conv=>whnf
    replace h:=it_f hb3 h
    exact none_ne h
 ·refine ⟨(allc (pu_agg (allc rfl (allc (pu_map (fun _=>rfl) _ _ _) (allc rfl (allc rfl rfl))))) (allc (pu_flat (fun _=>(allc rfl (allc rfl rfl))) _ _ _) rfl)),_,x69_ok hb1,?_⟩
  conv=>whnf
  rcases bt (decide (q1≠(0:Int))) with hb4 | hb4
  ·rw [hb4]
   conv=>whnf
   replace h:=it_t hb4 h
   obtain rfl:=Option.some.inj h
   exact hR _ _ ⟨.inr rfl,_,rfl,_,frz_pure (pu_tup (allc rfl (allc rfl rfl))),rfl⟩
  ·rw [hb4]
   conv=>whnf
   replace h:=it_f hb4 h
   rcases bt (decide (hours<(0:Int))) with hb5 | hb5
   ·rw [hb5]
    conv=>whnf
    replace h:=it_t hb5 h
    obtain rfl:=Option.some.inj h
    exact hR _ _ ⟨.inr rfl,_,rfl,_,frz_pure (pu_tup (allc rfl (allc rfl rfl))),rfl⟩
   ·rw [hb5]
    conv=>whnf
    replace h:=it_f hb5 h
    obtain ⟨r2,hb6,h⟩:=bd_some h
    refine ⟨(allc (pu_lptr (allc rfl (allc (pu_map (fun _=>rfl) _ _ _) (allc rfl (allc rfl (allc (pu_flat (fun _=>(allc rfl (allc rfl rfl))) _ _ _) (allc (pu_map (fun _=>rfl) _ _ _) (pu_run (fun _=>rfl) _)))))))) rfl),_,x72_ok hb6,acc0,?_⟩
    conv=>whnf
    subst g_1
    refine x42_l1_ok ?_ (by exact rfl) h
    intro z1 u0 u1 u2 u3 u6 u7 u9 u12 u13 u14 u15 u16 u17 u18 u19 u20 u21 u22 u23 u24 u25 u26 u27 u28 u29 u30 u31 u32 u33 u34 u35 u36 u37 u38 u39 u40 u41 u42 u43 u44 u45 u46 u47 u48 h
    conv=>whnf
    obtain ⟨r4,hb10,h⟩:=bd_some h
    refine ⟨(allc (pu_lptr (allc rfl (allc (pu_map (fun _=>rfl) _ _ _) (allc rfl (allc rfl (allc (pu_flat (fun _=>(allc rfl (allc rfl rfl))) _ _ _) (allc (pu_map (fun _=>rfl) _ _ _) (pu_run (fun _=>rfl) _)))))))) (allc rfl rfl)),_,x70_ok hb10,?_⟩
    conv=>whnf
    rcases bt (decide ((w (hours-(w (b.2.2.2*r2))))<r4)) with hb11 | hb11
    ·rw [hb11]
     conv=>whnf
     replace h:=it_t hb11 h
     obtain rfl:=Option.some.inj h
     exact hR _ _ ⟨.inr rfl,_,rfl,_,frz_pure (pu_tup (allc rfl (allc rfl rfl))),rfl⟩
    ·rw [hb11]
     conv=>whnf
     replace h:=it_f hb11 h
     obtain rfl:=Option.some.inj h
     exact hR _ _ ⟨.inr rfl,_,rfl,_,frz_pure (pu_tup (allc rfl (allc rfl rfl))),rfl⟩

noncomputable def xrc12:RC :=
 .seq (.reg false [I_ 3 [.tk 0] .box,I_ 6 [.cv (.bool false)] .mv]) (.seq (.seq (.reg false [I_ 18 [.sl 3] (.ld (.str 4)),I_ 19 [.sl 1] .mv,I_ 20 [.cv (.func 45 [] []),.sl 18,.sl 19] (.call 3),I_ 21 [.tv 20] (.un .not),I_
 22 [.tk 21] .mv,⟨some 23,[.sl 1],some (22,false),none,.mv⟩,⟨some 24,[.tk 23],some (22,false),none,.lenS⟩,⟨some 25,[.tv 24,.cv (.int .i64 10)],some (22,false),none,.bin .gtr⟩,I_ 26 [.tv 22,.cv (.bool true),
 .tv 25] .pick]) (.cond (.sl 26) (.seq (.reg false [I_ 27 [.cv (.func 17 [] [])] (.call 3),I_ 6 [.tk 27] .mv]) .ret) .skip)) (.seq (.reg false [I_ 28 [.tk 2] .mv,I_ 29 [.tv 28,.cv (.int .u16 600)] (.bin .rem),I_ 30 [.tv 29]
 (.conv .i64),I_ 7 [.tk 30] .mv]) (.seq (.reg false [I_ 32 [.sl 3] (.ld (.str 4)),I_ 33 [.sl 1] .mv,I_ 34 [.sl 7] .mv,I_ 35 [.cv (.func 42 [] []),.sl 32,.sl 33,.sl 34] (.call 3),I_ 31 [.tk 35] .mv,I_ 36 [.sl 31] (.ext
 0),I_ 37 [.tv 31] (.ext 1),I_ 8 [.tk 36] .mv,I_ 9 [.tk 37] .mv]) (.seq (.seq (.reg false [I_ 38 [.sl 9] .mv,I_ 39 [.tv 38,.cv (.int .i64 0)] (.bin .neq)]) (.cond (.sl 39) (.seq (.reg false [I_ 41 [.sl 1] .mv,I_ 42 [.tk
 41] .lenS,I_ 43 [.cv (.int .i64 1),.tk 42] .max,I_ 44 [.sl 3] (.fa 2),I_ 45 [.tv 44] (.ld .one),I_ 46 [.sl 3] (.fa 3),I_ 47 [.tv 46] (.ld .one),I_ 48 [.cv (.func 49 [] []),.sl 43,.sl 45,.sl 47,.cv (.lst [] 0 .full)]
 (.call 3),I_ 49 [.tk 1] .mv,I_ 50 [.cv (.func 46 [] []),.sl 48,.sl 49] (.call 3),I_ 40 [.tk 50] .mv,I_ 51 [.sl 40] (.ext 0),I_ 52 [.sl 40] (.ext 1),I_ 53 [.sl 40] (.ext 2),I_ 54 [.tv 40] (.ext 3),I_ 10 [.tk 51] .mv,
 I_ 11 [.tk 52] .mv,I_ 12 [.tk 53] .mv,I_ 13 [.tk 54] .mv]) (.seq (.reg false [I_ 55 [.tk 9] .mv,I_ 56 [.tv 55,.cv (.int .i64 5)] (.bin .eql),I_ 57 [.tk 56] .mv,⟨some 58,[.tk 13],some (57,true),none,.mv⟩,I_ 59 [.tv
 57,.tv 58,.cv (.bool false)] .pick,I_ 60 [.tk 59] .mv,⟨some 61,[.tk 10],some (60,true),none,.mv⟩,⟨some 62,[.tv 3],some (60,true),none,.fa 3⟩,⟨some 63,[.tv 62],some (60,true),none,.ld .one⟩,⟨some 64,[.tk
 11],some (60,true),none,.mv⟩,⟨some 65,[.tv 63,.tv 64],some (60,true),none,.bin .mul⟩,⟨some 66,[.tv 61,.tv 65],some (60,true),none,.bin .add⟩,⟨some 67,[.tk 7],some (60,true),none,.mv⟩,⟨some 68,[.tv 66,
 .tv 67],some (60,true),none,.bin .gtr⟩,I_ 69 [.tv 60,.tv 68,.cv (.bool false)] .pick,I_ 70 [.tk 69] .mv,⟨some 71,[.cv (.func 17 [] [])],some (70,true),none,.call 3⟩,I_ 72 [.tv 70,.tv 71,.cv (.bool false)]
 .pick,I_ 6 [.tk 72] .mv]) .ret)) .skip)) (.seq (.seq (.reg false [I_ 73 [.sl 8] .mv,I_ 74 [.tv 73,.cv (.int .i64 1)] (.bin .lss),I_ 75 [.tk 74] .mv,⟨some 76,[.sl 8],some (75,false),none,.mv⟩,⟨some 77,[.sl 1],some
 (75,false),none,.mv⟩,⟨some 78,[.tk 77],some (75,false),none,.lenS⟩,⟨some 79,[.cv (.int .i64 1),.tk 78],some (75,false),none,.max⟩,⟨some 80,[.tv 76,.tv 79],some (75,false),none,.bin .gtr⟩,I_ 81 [.tv 75,
 .cv (.bool true),.tv 80] .pick]) (.cond (.sl 81) (.seq (.reg false [I_ 6 [.cv (.bool false)] .mv]) .ret) .skip)) (.seq (.reg false [I_ 83 [.sl 8] .mv,I_ 84 [.sl 3] (.fa 2),I_ 85 [.tv 84] (.ld .one),I_ 86 [.sl 3] (.fa 3),I_
 87 [.tv 86] (.ld .one),I_ 88 [.cv (.func 49 [] []),.sl 83,.sl 85,.sl 87,.cv (.lst [] 0 .full)] (.call 3),I_ 89 [.sl 1] .mv,I_ 90 [.cv (.func 46 [] []),.sl 88,.sl 89] (.call 3),I_ 82 [.tk 90] .mv,I_ 91 [.sl 82] (.ext
 0),I_ 92 [.sl 82] (.ext 1),I_ 93 [.sl 82] (.ext 2),I_ 94 [.tv 82] (.ext 3),I_ 14 [.tk 91] .mv,I_ 15 [.tk 92] .mv,I_ 16 [.tk 93] .mv,I_ 17 [.tk 94] .mv]) (.seq (.seq (.reg false [I_ 95 [.tk 17] .mv,I_ 96 [.tv 95] (.un
 .not),I_ 97 [.tk 96] .mv,⟨some 98,[.tk 14],some (97,false),none,.mv⟩,⟨some 99,[.sl 3],some (97,false),none,.fa 3⟩,⟨some 100,[.tv 99],some (97,false),none,.ld .one⟩,⟨some 101,[.tk 15],some (97,false),
 none,.mv⟩,⟨some 102,[.tv 100,.tv 101],some (97,false),none,.bin .mul⟩,⟨some 103,[.tv 98,.tv 102],some (97,false),none,.bin .add⟩,⟨some 104,[.sl 7],some (97,false),none,.mv⟩,⟨some 105,[.tv 103,.tv 104],
 some (97,false),none,.bin .gtr⟩,I_ 106 [.tv 97,.cv (.bool true),.tv 105] .pick]) (.cond (.sl 106) (.seq (.reg false [I_ 6 [.cv (.bool false)] .mv]) .ret) .skip)) (.seq (.seq (.reg false [I_ 107 [.sl 8] .mv,I_ 108 [.tv
 107,.cv (.int .i64 1)] (.bin .eql)]) (.cond (.sl 108) (.seq (.reg false [I_ 109 [.cv (.func 17 [] [])] (.call 3),I_ 6 [.tk 109] .mv]) .ret) .skip)) (.seq (.reg false [I_ 111 [.tk 8] .mv,I_ 112 [.tv 111,.cv (.int .i64 1)]
 (.bin .sub),I_ 113 [.sl 3] (.fa 2),I_ 114 [.tv 113] (.ld .one),I_ 115 [.sl 3] (.fa 3),I_ 116 [.tv 115] (.ld .one),I_ 117 [.cv (.func 49 [] []),.sl 112,.sl 114,.sl 116,.cv (.lst [] 0 .full)] (.call 3),I_ 118 [.tk 1]
 .mv,I_ 119 [.cv (.func 46 [] []),.sl 117,.sl 118] (.call 3),I_ 110 [.tk 119] .mv,I_ 120 [.sl 110] (.ext 0),I_ 121 [.sl 110] (.ext 1),I_ 122 [.sl 110] (.ext 2),I_ 123 [.tv 110] (.ext 3),I_ 14 [.tk 120] .mv,I_ 15 [.tk
 121] .mv,I_ 17 [.tk 123] .mv]) (.seq (.reg false [I_ 124 [.tk 17] .mv,I_ 125 [.tk 124] .mv,⟨some 126,[.tk 14],some (125,true),none,.mv⟩,⟨some 127,[.tv 3],some (125,true),none,.fa 3⟩,⟨some 128,[.tv 127],some
 (125,true),none,.ld .one⟩,⟨some 129,[.tk 15],some (125,true),none,.mv⟩,⟨some 130,[.tv 128,.tv 129],some (125,true),none,.bin .mul⟩,⟨some 131,[.tv 126,.tv 130],some (125,true),none,.bin .add⟩,⟨some 132,
 [.tk 7],some (125,true),none,.mv⟩,⟨some 133,[.tv 131,.tv 132],some (125,true),none,.bin .gtr⟩,I_ 134 [.tv 125,.tv 133,.cv (.bool false)] .pick,I_ 135 [.tk 134] .mv,⟨some 136,[.cv (.func 17 [] [])],some (135,
 true),none,.call 3⟩,I_ 137 [.tv 135,.tv 136,.cv (.bool false)] .pick,I_ 6 [.tk 137] .mv]) .ret))))))))))
theorem lxx12:linkF Tryz.prog ann12 12=some (xrc12,138,[.tmp 6]):=by kernel_rfl
def x12 (b:(Int×(List Int)×Int×Int)) (panels:(List (Int×Int))) (number:Int):Option Bool :=
 (x45 b panels).bind fun r1 =>
 if r1=true then
  if (decide ((10:Int)<(panels.length:Int)))=true then
   (x17).bind fun r2 =>
   some r2
  else
   gd ((600:Int)≠0) <|
   (x42 b panels (w (number.tmod (600:Int)))).bind fun r3 =>
   if (decide (r3.2≠(0:Int)))=true then
    (x49 (max (1:Int) (panels.length:Int)) b.2.2.1 b.2.2.2 []).bind fun r4 =>
    (x46 r4 panels).bind fun r5 =>
    if (decide (r3.2=(5:Int)))=true then
     if r5.2.2.2=true then
      if (decide ((w (number.tmod (600:Int)))<(w (r5.1+(w (b.2.2.2*r5.2.1))))))=true then
       (x17).bind fun r6 =>
       some r6
      else
       some false
     else
      some false
    else
     some false
   else
    if (decide (r3.1<(1:Int)))=true then
     some false
    else
     if (decide ((max (1:Int) (panels.length:Int))<r3.1))=true then
      some false
     else
      (x49 r3.1 b.2.2.1 b.2.2.2 []).bind fun r7 =>
      (x46 r7 panels).bind fun r8 =>
      if r8.2.2.2=true then
       if (decide ((w (number.tmod (600:Int)))<(w (r8.1+(w (b.2.2.2*r8.2.1))))))=true then
        some false
       else
        if (decide (r3.1=(1:Int)))=true then
         (x17).bind fun r9 =>
         some r9
        else
         (x49 (w (r3.1-(1:Int))) b.2.2.1 b.2.2.2 []).bind fun r10 =>
         (x46 r10 panels).bind fun r11 =>
         if r11.2.2.2=true then
          if (decide ((w (number.tmod (600:Int)))<(w (r11.1+(w (b.2.2.2*r11.2.1))))))=true then
           (x17).bind fun r12 =>
           some r12
          else
           some false
         else
          some false
      else
       some false
 else
  (x17).bind fun r13 =>
  some r13
theorem x12_ok {b:(Int×(List Int)×Int×Int)} {panels:(List (Int×Int))} {number:Int} {v:Bool} (h:x12 b panels number=some v):PO 12 [(.agg [(I b.1),(.lst (b.2.1.map I) b.2.1.length .shared),(I b.2.2.1),(I b.2.2.2)]),(.lst (panels.flatMap pr) panels.length .shared),(U16 number)] (B v):=by
 refine fn_pureW hmix lxx12 rfl rfl fun Q hQ=>?_
 have hR:∀ T H,RetW [.tmp 6] (B v) .ret T H→Q .ret T H:=fun T H hh=>hQ _ T H hh
 unfold x12 at h
 unfold xrc12
 skip
 conv=>whnf
 obtain ⟨r1,hb1,h⟩:=bd_some h
 refine ⟨(allc (pu_agg (allc rfl (allc (pu_map (fun _=>rfl) _ _ _) (allc rfl (allc rfl rfl))))) (allc (pu_flat (fun _=>(allc rfl (allc rfl rfl))) _ _ _) rfl)),_,x45_ok hb1,?_⟩
 conv=>whnf
 cases r1
 ·conv=>whnf
  replace h:=it_f rfl h
  obtain ⟨r13,hb26,h⟩:=bd_some h
  refine ⟨rfl,_,x17_ok hb26,?_⟩
  conv=>whnf
  obtain rfl:=Option.some.inj h
  exact hR _ _ ⟨.inr rfl,_,rfl,_,frz_pure rfl,rfl⟩
 ·conv=>whnf
  replace h:=it_t rfl h
  rcases bt (decide ((10:Int)<(panels.length:Int))) with hb2 | hb2
  ·rw [hb2]
   conv=>whnf
   replace h:=it_t hb2 h
   obtain ⟨r2,hb3,h⟩:=bd_some h
   refine ⟨rfl,_,x17_ok hb3,?_⟩
   conv=>whnf
   obtain rfl:=Option.some.inj h
   exact hR _ _ ⟨.inr rfl,_,rfl,_,frz_pure rfl,rfl⟩
  ·rw [hb2]
   conv=>whnf
   replace h:=it_f hb2 h
   obtain ⟨hb4,h⟩:=gd_some h
   refine ⟨hb4,?_⟩
   conv=>whnf
   obtain ⟨r3,hb5,h⟩:=bd_some h
   refine ⟨(allc (pu_agg (allc rfl (allc (pu_map (fun _=>rfl) _ _ _) (allc rfl (allc rfl rfl))))) (allc (pu_flat (fun _=>(allc rfl (allc rfl rfl))) _ _ _) (allc rfl rfl))),_,x42_ok hb5,?_⟩
   conv=>whnf
   rcases bt (decide (r3.2≠(0:Int))) with hb6 | hb6
   ·rw [hb6]
    conv=>whnf
    replace h:=it_t hb6 h
    obtain ⟨r4,hb7,h⟩:=bd_some h
    refine ⟨(allc rfl (allc rfl (allc rfl (allc rfl rfl)))),_,x49_ok hb7,?_⟩
    conv=>whnf
    obtain ⟨r5,hb8,h⟩:=bd_some h
    refine ⟨(allc (pu_agg (allc rfl (allc (pu_map (fun _=>rfl) _ _ _) (allc rfl (allc rfl rfl))))) (allc (pu_flat (fun _=>(allc rfl (allc rfl rfl))) _ _ _) rfl)),_,x46_ok hb8,?_⟩
    conv=>whnf
    rcases bt (decide (r3.2=(5:Int))) with hb9 | hb9
    ·rw [hb9]
     conv=>whnf
     replace h:=it_t hb9 h
     rcases bt r5.2.2.2 with hb10 | hb10
     ·rw [hb10]
      conv=>whnf
      replace h:=it_t hb10 h
      rcases bt (decide ((w (number.tmod (600:Int)))<(w (r5.1+(w (b.2.2.2*r5.2.1)))))) with hb11 | hb11
      ·rw [hb11]
       conv=>whnf
       replace h:=it_t hb11 h
       obtain ⟨r6,hb12,h⟩:=bd_some h
       refine ⟨rfl,_,x17_ok hb12,?_⟩
       conv=>whnf
       obtain rfl:=Option.some.inj h
       exact hR _ _ ⟨.inr rfl,_,rfl,_,frz_pure rfl,rfl⟩
      ·rw [hb11]
       conv=>whnf
       replace h:=it_f hb11 h
       obtain rfl:=Option.some.inj h
       exact hR _ _ ⟨.inr rfl,_,rfl,_,frz_pure rfl,rfl⟩
     ·rw [hb10]
      conv=>whnf
      replace h:=it_f hb10 h
      obtain rfl:=Option.some.inj h
      exact hR _ _ ⟨.inr rfl,_,rfl,_,frz_pure rfl,rfl⟩
    ·rw [hb9]
     conv=>whnf
     replace h:=it_f hb9 h
     obtain rfl:=Option.some.inj h
     exact hR _ _ ⟨.inr rfl,_,rfl,_,frz_pure rfl,rfl⟩
   ·rw [hb6]
    conv=>whnf
    replace h:=it_f hb6 h
    rcases bt (decide (r3.1<(1:Int))) with hb13 | hb13
    ·rw [hb13]
     conv=>whnf
     replace h:=it_t hb13 h
     obtain rfl:=Option.some.inj h
     exact hR _ _ ⟨.inr rfl,_,rfl,_,frz_pure rfl,rfl⟩
    ·rw [hb13]
     conv=>whnf
     replace h:=it_f hb13 h
     rcases bt (decide ((max (1:Int) (panels.length:Int))<r3.1)) with hb14 | hb14
     ·rw [hb14]
      conv=>whnf
      replace h:=it_t hb14 h
      obtain rfl:=Option.some.inj h
      exact hR _ _ ⟨.inr rfl,_,rfl,_,frz_pure rfl,rfl⟩
     ·rw [hb14]
      conv=>whnf
      replace h:=it_f hb14 h
      obtain ⟨r7,hb15,h⟩:=bd_some h
      refine ⟨(allc rfl (allc rfl (allc rfl (allc rfl rfl)))),_,x49_ok hb15,?_⟩
      conv=>whnf
      obtain ⟨r8,hb16,h⟩:=bd_some h
      refine ⟨(allc (pu_agg (allc rfl (allc (pu_map (fun _=>rfl) _ _ _) (allc rfl (allc rfl rfl))))) (allc (pu_flat (fun _=>(allc rfl (allc rfl rfl))) _ _ _) rfl)),_,x46_ok hb16,?_⟩
      conv=>whnf
      rcases bt r8.2.2.2 with hb17 | hb17
      ·rw [hb17]
       conv=>whnf
       replace h:=it_t hb17 h
       rcases bt (decide ((w (number.tmod (600:Int)))<(w (r8.1+(w (b.2.2.2*r8.2.1)))))) with hb18 | hb18
       ·rw [hb18]
        conv=>whnf
        replace h:=it_t hb18 h
        obtain rfl:=Option.some.inj h
        exact hR _ _ ⟨.inr rfl,_,rfl,_,frz_pure rfl,rfl⟩
       ·rw [hb18]
        conv=>whnf
        replace h:=it_f hb18 h
        rcases bt (decide (r3.1=(1:Int))) with hb19 | hb19
        ·rw [hb19]
         conv=>whnf
         replace h:=it_t hb19 h
         obtain ⟨r9,hb20,h⟩:=bd_some h
         refine ⟨rfl,_,x17_ok hb20,?_⟩
         conv=>whnf
         obtain rfl:=Option.some.inj h
         exact hR _ _ ⟨.inr rfl,_,rfl,_,frz_pure rfl,rfl⟩
        ·rw [hb19]
         conv=>whnf
         replace h:=it_f hb19 h
         obtain ⟨r10,hb21,h⟩:=bd_some h
         refine ⟨(allc rfl (allc rfl (allc rfl (allc rfl rfl)))),_,x49_ok hb21,?_⟩
         conv=>whnf
         obtain ⟨r11,hb22,h⟩:=bd_some h
         refine ⟨(allc (pu_agg (allc rfl (allc (pu_map (fun _=>rfl) _ _ _) (allc rfl (allc rfl rfl))))) (allc (pu_flat (fun _=>(allc rfl (allc rfl rfl))) _ _ _) rfl)),_,x46_ok hb22,?_⟩
         conv=>whnf
         rcases bt r11.2.2.2 with hb23 | hb23
         ·rw [hb23]
          conv=>whnf
          replace h:=it_t hb23 h
          rcases bt (decide ((w (number.tmod (600:Int)))<(w (r11.1+(w (b.2.2.2*r11.2.1)))))) with hb24 | hb24
          ·rw [hb24]
           conv=>whnf
           replace h:=it_t hb24 h
           obtain ⟨r12,hb25,h⟩:=bd_some h
           refine ⟨rfl,_,x17_ok hb25,?_⟩
           conv=>whnf
           obtain rfl:=Option.some.inj h
           exact hR _ _ ⟨.inr rfl,_,rfl,_,frz_pure rfl,rfl⟩
          ·rw [hb24]
           conv=>whnf
           replace h:=it_f hb24 h
           obtain rfl:=Option.some.inj h
           exact hR _ _ ⟨.inr rfl,_,rfl,_,frz_pure rfl,rfl⟩
         ·rw [hb23]
          conv=>whnf
          replace h:=it_f hb23 h
          obtain rfl:=Option.some.inj h
          exact hR _ _ ⟨.inr rfl,_,rfl,_,frz_pure rfl,rfl⟩
      ·rw [hb17]
       conv=>whnf
       replace h:=it_f hb17 h
       obtain rfl:=Option.some.inj h
       exact hR _ _ ⟨.inr rfl,_,rfl,_,frz_pure rfl,rfl⟩

end Go.Proofs.YtbnbjjgagikobaaGreat.Ab


namespace Go.Proofs.YtbnbjjgagikobaaGreat.Ab
open Go
set_option maxRecDepth 20000
set_option maxHeartbeats 4000000
abbrev hts (ps:List (Int×Int)):List Int:=ps.map (·.1)
def Nd (b:Bed) (ps:List (Int×Int)) (T:Int) (r:Int×Int):Prop :=
 (∃ z:Nat,r=((z:Int),0)∧1≤z∧z≤max 1 ps.length∧hSum z ps 21+b.2.2.2*wayM b.2.2.1 (hts ps)≤T∧∀ j:Nat,1≤j→j<z→T<hSum j ps 21+b.2.2.2*wayM b.2.2.1 (hts ps)) ∨
 (r=(0,5)∧∀ j:Nat,1≤j→j≤max 1 ps.length→T<hSum j ps 21+b.2.2.2*wayM b.2.2.1 (hts ps))
theorem Nd.uniq {b:Bed} {ps:List (Int×Int)} {T:Int} {r r':Int×Int} (h:Nd b ps T r) (h':Nd b ps T r'):r=r':=by
 rcases h with ⟨z,rfl,h1,h2,h3,h4⟩ | ⟨rfl,h4⟩ <;> rcases h' with ⟨z',rfl,g1,g2,g3,g4⟩ | ⟨rfl,g4⟩
 ·have:z=z':=by
   rcases Nat.lt_trichotomy z z' with h | h | h
   ·have:=g4 z h1 h;omega
   ·exact h
   ·have:=h4 z' g1 h;omega
  rw [this]
 ·have:=g4 z h1 h2;omega
 ·have:=h4 z' g1 g2;omega
 ·rfl
theorem cway_in {b:Bed} (hB:BedOk b) {ps:List (Int×Int)} (hp:PsOk ps):0≤b.2.2.2*wayM b.2.2.1 (hts ps)∧b.2.2.2*wayM b.2.2.1 (hts ps)≤400:=by
 have h1:0≤wayM b.2.2.1 (hts ps)∧wayM b.2.2.1 (hts ps)≤40:=wayM_in hp.heat hB.h0
 have h2:=hB.c0
 refine ⟨Int.mul_nonneg h2.1 h1.1,?_⟩
 have:=Int.mul_le_mul h2.2 h1.2 h1.1 (by omega)
 omega
theorem hSum_big {n n':Nat} {ps:List (Int×Int)} (h:ps.length≤n) (h':ps.length≤n') (h0:0<n) (h0':0<n'):∀ i,hSum n ps i=hSum n' ps i
 | 0=>rfl
 | i+1=>by
   have hl:(hrs ps (i:Int)).length≤ps.length:=by unfold hrs;rw [List.length_map];exact List.length_filter_le _ _
   rw [hSum_succ,hSum_succ,hSum_big h h' h0 h0' i,hH_many h0 (by omega),hH_many h0' (by omega)]
theorem x42_l1_eq {b:Bed} {ps:List (Int×Int)} {hours:Int} {p1:Bench} (hp1:p1.2.1=ps) (hp:PsOk ps) {wy:Int} (hT:0≤hours∧hours≤9223372036854775807) (hc:0≤b.2.2.2*wy∧b.2.2.2*wy≤400) {k:Int→Option (Int×Int)}:∀ (m i:Nat) (z:Int),z=i→1≤i→i≤ps.length+1→ps.length+1-i<m→(∀ j:Nat,1≤j→j<i→hours<hSum j ps 21+b.2.2.2*wy)→∃ q:Nat,x42_l1 b ps hours p1 wy k m z=k (q:Int)∧1≤q∧q≤ps.length+1∧(∀ j:Nat,1≤j→j<q→hours<hSum j ps 21+b.2.2.2*wy)∧(hSum q ps 21+b.2.2.2*wy≤hours∨q=ps.length+1)
 | 0,i,_,_,_,_,h,_=>absurd h (by omega)
 | m+1,i,_,rfl,h1,hi,hm,hj=>by
   have hpl:=hp.len
   have hs:=hSum_in (n:=i) (by omega) hp 21
   rw [x42_l1,x70_eq (x:=p1) (N:=i) ⟨h1,by omega⟩ (by rw [hp1];exact hp),hp1,Option.bind_some,w_id (n:=b.2.2.2*wy) (by omega),w_id (n:=hours-_) (by omega)]
   by_cases hlt:hours-b.2.2.2*wy<hSum i ps 21
   ·rw [if_pos (decide_eq_true hlt)]
    by_cases hle:ps.length<i
    ·rw [if_pos (decide_eq_true (by omega))]
     exact ⟨i,rfl,h1,hi,hj,.inr (by omega)⟩
    ·rw [if_neg (by rw [decide_eq_true_eq];omega),w_succ i (by omega)]
     refine x42_l1_eq hp1 hp hT hc m (i+1) _ rfl (by omega) (by omega) (by omega) fun j hj1 hj2=>?_
     by_cases e:j=i
     ·subst e;omega
     ·exact hj j hj1 (by omega)
   ·rw [if_neg (by simpa using hlt)]
    exact ⟨i,rfl,h1,hi,hj,.inl (by omega)⟩
theorem x42_nd {b:Bed} {ps:List (Int×Int)} (hf:FineOk b ps) {T:Int} (hT:0≤T∧T≤9223372036854775807):∃ r,x42 b ps T=some r∧Nd b ps T r:=by
 obtain ⟨hl,hb,hp⟩:=hf
 have hB:=bedOk hb
 have hpl:=hp.len
 have hc:=cway_in hB hp
 obtain ⟨q,e,q1,q2,q3,q4⟩:=x42_l1_eq (b:=b) (ps:=ps) (p1:=(b,ps,wholeL b.1.toNat b.2.1,wantL ps)) rfl hp (wy:=wayM b.2.2.1 (hts ps)) hT hc (k:=fun z1 =>
      (x70 (b,ps,wholeL b.1.toNat b.2.1,wantL ps) z1).bind fun r4 =>
      if (decide ((w (T-(w (b.2.2.2*wayM b.2.2.1 (hts ps)))))<r4))=true then
       some ((0:Int),(5:Int))
      else
       some (z1,(0:Int))) FU 1 1 rfl (Nat.le_refl _) (by omega) (FU_lt (by omega)) (fun j h1 h2=>by omega)
 have hs:=hSum_in (n:=q) (by omega) hp 21
 have e0:x42 b ps T=x42_l1 b ps T (b,ps,wholeL b.1.toNat b.2.1,wantL ps) (wayM b.2.2.1 (hts ps)) (fun z1 =>
         (x70 (b,ps,wholeL b.1.toNat b.2.1,wantL ps) z1).bind fun r4 =>
         if (decide ((w (T-(w (b.2.2.2*wayM b.2.2.1 (hts ps)))))<r4))=true then
          some ((0:Int),(5:Int))
         else
          some (z1,(0:Int))) FU 1:=by
  rw [x42,x69_eq hb hl hp,Option.bind_some]
  show (if (decide ((0:Int)≠(0:Int)))=true then _ else _)=_
  rw [if_neg (by decide),if_neg (by rw [decide_eq_true_eq];omega),x72_eq hB.h0 hp.heat,Option.bind_some]
 rw [e0,e,x70_eq (x:=(b,ps,wholeL b.1.toNat b.2.1,wantL ps)) (N:=q) ⟨q1,by omega⟩ hp,Option.bind_some,w_id (n:=b.2.2.2*_) (by omega),w_id (n:=T-_) (by omega)]
 show ∃ r,(if (decide (T-b.2.2.2*wayM b.2.2.1 (hts ps)<hSum q ps 21))=true then some ((0:Int),(5:Int)) else some ((q:Int),0))=some r∧_
 by_cases hlt:T-b.2.2.2*wayM b.2.2.1 (hts ps)<hSum q ps 21
 ·rw [if_pos (decide_eq_true hlt)]
  refine ⟨_,rfl,.inr ⟨rfl,fun j h1 h2=>?_⟩⟩
  by_cases hj:j<q
  ·exact q3 j h1 hj
  ·rcases q4 with q4 | q4
   ·omega
   ·have:j=q:=by omega
    subst this;omega
 ·rw [if_neg (by simpa using hlt)]
  refine ⟨_,rfl,.inl ⟨q,rfl,q1,?_,by omega,q3⟩⟩
  rcases Nat.lt_or_ge (max 1 ps.length) q with h | h
  ·exfalso
   have h2:=q3 (q-1) (by omega) (by omega)
   rw [hSum_big (n:=q-1) (n':=q) (by omega) (by omega) (by omega) (by omega)] at h2
   omega
  ·exact h
theorem fine_of {b:Bed} (hB:BedOk b) {ps:List (Int×Int)} (hp:PsOk ps) {z:Nat} (hz:1≤z∧z≤10):FineOk ((z:Int),[],b.2.2.1,b.2.2.2) ps:=⟨by simp,bErr_of (by omega) hB.h0 hB.c0,hp⟩
theorem x46_of {b:Bed} (hB:BedOk b) {ps:List (Int×Int)} (hp:PsOk ps) {z:Nat} (hz:1≤z∧z≤10):x46 ((z:Int),[],b.2.2.1,b.2.2.2) ps=some (hSum z ps 21,wayM b.2.2.1 (hts ps),bestT ((z:Int),[],b.2.2.1,b.2.2.2) ps,true):=by
 rw [x46_eq (fine_of hB hp hz),wn_of]
theorem x12_eq (b:Bed) (ps:List (Int×Int)) {number:Int} (hn:0≤number∧number≤65535):x12 b ps number=some true:=by
 rw [x12]
 obtain ⟨r,hr,hf⟩:=x45_eq b ps
 rw [hr,Option.bind_some]
 cases r with
 | false=>rw [if_neg (by decide)];rfl
 | true =>
   have hF:=hf rfl
   obtain ⟨hl,hb,hp⟩:=hf rfl
   have hB:=bedOk hb
   have hpl:=hp.len
   have hc:=cway_in hB hp
   rw [if_pos rfl]
   by_cases h10:10<ps.length
   ·rw [if_pos (decide_eq_true (by omega))];rfl
   rw [if_neg (by rw [decide_eq_true_eq];omega),gd_pos (by decide)]
   obtain ⟨T,hT⟩:∃ T,T=w (number.tmod 600):=⟨_,rfl⟩
   have hT2:0≤T∧T≤599:=by
    have:number.tmod 600=number % 600:=Int.tmod_eq_emod_of_nonneg hn.1
    rw [hT,this,w_id (by omega)];omega
   rw [←hT]
   obtain ⟨rr,e,n⟩:=x42_nd hF (T:=T) ⟨by omega,by omega⟩
   rw [e,Option.bind_some]
   have hmx:∃ M:Nat,M=max 1 ps.length∧1≤M∧M≤10∧max (1:Int) (ps.length:Int)=(M:Int):=⟨max 1 ps.length,rfl,by omega,by omega,by omega⟩
   obtain ⟨M,hM,hM1,hM10,hMi⟩:=hmx
   rw [hMi]
   rcases n with ⟨z,rfl,z1,z2,z3,z4⟩ | ⟨rfl,z4⟩
   ·have hz10:z≤10:=by omega
    have hs:=hSum_in (n:=z) (by omega) hp 21
    rw [if_neg (by simp),if_neg (by simp only [decide_eq_true_eq];omega),if_neg (by simp only [decide_eq_true_eq];omega)]
    show (x49 (z:Int) b.2.2.1 b.2.2.2 []).bind _=_
    rw [x49,Option.bind_some,x46_of hB hp ⟨z1,hz10⟩,Option.bind_some,if_pos rfl]
    dsimp only
    rw [w_id (n:=b.2.2.2*_) (by omega),w_id (n:=hSum z ps 21+_) (by omega),if_neg (by simp only [decide_eq_true_eq];omega)]
    by_cases h1:z=1
    ·rw [if_pos (decide_eq_true (by omega))];rfl
    ·have e1:w ((z:Int)-1)=((z-1:Nat):Int):=by rw [w_id (by omega)];omega
     have hs1:=hSum_in (n:=z-1) (by omega) hp 21
     have z5:=z4 (z-1) (by omega) (by omega)
     rw [if_neg (by rw [decide_eq_true_eq];omega),e1,x49,Option.bind_some,x46_of hB hp ⟨by omega,by omega⟩,Option.bind_some,if_pos rfl]
     dsimp only
     rw [w_id (n:=b.2.2.2*_) (by omega),w_id (n:=hSum (z-1) ps 21+_) (by omega),if_pos (decide_eq_true z5)];rfl
   ·have hs:=hSum_in (n:=M) (by omega) hp 21
    have z5:=z4 M hM1 (by omega)
    rw [if_pos (by simp),x49,Option.bind_some,x46_of hB hp ⟨hM1,hM10⟩,Option.bind_some,if_pos (by simp),if_pos rfl]
    dsimp only
    rw [w_id (n:=b.2.2.2*_) (by omega),w_id (n:=hSum M ps 21+_) (by omega),if_pos (decide_eq_true z5)];rfl
theorem pressNeeded_ok (b:Bed) (ps:List (Int×Int)) (number:Int) {P1 P2:Prop} (_:P1) (_:P2) (hn:0≤number∧number≤65535) :
  PO 12 [.agg [I b.1,L1 b.2.1,I b.2.2.1,I b.2.2.2],PL ps,.int .u16 number] (B true):=x12_ok (x12_eq b ps hn)
end Go.Proofs.YtbnbjjgagikobaaGreat.Ab
