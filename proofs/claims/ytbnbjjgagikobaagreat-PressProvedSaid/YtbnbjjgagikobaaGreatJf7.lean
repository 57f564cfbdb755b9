
import Derived.Test.YtbnbjjgagikobaaGreatJf5
import Derived.Test.YtbnbjjgagikobaaGreatJf4
import Derived.KernelRfl
import Derived.Test.YtbnbjjgagikobaaGreatJf6
set_option linter.unusedSimpArgs false
set_option linter.unusedVariables false
set_option linter.unusedSectionVars false

namespace Go.Proofs.YtbnbjjgagikobaaGreat.Ab
open Go
set_option maxRecDepth 20000
set_option maxHeartbeats 4000000
theorem s103_ok (l:List Int) (hl:l.length≤1000):Seq Tryz.prog 103 [.lptr [.lst (l.map I) l.length .shared]] (l.map I):=by
 intro L N Pre hlen hL hr Y
 obtain ⟨Z,hZ0,hZ⟩:=seq_states hr Y
 have hE:(l.map I).length=l.length:=by simp
 have hZ':∀ j (h:j<l.length),Sem Tryz.prog (.yield L) [I l[j]] (Pre j++Z j) 0 (.bool true) (Pre (j+1)++Z (j+1)):=fun j hj=>by
  have:=hZ j (by rw [hE];exact hj)
  rw [List.getElem_map] at this
  exact this
 refine ⟨Z l.length,?_⟩
 rw [hE]
 refine fn_semQ hmix lk103 rfl (low0 ?_) fun Q hQ=>?_
 ·have key:∀ j,j≤l.length→(Pre 0++Y).length≤(Pre j++Z j).length:=fun j=>by
   induction j with
   | zero=>intro _;rw [hZ0];exact Nat.le_refl _
   | succ j ih=>intro hj;exact Nat.le_trans (ih (by omega)) (hZ' j (by omega)).1.1
  exact key l.length (Nat.le_refl _)
 unfold rc103
 conv=>whnf
 refine .intro (fun m T H=>∃ j:Nat,j≤l.length∧m=l.length-j∧T=slots 16 [(0,.yield L),(5,.lst (l.map I) l.length .shared),(6,I (l.length:Int)),(7,I (j:Int))]∧H=Pre j++Z j) l.length ⟨0,Nat.zero_le _,rfl,rfl,by rw [hZ0]⟩ ?_
 rintro m T H ⟨j,hj,rfl,rfl,rfl⟩
 conv=>whnf
 refine dcase (fun hc'=>?_) (fun hc'=>?_)
 ·have hlt:j<l.length:=by omega
  have hb:0≤(j:Int)∧(j:Int)<(l.length:Int):=by omega
  conv=>whnf
  refine ⟨hb,?_⟩
  rw [drop1 I l (j:Int) hb]
  conv=>whnf
  rw [ix_nat hlt]
  refine ⟨_,_,call1 (hZ' j hlt),?_⟩
  conv=>whnf
  refine ⟨l.length-(j+1),by omega,j+1,by omega,rfl,?_,rfl⟩
  rw [show ((j+1:Nat):Int)=IntKind.i64.wrap ((j:Int)+1) by rw [wrapI _ (by omega) (by omega)];omega]
  rfl
 ·obtain rfl:j=l.length:=by omega
  conv=>whnf
  exact hQ _ _ _ ⟨.inl rfl,Fgt.refl _,rfl⟩
def sortU (l:List Int):List Int:=(Sort.insertionSort Sort.ltInt l.toArray 0 l.length).toList
theorem insS_len (lt:Int→Int→Bool) (d:Array Int) (a b:Nat):(Sort.insertionSort lt d a b).size=d.size:=by
 have hI:∀ (j:Nat) (d:Array Int),(Sort.insInner lt a j d).size=d.size:=fun j=>by
  induction j with
  | zero=>intro d;rfl
  | succ j ih =>
    intro d
    rw [Sort.insInner]
    split
    ·rw [ih,swp_size]
    ·rfl
 show (Sort.insOuter lt a b (a+1) d).size=d.size
 have:∀ (n i:Nat) (d:Array Int),b-i=n→(Sort.insOuter lt a b i d).size=d.size:=fun n=>by
  induction n with
  | zero=>intro i d h;rw [Sort.insOuter.eq_1,if_neg (by omega)]
  | succ n ih=>intro i d h;rw [Sort.insOuter.eq_1,if_pos (by omega),ih _ _ (by omega),hI]
 exact this _ _ d rfl
def x77 (l:List Int):Option (List Int):=if 0<l.length∧l.length≤12 then some (sortU l) else none
theorem x77_ok {l v:List Int} (h:x77 l=some v):PO 77 [.func 103 [] [.lptr [.lst (l.map I) l.length .shared]]] (.lst (v.map I) v.length .shared):=by
 unfold x77 at h
 split at h
 ·rename_i hc
  obtain rfl:=Option.some.inj h
  have hpl:[AV.lptr [.lst (l.map I) l.length .shared]].all (pureD 7)=true:=allc (pu_lptr (allc (pu_map (fun _=>rfl) _ _ _) rfl)) rfl
  have hcl:=collectS_ok hpl (s103_ok l (by omega)) (by omega)
  have hS:=sort12_sem (lo:=0) (id:=0) (Nat.le_refl 0) l.toArray (by simpa using hc.2) (H:=[Cd l.toArray]) rfl
  obtain ⟨S,hSd⟩:∃ S,S=Sort.insertionSort Sort.ltInt l.toArray 0 l.toArray.size:=⟨_,rfl⟩
  have hv:sortU l=S.toList:=by rw [hSd];unfold sortU;simp
  have hsz:S.size=l.length:=by rw [hSd,insS_len];simp
  rw [←hSd] at hS
  rw [hv]
  have hne:l≠[]:=fun e=>by rw [e] at hc;exact absurd hc.1 (by decide)
  have hcol:colL l=.lst (l.map I) l.length (.uniq 1):=by
   cases l with
   | nil=>exact absurd rfl hne
   | cons a l=>rfl
  rw [hcol] at hcl
  refine fn_pureW hmix lk77 rfl (pu_map (fun _=>rfl) _ _ _) fun Q hQ=>?_
  unfold rc77
  conv=>whnf
  refine ⟨_,_,call0 (allc (pu_fn rfl hpl) rfl) hcl _ _,?_⟩
  conv=>whnf
  refine .inl ⟨by omega,?_⟩
  conv=>whnf
  have e1:AObj.cells (l.map I)=Cd l.toArray:=rfl
  have e2:AV.ref 0 0 l.length none 1=Da 0 l.toArray.size:=by unfold Da;simp
  erw [e1]
  refine ⟨_,_,call1 (by show Sem Tryz.prog (.fn 84) [AV.ref 0 0 l.length none 1] [Cd l.toArray] 0 (.tuple []) [Cd S];rw [e2];exact hS),?_⟩
  conv=>whnf
  have hrow:rowOf [Cd S] (.ref 0 0 l.length none 1)=some (S.toList.map I):=row_full rfl (hsz.symm.trans Array.length_toList.symm) fun _=>rfl
  refine ⟨.lst (S.toList.map I) l.length .shared,[.dead],fun C=>?_,?_⟩
  ·show ((rowOf [Cd S] (.ref 0 0 l.length none 1)).bind fun row=>some (AV.lst row l.length .shared,[AObj.dead]))=_
   rw [hrow];rfl
  conv=>whnf
  rw [show S.toList.length=l.length from Array.length_toList.trans hsz] at hQ
  exact hQ _ _ _ ⟨.inr rfl,_,rfl,_,frz_pure (pu_map (fun _=>rfl) _ _ _),rfl⟩
 ·cases h

noncomputable def xrc78:RC :=
 .seq (.reg false [I_ 1 [.tk 0] .box,I_ 2 [.cv .junk] .mv]) (.seq (.reg false [I_ 3 [.tv 1] (.mkF 103 0 1),I_ 2 [.tk 3] .mv]) .ret)
theorem lxx78:linkF Tryz.prog ann78 78=some (xrc78,4,[.tmp 2]):=by kernel_rfl
def x78 (s:(List Int)):Option Unit :=
 some ()
theorem x78_ok {s:(List Int)} {v:Unit} (h:x78 s=some v):PO 78 [(.lst (s.map I) s.length .shared)] (.func 103 [] [(.lptr [(.lst (s.map I) s.length .shared)])]):=by
 refine fn_pureW hmix lxx78 rfl (pu_fn rfl (allc (pu_lptr (allc (pu_map (fun _=>rfl) _ _ _) rfl)) rfl)) fun Q hQ=>?_
 have hR:∀ T H,RetW [.tmp 2] (.func 103 [] [(.lptr [(.lst (s.map I) s.length .shared)])]) .ret T H→Q .ret T H:=fun T H hh=>hQ _ T H hh
 unfold x78 at h
 unfold xrc78
 skip
 conv=>whnf
 exact hR _ _ ⟨.inr rfl,_,rfl,_,(frz_fn mapO_nil' (mapO_cons' (frz_ptr (l:=[(.lst (s.map I) s.length .shared)]) (by first | with_reducible exact get_concat _ _ | exact get_concat _ _ | exact ga (get_concat _ _) | rfl | (simp [List.getElem?_append,AV.settle];done)) (allc (pu_map (fun _=>rfl) _ _ _) rfl)) mapO_nil')),rfl⟩

noncomputable def xrc37_1:RC :=
 .rng (.sl 36) [37] (rngA Tryz.prog 37 0) (rngB Tryz.prog 37 0)
noncomputable def xrc37_2:RC :=
 .loop (some [o_,o_,o_,o_,o_,o_,i_,o_,i_,o_,o_,o_,o_,o_,o_,o_,o_,o_,o_,o_,o_,o_,i_,i_,i_,o_,o_,o_,o_,o_,o_,o_,o_,o_,o_,o_,o_,o_,o_,o_,o_,o_,o_,o_,o_,o_,o_,o_,o_,o_,o_]) (.seq (.reg false [I_ 25 [.sl 24,.sl 23] (.bin .lss)]) (.seq (.cond (.sl 25) .skip
 (.exit 0)) (.seq (.block 1 (.seq (.reg false [I_ 26 [.sl 22,.sl 24] (.ia 1),I_ 27 [.tv 26] (.ld .one),I_ 10 [.tk 27] .mv]) (.seq (.reg true [I_ 28 [.sl 6] .mv,I_ 29 [.tk 10] .mv,I_ 30 [.cv (.func 76 [] []),.sl 28,.sl 29]
 (.call 3),I_ 31 [.sl 6] .mv,I_ 32 [.tv 31] .nilc,I_ 33 [.tv 32] (.fa 5),I_ 34 [.tv 33] (.ld .one),I_ 35 [.tk 34] .lenS,I_ 36 [.cv (.func 75 [] []),.sl 30,.sl 35] (.call 3)]) (.block 2 xrc37_1)))) (.reg false [I_ 49 [.tv
 24,.cv (.int .i64 1)] (.bin .add),I_ 24 [.tk 49] .mv]))))
noncomputable def xrc37:RC :=
 .seq (.reg false [I_ 2 [.tk 0] .box,I_ 4 [.cv (.lst [] 0 .full)] (.nil 1),I_ 5 [.cv (.int .i64 0)] .mv]) (.seq (.reg false [I_ 13 [.tv 2] (.ld (.str 4)),I_ 14 [.tk 1] .mv,I_ 15 [.cv (.func 69 [] []),.sl 13,.sl 14] (.call
 3),I_ 12 [.tk 15] .mv,I_ 16 [.sl 12] (.ext 0),I_ 17 [.tv 12] (.ext 1),I_ 6 [.tk 16] .mv,I_ 7 [.tk 17] .mv]) (.seq (.seq (.reg false [I_ 18 [.sl 7] .mv,I_ 19 [.tv 18,.cv (.int .i64 0)] (.bin .neq)]) (.cond (.sl 19) (.seq
 (.reg false [I_ 20 [.tk 7] .mv,I_ 4 [.cv (.lst [] 0 .full)] (.nil 1),I_ 5 [.tk 20] .mv]) .ret) .skip)) (.seq (.reg false [I_ 8 [] (.alloc [.lst [] 0 (.own 1)])]) (.seq (.seq (.reg false [I_ 21 [.sl 6] .mv,I_ 22 [.cv (.func
 74 [] []),.sl 21] (.call 3),I_ 23 [.sl 22] .lenS,I_ 24 [.cv (.int .i64 0)] .mv]) (.block 0 xrc37_2)) (.seq (.reg false [I_ 50 [.tv 8] (.ld .one),I_ 4 [.tk 50] .mv,I_ 5 [.cv (.int .i64 0)] .mv]) .ret)))))
noncomputable def xrc37_A0:RC :=
 .reg false [I_ 11 [.tk 37] .mv]
theorem lxx37_A0:linkC Tryz.prog ann37 (rngA Tryz.prog 37 0) 0=some xrc37_A0:=by kernel_rfl
noncomputable def xrc37_B0:RC :=
 .block 3 (.reg true [I_ 38 [.sl 8] (.ld .one),I_ 39 [.sl 8] (.ld .one),I_ 40 [.tk 39] .lenS,I_ 41 [.sl 8] (.ld .one),I_ 42 [.tk 41] .lenS,I_ 43 [.tk 38,.tk 40,.tk 42] (.slS 1 false true true),I_ 44 [.tk 11] .mv,I_ 45
 [.cv (.func 78 [] []),.sl 44] (.call 3),I_ 46 [.cv (.func 77 [] []),.sl 45] (.call 3),I_ 47 [.tv 46] (.buildS 1 1 [.lst [] 0 .full] [0]),I_ 48 [.tk 43,.tk 47] (.app 1 24),⟨none,[.sl 8,.tk 48],none,none,.st 1⟩])
theorem lxx37_B0:linkC Tryz.prog ann37 (rngB Tryz.prog 37 0) 0=some xrc37_B0:=by kernel_rfl
theorem lxx37:linkF Tryz.prog ann37 37=some (xrc37,51,[.tmp 4,.tmp 5]):=by kernel_rfl
def x37_r1  (t1:(List (List Int))) (e1:(List Int)):Option ((List (List Int))) :=
 gd ((t1.length:Int)=(t1.length:Int)∧0≤(t1.length:Int)∧(t1.length:Int)≤(t1.length:Int)) <|
 (x78 e1).bind fun r5 =>
 (x77 e1).bind fun r6 =>
 gd ((1≠0)∧((t1.take (t1.length:Int).toNat).length+1)*24≤140737488355328) <|
 some ((t1.take (t1.length:Int).toNat)++[r6])
def x37_l1 (p1:((Int×(List Int)×Int×Int)×(List (Int×Int))×(List Int)×(List Int))) (r2:(List Int)) (kl1_0:(List (List Int))→Option ((List (List Int))×Int)):Nat→Int→(List (List Int))→Option ((List (List Int))×Int)
 | 0,_,_=>none
 | m+1,s1,s2 =>
   if (decide (s1<(r2.length:Int)))=true then
    gd (0≤s1∧s1<(r2.length:Int)) <|
    (x76 p1 (ix r2 s1)).bind fun r3 =>
    (x75 r3 (p1.2.2.1.length:Int)).bind fun r4 =>
    (s98 r3 (p1.2.2.1.length:Int)).bind fun l1 =>
    (foldO x37_r1 l1 s2).bind fun r7 =>
    x37_l1 p1 r2 kl1_0 m (w (s1+(1:Int))) r7
   else
    kl1_0 s2
def x37 (b:(Int×(List Int)×Int×Int)) (panels:(List (Int×Int))):Option ((List (List Int))×Int) :=
 (x69 b panels).bind fun r1 =>
 match r1 with
 | (none,q1) =>
   if (decide (q1≠(0:Int)))=true then
    some ([],q1)
   else
    none
 | (some p1,q1) =>
   if (decide (q1≠(0:Int)))=true then
    some ([],q1)
   else
    (x74 p1).bind fun r2 =>
    x37_l1 p1 r2 (fun z1 =>
      some (z1,(0:Int))) FU (0:Int) ([]:List (List Int))
theorem x37_r1_ok {t1:(List (List Int))} {e1:(List Int)} {u0:AV} {u1:AV} {u2:AV} {u3:AV} {u4:AV} {u5:AV} {u6:AV} {u7:AV} {u9:AV} {u10:AV} {u11:AV} {u12:AV} {u13:AV} {u14:AV} {u15:AV} {u16:AV} {u17:AV} {u18:AV} {u19:AV} {u20:AV} {u21:AV} {u22:AV} {u23:AV} {u24:AV} {u25:AV} {u26:AV} {u27:AV} {u28:AV} {u29:AV} {u30:AV} {u31:AV} {u32:AV} {u33:AV} {u34:AV} {u35:AV} {u36:AV} {u37:AV} {u38:AV} {u39:AV} {u40:AV} {u41:AV} {u42:AV} {u43:AV} {u44:AV} {u45:AV} {u46:AV} {u47:AV} {u48:AV} {u49:AV} {u50:AV} {o1:AObj} {Y37_1:List AObj} {v_:(List (List Int))} (h:x37_r1  t1 e1=some v_) (Y:List AObj) :
  ∃ Y',Sem Tryz.prog (.yield ((o1::AObj.cells [(.lst (t1.map L1) t1.length (.own 1))]::Y37_1)).length) [(.lst (e1.map I) e1.length .full)] (((o1::AObj.cells [(.lst (t1.map L1) t1.length (.own 1))]::Y37_1)++[AObj.loop .ready none 37 [u0,u1,u2,u3,u4,u5,u6,u7,(.ptr 1 0),u9,u10,u11,u12,u13,u14,u15,u16,u17,u18,u19,u20,u21,u22,u23,u24,u25,u26,u27,u28,u29,u30,u31,u32,u33,u34,u35,u36,u37,u38,u39,u40,u41,u42,u43,u44,u45,u46,u47,u48,u49,u50] [37] (rngA Tryz.prog 37 0) (rngB Tryz.prog 37 0) ann37])++Y) 0 (.bool true) (((o1::AObj.cells [(.lst (v_.map L1) v_.length (.own 1))]::Y37_1)++[AObj.loop .ready none 37 [u0,u1,u2,u3,u4,u5,u6,u7,(.ptr 1 0),u9,u10,u11,u12,u13,u14,u15,u16,u17,u18,u19,u20,u21,u22,u23,u24,u25,u26,u27,u28,u29,u30,u31,u32,u33,u34,u35,u36,u37,u38,u39,u40,u41,u42,u43,u44,u45,u46,u47,u48,u49,u50] [37] (rngA Tryz.prog 37 0) (rngB Tryz.prog 37 0) ann37])++Y'):=by
 unfold x37_r1 at h
 refine ⟨Y,sem_round hmix lxx37_A0 lxx37_B0 (get_mid _ _ _) rfl (low0 (by simp)) ?_⟩
 unfold xrc37_A0
 conv=>whnf
 refine ⟨rfl,get_mid _ _ _,?_⟩
 rw [set_mid]
 unfold xrc37_B0
 conv=>whnf
 obtain ⟨hb9,h⟩:=gd_some h
 refine ⟨hb9,?_⟩
 erw [slHi L1 t1 (t1.length:Int) hb9.2]
 conv=>whnf
 obtain ⟨r5,hb10,h⟩:=bd_some h
 refine ⟨(allc (pu_map (fun _=>rfl) _ _ _) rfl),_,x78_ok hb10,acc0,?_⟩
 conv=>whnf
 obtain ⟨r6,hb11,h⟩:=bd_some h
 refine ⟨(allc (pu_fn rfl (allc (pu_lptr (allc (pu_map (fun _=>rfl) _ _ _) rfl)) rfl)) rfl),_,x77_ok  hb11,accN rfl,?_⟩
 conv=>whnf
 obtain ⟨hb12,h⟩:=gd_some h
 refine ⟨by first | rfl | simp,by have:=hb12.2;omega,hb12.1,hb12.2,by first | rfl | simp,?_⟩
 erw [apnd1 L1 (t1.take (t1.length:Int).toNat) r6]
 conv=>whnf
 obtain rfl:=Option.some.inj h
 show _∧(((o1::AObj.cells [(.lst (((t1.take (t1.length:Int).toNat)++[r6]).map L1) ((t1.take (t1.length:Int).toNat)++[r6]).length (.own 1))]::Y37_1)++[AObj.loop .busy none 37 [u0,u1,u2,u3,u4,u5,u6,u7,(.ptr 1 0),u9,u10,u11,u12,u13,u14,u15,u16,u17,u18,u19,u20,u21,u22,u23,u24,u25,u26,u27,u28,u29,u30,u31,u32,u33,u34,u35,u36,u37,u38,u39,u40,u41,u42,u43,u44,u45,u46,u47,u48,u49,u50] [37] (rngA Tryz.prog 37 0) (rngB Tryz.prog 37 0) ann37])++Y)[((o1::AObj.cells [(.lst (((t1.take (t1.length:Int).toNat)++[r6]).map L1) ((t1.take (t1.length:Int).toNat)++[r6]).length (.own 1))]::Y37_1)).length]?=_∧Fgt ((((o1::AObj.cells [(.lst (((t1.take (t1.length:Int).toNat)++[r6]).map L1) ((t1.take (t1.length:Int).toNat)++[r6]).length (.own 1))]::Y37_1)++[AObj.loop .busy none 37 [u0,u1,u2,u3,u4,u5,u6,u7,(.ptr 1 0),u9,u10,u11,u12,u13,u14,u15,u16,u17,u18,u19,u20,u21,u22,u23,u24,u25,u26,u27,u28,u29,u30,u31,u32,u33,u34,u35,u36,u37,u38,u39,u40,u41,u42,u43,u44,u45,u46,u47,u48,u49,u50] [37] (rngA Tryz.prog 37 0) (rngB Tryz.prog 37 0) ann37])++Y).set ((o1::AObj.cells [(.lst (((t1.take (t1.length:Int).toNat)++[r6]).map L1) ((t1.take (t1.length:Int).toNat)++[r6]).length (.own 1))]::Y37_1)).length _) _
 exact ⟨rfl,get_mid _ _ _,by rw [set_mid];exact Fgt.refl _⟩
theorem x37_l1_ok {p1:((Int×(List Int)×Int×Int)×(List (Int×Int))×(List Int)×(List Int))} {r2:(List Int)} {kl1_0:(List (List Int))→Option ((List (List Int))×Int)} {s1:Int} {s2:(List (List Int))} {v:((List (List Int))×Int)} {Q:Ex→List AV→List AObj→Prop} {o1:AObj}  (hkl1_0:∀ (z1:(List (List Int))) (u0:AV) (u1:AV) (u2:AV) (u4:AV) (u5:AV) (u6:AV) (u7:AV) (u10:AV) (u11:AV) (u12:AV) (u13:AV) (u14:AV) (u15:AV) (u16:AV) (u17:AV) (u18:AV) (u19:AV) (u20:AV) (u21:AV) (u22:AV) (u23:AV) (u24:AV) (u25:AV) (u26:AV) (u27:AV) (u28:AV) (u29:AV) (u30:AV) (u31:AV) (u32:AV) (u33:AV) (u34:AV) (u35:AV) (u36:AV) (u37:AV) (u38:AV) (u39:AV) (u40:AV) (u41:AV) (u42:AV) (u43:AV) (u44:AV) (u45:AV) (u46:AV) (u47:AV) (u48:AV) (u49:AV) (u50:AV) (Yq:List AObj),kl1_0 z1=some v→Q (.exit 0) [u0,u1,u2,J,u4,u5,u6,u7,(.ptr 1 0),J,u10,u11,u12,u13,u14,u15,u16,u17,u18,u19,u20,u21,u22,u23,u24,u25,u26,u27,u28,u29,u30,u31,u32,u33,u34,u35,u36,u37,u38,u39,u40,u41,u42,u43,u44,u45,u46,u47,u48,u49,u50] (o1::AObj.cells [(.lst (z1.map L1) z1.length (.own 1))]::Yq)) {T:List AV} (hT:zipKeep [o_,o_,o_,o_,o_,o_,i_,o_,i_,o_,o_,o_,o_,o_,o_,o_,o_,o_,o_,o_,o_,o_,i_,i_,i_,o_,o_,o_,o_,o_,o_,o_,o_,o_,o_,o_,o_,o_,o_,o_,o_,o_,o_,o_,o_,o_,o_,o_,o_,o_,o_] T=slots 51 [(6,(.lptr ((I p1.1.1)::(.lst (p1.1.2.1.map I) p1.1.2.1.length .shared)::(I p1.1.2.2.1)::(I p1.1.2.2.2)::(.lst (p1.2.1.flatMap pr) p1.2.1.length .shared)::(.lst (p1.2.2.1.map I) p1.2.2.1.length .shared)::(p1.2.2.2.map I)))),(8,(.ptr 1 0)),(22,(.lst (r2.map I) r2.length .shared)),(23,(I (r2.length:Int))),(24,(I s1))]) (h:x37_l1 p1 r2 kl1_0 FU s1 s2=some v) :
  wpR Tryz.prog ann37 37 0 none xrc37_2 T [o1,AObj.cells [(.lst (s2.map L1) s2.length (.own 1))]] Q:=by
 unfold xrc37_2
 obtain ⟨c_1,g_1⟩:∃ c,xrc37_1=c:=⟨_,rfl⟩
 rw [g_1]
 refine wp_loop hT ?_
 refine .intro (fun m T H=>∃ (s1:Int) (s2:(List (List Int))) (Y37_1:List AObj),T=slots 51 [(6,(.lptr ((I p1.1.1)::(.lst (p1.1.2.1.map I) p1.1.2.1.length .shared)::(I p1.1.2.2.1)::(I p1.1.2.2.2)::(.lst (p1.2.1.flatMap pr) p1.2.1.length .shared)::(.lst (p1.2.2.1.map I) p1.2.2.1.length .shared)::(p1.2.2.2.map I)))),(8,(.ptr 1 0)),(22,(.lst (r2.map I) r2.length .shared)),(23,(I (r2.length:Int))),(24,(I s1))]∧H=(o1::AObj.cells [(.lst (s2.map L1) s2.length (.own 1))]::Y37_1)∧x37_l1 p1 r2 kl1_0 m s1 s2=some v) FU ⟨s1,s2,[],rfl,rfl,h⟩ ?_
 clear h hT
 rintro m T H ⟨s1,s2,Y37_1,rfl,rfl,h⟩
 cases m
 ·exact none_ne h
 rename_i m
 rw [x37_l1.eq_2] at h
 conv=>whnf
 rcases bt (decide (s1<(r2.length:Int))) with hb5 | hb5
 ·rw [hb5]
  conv=>whnf
  replace h:=it_t hb5 h
  obtain ⟨hb6,h⟩:=gd_some h
  refine ⟨hb6,?_⟩
  rw [drop1 I r2 s1 hb6]
  conv=>whnf
  obtain ⟨r3,hb7,h⟩:=bd_some h
  refine ⟨(allc (pu_lptr (allc rfl (allc (pu_map (fun _=>rfl) _ _ _) (allc rfl (allc rfl (allc (pu_flat (fun _=>(allc rfl (allc rfl rfl))) _ _ _) (allc (pu_map (fun _=>rfl) _ _ _) (pu_run (fun _=>rfl) _)))))))) (allc rfl rfl)),_,x76_ok hb7,acc0,?_⟩
  conv=>whnf
  obtain ⟨r4,hb8,h⟩:=bd_some h
  refine ⟨(allc (pu_map (fun _=>rfl) _ _ _) (allc rfl rfl)),_,x75_ok hb8,accN rfl,?_⟩
  conv=>whnf
  obtain ⟨l1,hb13,h⟩:=bd_some h
  obtain ⟨r7,hb14,h⟩:=bd_some h
  obtain ⟨F_,hF0,hFn,hF⟩:=foldO_states hb14
  subst g_1
  unfold xrc37_1
  refine rng_wp (f:=fun (e1:(List Int))=>(.lst (e1.map I) e1.length .full)) (s98_ok hb13) (fun i=>(o1::AObj.cells [(.lst ((F_ i).map L1) (F_ i).length (.own 1))]::Y37_1)) (by exact rfl) (by show (o1::AObj.cells [(.lst ((F_ 0).map L1) (F_ 0).length (.own 1))]::Y37_1)=_;first | (rw [hF0];done) | (rw [hF0];rfl)) (fun _=>rfl) ?_ (rl:=none) (by exact rfl) (Hn:=(o1::AObj.cells [(.lst (r7.map L1) r7.length (.own 1))]::Y37_1)) (by show (o1::AObj.cells [(.lst ((F_ l1.length).map L1) (F_ l1.length).length (.own 1))]::Y37_1)=_;first | (rw [hFn];done) | (rw [hFn];rfl)) (fun Yr4=>?_)
  ·intro i hi Y
   exact x37_r1_ok (hF i hi) Y
  conv=>whnf
  exact ⟨m,Nat.lt_succ_self m,(w (s1+(1:Int))),r7,_,rfl,rfl,h⟩
 ·rw [hb5]
  conv=>whnf
  replace h:=it_f hb5 h
  exact hkl1_0 _ _ _ _ _ _ _ _ _ _ _ _ _ _ _ _ _ _ _ _ _ _ _ _ _ _ _ _ _ _ _ _ _ _ _ _ _ _ _ _ _ _ _ _ _ _ _ _ _ _ h
theorem x37_ok {b:(Int×(List Int)×Int×Int)} {panels:(List (Int×Int))} {v:((List (List Int))×Int)} (h:x37 b panels=some v):PO 37 [(.agg [(I b.1),(.lst (b.2.1.map I) b.2.1.length .shared),(I b.2.2.1),(I b.2.2.2)]),(.lst (panels.flatMap pr) panels.length .shared)] (.tuple [(.lst (v.1.map L1) v.1.length .shared),(I v.2)]):=by
 refine fn_pureW hmix lxx37 rfl (pu_tup (allc (pu_map (fun _=>(pu_map (fun _=>rfl) _ _ _)) _ _ _) (allc rfl rfl))) fun Q hQ=>?_
 have hR:∀ T H,RetW [.tmp 4,.tmp 5] (.tuple [(.lst (v.1.map L1) v.1.length .shared),(I v.2)]) .ret T H→Q .ret T H:=fun T H hh=>hQ _ T H hh
 unfold x37 at h
 unfold xrc37
 obtain ⟨c_2,g_2⟩:∃ c,xrc37_2=c:=⟨_,rfl⟩
 rw [g_2]
 conv=>whnf
 obtain ⟨r1,hb1,h⟩:=bd_some h
 rcases r1 with ⟨_ | p1,q1⟩
 ·refine ⟨(allc (pu_agg (allc rfl (allc (pu_map (fun _=>rfl) _ _ _) (allc rfl (allc rfl rfl))))) (allc (pu_flat (fun _=>(allc rfl (allc rfl rfl))) _ _ _) rfl)),_,x69_ok hb1,?_⟩
  conv=>whnf
  rcases bt (decide (q1≠(0:Int))) with hb2 | hb2
  ·rw [hb2]
   conv=>whnf
   replace h:=it_t hb2 h
   obtain rfl:=Option.some.inj h
   exact hR _ _ ⟨.inr rfl,_,rfl,_,frz_pure (pu_tup (allc rfl (allc rfl rfl))),rfl⟩
  ·rw [hb2]
   conv=>whnf
   replace h:=it_f hb2 h
   exact none_ne h
 ·refine ⟨(allc (pu_agg (allc rfl (allc (pu_map (fun _=>rfl) _ _ _) (allc rfl (allc rfl rfl))))) (allc (pu_flat (fun _=>(allc rfl (allc rfl rfl))) _ _ _) rfl)),_,x69_ok hb1,?_⟩
  conv=>whnf
  rcases bt (decide (q1≠(0:Int))) with hb3 | hb3
  ·rw [hb3]
   conv=>whnf
   replace h:=it_t hb3 h
   obtain rfl:=Option.some.inj h
   exact hR _ _ ⟨.inr rfl,_,rfl,_,frz_pure (pu_tup (allc rfl (allc rfl rfl))),rfl⟩
  ·rw [hb3]
   conv=>whnf
   replace h:=it_f hb3 h
   obtain ⟨r2,hb4,h⟩:=bd_some h
   refine ⟨(allc (pu_lptr (allc rfl (allc (pu_map (fun _=>rfl) _ _ _) (allc rfl (allc rfl (allc (pu_flat (fun _=>(allc rfl (allc rfl rfl))) _ _ _) (allc (pu_map (fun _=>rfl) _ _ _) (pu_run (fun _=>rfl) _)))))))) rfl),_,x74_ok hb4,?_⟩
   conv=>whnf
   subst g_2
   refine x37_l1_ok ?_ (by exact rfl) h
   intro z1 u0 u1 u2 u4 u5 u6 u7 u10 u11 u12 u13 u14 u15 u16 u17 u18 u19 u20 u21 u22 u23 u24 u25 u26 u27 u28 u29 u30 u31 u32 u33 u34 u35 u36 u37 u38 u39 u40 u41 u42 u43 u44 u45 u46 u47 u48 u49 u50 Yq h
   conv=>whnf
   obtain rfl:=Option.some.inj h
   exact hR _ _ ⟨.inr rfl,_,rfl,_,frz_pure (pu_tup (allc (pu_map (fun _=>(pu_map (fun _=>rfl) _ _ _)) _ _ _) (allc rfl rfl))),rfl⟩

noncomputable def xrc46:RC :=
 .seq (.reg false [I_ 2 [.tk 0] .box,I_ 4 [.cv (.int .i64 0)] .mv,I_ 5 [.cv (.int .i64 0)] .mv,I_ 6 [.cv (.lst [] 0 .full)] (.nil 1),I_ 7 [.cv (.bool false)] .mv]) (.seq (.reg false [I_ 19 [.sl 2] (.ld (.str 4)),I_ 20 [.sl 1]
 .mv,I_ 21 [.cv (.func 33 [] []),.sl 19,.sl 20] (.call 3),I_ 18 [.tk 21] .mv,I_ 22 [.sl 18] (.ext 0),I_ 23 [.tv 18] (.ext 1),I_ 8 [.tk 22] .mv,I_ 9 [.tk 23] .mv]) (.seq (.reg false [I_ 25 [.sl 2] (.ld (.str 4)),I_ 26
 [.sl 1] .mv,I_ 27 [.cv (.func 35 [] []),.sl 25,.sl 26] (.call 3),I_ 24 [.tk 27] .mv,I_ 28 [.sl 24] (.ext 0),I_ 29 [.tv 24] (.ext 1),I_ 10 [.tk 28] .mv,I_ 11 [.tk 29] .mv]) (.seq (.reg false [I_ 31 [.sl 2] (.ld (.str
 4)),I_ 32 [.sl 1] .mv,I_ 33 [.cv (.func 37 [] []),.sl 31,.sl 32] (.call 3),I_ 30 [.tk 33] .mv,I_ 34 [.sl 30] (.ext 0),I_ 35 [.tv 30] (.ext 1),I_ 12 [.tk 34] .mv,I_ 13 [.tk 35] .mv]) (.seq (.seq (.reg false [I_ 36 [.tk
 9] .mv,I_ 37 [.tv 36,.cv (.int .i64 0)] (.bin .neq),I_ 38 [.tk 37] .mv,⟨some 39,[.tk 11],some (38,false),none,.mv⟩,⟨some 40,[.tv 39,.cv (.int .i64 0)],some (38,false),none,.bin .neq⟩,I_ 41 [.tv 38,.cv (.bool
 true),.tv 40] .pick,I_ 42 [.tk 41] .mv,⟨some 43,[.tk 13],some (42,false),none,.mv⟩,⟨some 44,[.tv 43,.cv (.int .i64 0)],some (42,false),none,.bin .neq⟩,I_ 45 [.tv 42,.cv (.bool true),.tv 44] .pick,I_ 46 [.tk
 45] .mv,⟨some 47,[.sl 12],some (46,false),none,.mv⟩,⟨some 48,[.cv (.func 25 [] []),.sl 47],some (46,false),none,.call 3⟩,I_ 49 [.tv 46,.cv (.bool true),.tv 48] .pick]) (.cond (.sl 49) (.seq (.reg false [I_ 4
 [.cv (.int .i64 0)] .mv,I_ 5 [.cv (.int .i64 0)] .mv,I_ 6 [.cv (.lst [] 0 .full)] (.nil 1),I_ 7 [.cv (.bool false)] .mv]) .ret) .skip)) (.seq (.reg false [I_ 51 [.sl 2] (.ld (.str 4)),I_ 52 [.sl 1] .mv,I_ 53 [.sl 12] .mv,
 I_ 54 [.cv (.func 26 [] []),.sl 51,.sl 52,.sl 53] (.call 3),I_ 50 [.tk 54] .mv,I_ 55 [.sl 50] (.ext 0),I_ 56 [.sl 50] (.ext 1),I_ 57 [.tv 50] (.ext 2),I_ 14 [.tk 55] .mv,I_ 15 [.tk 56] .mv,I_ 9 [.tk 57] .mv]) (.seq
 (.reg false [I_ 59 [.tv 2] (.ld (.str 4)),I_ 60 [.tk 1] .mv,I_ 61 [.sl 12] .mv,I_ 62 [.cv (.func 27 [] []),.sl 59,.sl 60,.sl 61] (.call 3),I_ 58 [.tk 62] .mv,I_ 63 [.sl 58] (.ext 0),I_ 64 [.sl 58] (.ext 1),I_ 65 [.tv
 58] (.ext 2),I_ 16 [.tk 63] .mv,I_ 17 [.tk 64] .mv,I_ 11 [.tk 65] .mv]) (.seq (.reg false [I_ 66 [.sl 8] .mv,I_ 67 [.sl 10] .mv,I_ 68 [.tk 12] .mv,I_ 69 [.tk 9] .mv,I_ 70 [.tv 69,.cv (.int .i64 0)] (.bin .eql),I_ 71
 [.tk 70] .mv,⟨some 72,[.tk 11],some (71,true),none,.mv⟩,⟨some 73,[.tv 72,.cv (.int .i64 0)],some (71,true),none,.bin .eql⟩,I_ 74 [.tv 71,.tv 73,.cv (.bool false)] .pick,I_ 75 [.tk 74] .mv,⟨some 76,[.tk 14],
 some (75,true),none,.mv⟩,⟨some 77,[.sl 8],some (75,true),none,.mv⟩,⟨some 78,[.tv 76,.tv 77],some (75,true),none,.bin .eql⟩,I_ 79 [.tv 75,.tv 78,.cv (.bool false)] .pick,I_ 80 [.tk 79] .mv,⟨some 81,[.tk
 16],some (80,true),none,.mv⟩,⟨some 82,[.tk 8],some (80,true),none,.mv⟩,⟨some 83,[.tv 81,.tv 82],some (80,true),none,.bin .eql⟩,I_ 84 [.tv 80,.tv 83,.cv (.bool false)] .pick,I_ 85 [.tk 84] .mv,⟨some 86,
 [.tk 15],some (85,true),none,.mv⟩,⟨some 87,[.sl 10],some (85,true),none,.mv⟩,⟨some 88,[.tv 86,.tv 87],some (85,true),none,.bin .eql⟩,I_ 89 [.tv 85,.tv 88,.cv (.bool false)] .pick,I_ 90 [.tk 89] .mv,⟨some
 91,[.tk 17],some (90,true),none,.mv⟩,⟨some 92,[.tk 10],some (90,true),none,.mv⟩,⟨some 93,[.tv 91,.tv 92],some (90,true),none,.bin .eql⟩,I_ 94 [.tv 90,.tv 93,.cv (.bool false)] .pick,I_ 4 [.tk 66] .mv,I_ 5
 [.tk 67] .mv,I_ 6 [.tk 68] .mv,I_ 7 [.tk 94] .mv]) .ret)))))))
theorem lxx46:linkF Tryz.prog ann46 46=some (xrc46,95,[.tmp 4,.tmp 5,.tmp 6,.tmp 7]):=by kernel_rfl
def x46 (b:(Int×(List Int)×Int×Int)) (panels:(List (Int×Int))):Option (Int×Int×(List (List Int))×Bool) :=
 (x33 b panels).bind fun r1 =>
 (x35 b panels).bind fun r2 =>
 (x37 b panels).bind fun r3 =>
 if (decide (r1.2≠(0:Int)))=true then
  some ((0:Int),(0:Int),[],false)
 else
  if (decide (r2.2≠(0:Int)))=true then
   some ((0:Int),(0:Int),[],false)
  else
   if (decide (r3.2≠(0:Int)))=true then
    some ((0:Int),(0:Int),[],false)
   else
    (x25 r3.1).bind fun r4 =>
    if r4=true then
     some ((0:Int),(0:Int),[],false)
    else
     (x26 b panels r3.1).bind fun r5 =>
     (x27 b panels r3.1).bind fun r6 =>
     if (decide (r5.2.2=(0:Int)))=true then
      if (decide (r6.2.2=(0:Int)))=true then
       if (decide (r5.1=r1.1))=true then
        if (decide (r6.1=r1.1))=true then
         if (decide (r5.2.1=r2.1))=true then
          some (r1.1,r2.1,r3.1,(decide (r6.2.1=r2.1)))
         else
          some (r1.1,r2.1,r3.1,false)
        else
         some (r1.1,r2.1,r3.1,false)
       else
        some (r1.1,r2.1,r3.1,false)
      else
       some (r1.1,r2.1,r3.1,false)
     else
      some (r1.1,r2.1,r3.1,false)
theorem x46_ok {b:(Int×(List Int)×Int×Int)} {panels:(List (Int×Int))} {v:(Int×Int×(List (List Int))×Bool)} (h:x46 b panels=some v):PO 46 [(.agg [(I b.1),(.lst (b.2.1.map I) b.2.1.length .shared),(I b.2.2.1),(I b.2.2.2)]),(.lst (panels.flatMap pr) panels.length .shared)] (.tuple [(I v.1),(I v.2.1),(.lst (v.2.2.1.map L1) v.2.2.1.length .shared),(B v.2.2.2)]):=by
 refine fn_pureW hmix lxx46 rfl (pu_tup (allc rfl (allc rfl (allc (pu_map (fun _=>(pu_map (fun _=>rfl) _ _ _)) _ _ _) (allc rfl rfl))))) fun Q hQ=>?_
 have hR:∀ T H,RetW [.tmp 4,.tmp 5,.tmp 6,.tmp 7] (.tuple [(I v.1),(I v.2.1),(.lst (v.2.2.1.map L1) v.2.2.1.length .shared),(B v.2.2.2)]) .ret T H→Q .ret T H:=fun T H hh=>hQ _ T H hh
 unfold x46 at h
 unfold xrc46
 skip
 conv=>whnf
 obtain ⟨r1,hb1,h⟩:=bd_some h
 refine ⟨(allc (pu_agg (allc rfl (allc (pu_map (fun _=>rfl) _ _ _) (allc rfl (allc rfl rfl))))) (allc (pu_flat (fun _=>(allc rfl (allc rfl rfl))) _ _ _) rfl)),_,x33_ok hb1,?_⟩
 conv=>whnf
 obtain ⟨r2,hb2,h⟩:=bd_some h
 refine ⟨(allc (pu_agg (allc rfl (allc (pu_map (fun _=>rfl) _ _ _) (allc rfl (allc rfl rfl))))) (allc (pu_flat (fun _=>(allc rfl (allc rfl rfl))) _ _ _) rfl)),_,x35_ok hb2,?_⟩
 conv=>whnf
 obtain ⟨r3,hb3,h⟩:=bd_some h
 refine ⟨(allc (pu_agg (allc rfl (allc (pu_map (fun _=>rfl) _ _ _) (allc rfl (allc rfl rfl))))) (allc (pu_flat (fun _=>(allc rfl (allc rfl rfl))) _ _ _) rfl)),_,x37_ok hb3,?_⟩
 conv=>whnf
 rcases bt (decide (r1.2≠(0:Int))) with hb4 | hb4
 ·rw [hb4]
  conv=>whnf
  replace h:=it_t hb4 h
  obtain rfl:=Option.some.inj h
  exact hR _ _ ⟨.inr rfl,_,rfl,_,frz_pure (pu_tup (allc rfl (allc rfl (allc rfl (allc rfl rfl))))),rfl⟩
 ·rw [hb4]
  conv=>whnf
  replace h:=it_f hb4 h
  rcases bt (decide (r2.2≠(0:Int))) with hb5 | hb5
  ·rw [hb5]
   conv=>whnf
   replace h:=it_t hb5 h
   obtain rfl:=Option.some.inj h
   exact hR _ _ ⟨.inr rfl,_,rfl,_,frz_pure (pu_tup (allc rfl (allc rfl (allc rfl (allc rfl rfl))))),rfl⟩
  ·rw [hb5]
   conv=>whnf
   replace h:=it_f hb5 h
   rcases bt (decide (r3.2≠(0:Int))) with hb6 | hb6
   ·rw [hb6]
    conv=>whnf
    replace h:=it_t hb6 h
    obtain rfl:=Option.some.inj h
    exact hR _ _ ⟨.inr rfl,_,rfl,_,frz_pure (pu_tup (allc rfl (allc rfl (allc rfl (allc rfl rfl))))),rfl⟩
   ·rw [hb6]
    conv=>whnf
    replace h:=it_f hb6 h
    obtain ⟨r4,hb7,h⟩:=bd_some h
    refine ⟨(allc (pu_map (fun _=>(pu_map (fun _=>rfl) _ _ _)) _ _ _) rfl),_,x25_ok hb7,?_⟩
    conv=>whnf
    cases r4
    ·conv=>whnf
     replace h:=it_f rfl h
     obtain ⟨r5,hb8,h⟩:=bd_some h
     refine ⟨(allc (pu_agg (allc rfl (allc (pu_map (fun _=>rfl) _ _ _) (allc rfl (allc rfl rfl))))) (allc (pu_flat (fun _=>(allc rfl (allc rfl rfl))) _ _ _) (allc (pu_map (fun _=>(pu_map (fun _=>rfl) _ _ _)) _ _ _) rfl))),_,x26_ok hb8,?_⟩
     conv=>whnf
     obtain ⟨r6,hb9,h⟩:=bd_some h
     refine ⟨(allc (pu_agg (allc rfl (allc (pu_map (fun _=>rfl) _ _ _) (allc rfl (allc rfl rfl))))) (allc (pu_flat (fun _=>(allc rfl (allc rfl rfl))) _ _ _) (allc (pu_map (fun _=>(pu_map (fun _=>rfl) _ _ _)) _ _ _) rfl))),_,x27_ok hb9,?_⟩
     conv=>whnf
     rcases bt (decide (r5.2.2=(0:Int))) with hb10 | hb10
     ·rw [hb10]
      conv=>whnf
      replace h:=it_t hb10 h
      rcases bt (decide (r6.2.2=(0:Int))) with hb11 | hb11
      ·rw [hb11]
       conv=>whnf
       replace h:=it_t hb11 h
       rcases bt (decide (r5.1=r1.1)) with hb12 | hb12
       ·rw [hb12]
        conv=>whnf
        replace h:=it_t hb12 h
        rcases bt (decide (r6.1=r1.1)) with hb13 | hb13
        ·rw [hb13]
         conv=>whnf
         replace h:=it_t hb13 h
         rcases bt (decide (r5.2.1=r2.1)) with hb14 | hb14
         ·rw [hb14]
          conv=>whnf
          replace h:=it_t hb14 h
          obtain rfl:=Option.some.inj h
          exact hR _ _ ⟨.inr rfl,_,rfl,_,frz_pure (pu_tup (allc rfl (allc rfl (allc (pu_map (fun _=>(pu_map (fun _=>rfl) _ _ _)) _ _ _) (allc rfl rfl))))),rfl⟩
         ·rw [hb14]
          conv=>whnf
          replace h:=it_f hb14 h
          obtain rfl:=Option.some.inj h
          exact hR _ _ ⟨.inr rfl,_,rfl,_,frz_pure (pu_tup (allc rfl (allc rfl (allc (pu_map (fun _=>(pu_map (fun _=>rfl) _ _ _)) _ _ _) (allc rfl rfl))))),rfl⟩
        ·rw [hb13]
         conv=>whnf
         replace h:=it_f hb13 h
         obtain rfl:=Option.some.inj h
         exact hR _ _ ⟨.inr rfl,_,rfl,_,frz_pure (pu_tup (allc rfl (allc rfl (allc (pu_map (fun _=>(pu_map (fun _=>rfl) _ _ _)) _ _ _) (allc rfl rfl))))),rfl⟩
       ·rw [hb12]
        conv=>whnf
        replace h:=it_f hb12 h
        obtain rfl:=Option.some.inj h
        exact hR _ _ ⟨.inr rfl,_,rfl,_,frz_pure (pu_tup (allc rfl (allc rfl (allc (pu_map (fun _=>(pu_map (fun _=>rfl) _ _ _)) _ _ _) (allc rfl rfl))))),rfl⟩
      ·rw [hb11]
       conv=>whnf
       replace h:=it_f hb11 h
       obtain rfl:=Option.some.inj h
       exact hR _ _ ⟨.inr rfl,_,rfl,_,frz_pure (pu_tup (allc rfl (allc rfl (allc (pu_map (fun _=>(pu_map (fun _=>rfl) _ _ _)) _ _ _) (allc rfl rfl))))),rfl⟩
     ·rw [hb10]
      conv=>whnf
      replace h:=it_f hb10 h
      obtain rfl:=Option.some.inj h
      exact hR _ _ ⟨.inr rfl,_,rfl,_,frz_pure (pu_tup (allc rfl (allc rfl (allc (pu_map (fun _=>(pu_map (fun _=>rfl) _ _ _)) _ _ _) (allc rfl rfl))))),rfl⟩
    ·conv=>whnf
     replace h:=it_t rfl h
     obtain rfl:=Option.some.inj h
     exact hR _ _ ⟨.inr rfl,_,rfl,_,frz_pure (pu_tup (allc rfl (allc rfl (allc rfl (allc rfl rfl))))),rfl⟩

end Go.Proofs.YtbnbjjgagikobaaGreat.Ab


namespace Go.Proofs.YtbnbjjgagikobaaGreat.Ab
open Go
set_option maxRecDepth 20000
set_option maxHeartbeats 4000000
theorem swo_up:Sort.SWO Sort.ltInt:=by
 constructor <;> intros <;> simp_all [Sort.ltInt] <;> omega
theorem sortU_perm (l:List Int):(sortU l).Perm l:=by
 obtain ⟨⟨h1,_,h3⟩,_⟩:=Sort.insertionSort_holds (lt:=Sort.ltInt) swo_up l.toArray 0 l.length (Nat.zero_le _) (by simp)
 unfold sortU
 generalize Sort.insertionSort Sort.ltInt l.toArray 0 l.length=d at h1 h3
 have e1:(d.extract 0 l.length).toList=d.toList:=by
  have:l.length=d.size:=by rw [h1];simp
  rw [this];simp
 have e2:(l.toArray.extract 0 l.length).toList=l:=by simp
 rwa [e1,e2] at h3
theorem sortU_len (l:List Int):(sortU l).length=l.length:=(sortU_perm l).length_eq
theorem sortU_mem (l:List Int) (x:Int):x∈sortU l↔x∈l:=(sortU_perm l).mem_iff
theorem sortU_up {l:List Int} (hn:l.Nodup):(sortU l).Pairwise (·<·):=by
 have hn2:(sortU l).Nodup:=(sortU_perm l).nodup_iff.2 hn
 obtain ⟨⟨h1,_,_⟩,h4⟩:=Sort.insertionSort_holds (lt:=Sort.ltInt) swo_up l.toArray 0 l.length (Nat.zero_le _) (by simp)
 rw [List.pairwise_iff_getElem]
 intro i j hi hj hij
 have hl:=sortU_len l
 have hs:(Sort.insertionSort Sort.ltInt l.toArray 0 l.length).size=l.length:=by rw [h1];simp
 have h5:=h4 i j (Nat.zero_le _) (by omega) (by omega)
 rw [getElem!_pos _ i (by omega),getElem!_pos _ j (by omega)] at h5
 have h6:(sortU l)[i]≤(sortU l)[j]:=by
  have g:∀ k (hk:k<(sortU l).length),(sortU l)[k]=(Sort.insertionSort Sort.ltInt l.toArray 0 l.length)[k]'(by omega):=fun k hk=>rfl
  rw [g i hi,g j hj]
  simp only [Sort.ltInt,decide_eq_false_iff_not] at h5
  omega
 have h7:=List.pairwise_iff_getElem.1 hn2 i j hi hj hij
 omega
theorem chunks_take (n:Nat) (l:List Int):∀ c,((List.range c).map fun j=>(l.drop (j*n)).take n).flatten=l.take (c*n)
 | 0=>by simp
 | c+1=>by
   rw [List.range_succ,List.map_append,List.flatten_append,chunks_take n l c,Nat.succ_mul,List.take_add];simp
theorem chunks_flat {n:Nat} (hn:0<n) (l:List Int):(chunks n l).flatten=l:=by
 unfold chunks
 rw [chunks_take]
 refine List.take_of_length_le ?_
 rcases Nat.lt_or_ge ((l.length+n-1) / n*n) l.length with h | h
 ·have:=(chunks_lt (k:=l.length) hn (j:=(l.length+n-1) / n)).2 h
  omega
 ·exact h
theorem map_flat_perm (f:List Int→List Int) (hf:∀ l,(f l).Perm l):∀ L:List (List Int),(L.map f).flatten.Perm L.flatten
 | []=>.refl _
 | e::L=>by rw [List.map_cons,List.flatten_cons,List.flatten_cons];exact (hf e).append (map_flat_perm f hf L)
theorem chunk_eq {n:Nat} {l e:List Int} (h:e∈chunks n l):∃ j,e=(l.drop (j*n)).take n:=by
 obtain ⟨j,_,rfl⟩:=List.mem_map.1 h
 exact ⟨j,rfl⟩
theorem chunk_sub {n:Nat} {l e:List Int} (h:e∈chunks n l):e.Sublist l:=by
 obtain ⟨j,rfl⟩:=chunk_eq h
 exact (List.take_sublist _ _).trans (List.drop_sublist _ _)
theorem ofL_perm (ps:List (Int×Int)) (h:Int):(ofL ps h).Perm (idxs ps h):=by
 have hS:Sort.SWO (longer ps):=by
  constructor <;> intros <;> simp_all [longer] <;> omega
 obtain ⟨⟨h1,_,h3⟩,_⟩:=Sort.insertionSort_holds (lt:=longer ps) hS (idxs ps h).toArray 0 (idxs ps h).length (Nat.zero_le _) (by simp)
 unfold ofL
 generalize Sort.insertionSort (longer ps) (idxs ps h).toArray 0 (idxs ps h).length=d at h1 h3
 have e1:(d.extract 0 (idxs ps h).length).toList=d.toList:=by
  have:(idxs ps h).length=d.size:=by rw [h1];simp
  rw [this];simp
 have e2:((idxs ps h).toArray.extract 0 (idxs ps h).length).toList=idxs ps h:=by simp
 rwa [e1,e2] at h3
theorem idxs_mem {ps:List (Int×Int)} {h x:Int}:x∈idxs ps h↔(0≤x∧x<(ps.length:Int))∧(ix ps x).1=h:=by
 unfold idxs wants
 rw [List.mem_map]
 constructor
 ·rintro ⟨i,hi,rfl⟩
  obtain ⟨h1,h2⟩:=List.mem_filter.1 hi
  have h1:=List.mem_range.1 h1
  exact ⟨by omega,of_decide_eq_true h2⟩
 ·rintro ⟨h1,h2⟩
  have e:((x.toNat:Nat):Int)=x:=by omega
  exact ⟨x.toNat,List.mem_filter.2 ⟨List.mem_range.2 (by omega),by rw [e];exact decide_eq_true h2⟩,e⟩
theorem idxs_nodup (ps:List (Int×Int)) (h:Int):(idxs ps h).Nodup:=by
 unfold idxs
 rw [List.nodup_iff_pairwise_ne,List.pairwise_map]
 exact (List.nodup_range.filter _).imp fun h e=>h (by omega)
theorem ofL_mem {ps:List (Int×Int)} {h x:Int}:x∈ofL ps h↔(0≤x∧x<(ps.length:Int))∧(ix ps x).1=h:=by
 rw [(ofL_perm ps h).mem_iff,idxs_mem]
theorem ofL_nodup (ps:List (Int×Int)) (h:Int):(ofL ps h).Nodup:=(ofL_perm ps h).nodup_iff.2 (idxs_nodup ps h)
def turnsOf (n:Nat) (ps:List (Int×Int)) (h:Int):List (List Int):=(chunks n (ofL ps h)).map sortU
def turnsL (n:Nat) (ps:List (Int×Int)) (l:List Int):List (List Int):=(l.map (turnsOf n ps)).flatten
theorem turnsL_cons (n:Nat) (ps:List (Int×Int)) (h:Int) (l:List Int):turnsL n ps (h::l)=turnsOf n ps h++turnsL n ps l:=rfl
theorem turnsOf_len {n:Nat} (hn:0<n) (ps:List (Int×Int)) (h:Int):(turnsOf n ps h).length≤ps.length:=by
 unfold turnsOf
 rw [List.length_map]
 have h1:=chunks_cnt hn (ofL ps h)
 have h2:=idxs_len ps h
 rw [ofL_len] at h1
 omega
theorem mem_turnsL {n:Nat} {ps:List (Int×Int)} {l t:List Int} (h:t∈turnsL n ps l):∃ he∈l,∃ e∈chunks n (ofL ps he),t=sortU e:=by
 obtain ⟨L,hL,ht⟩:=List.mem_flatten.1 h
 obtain ⟨he,h1,rfl⟩:=List.mem_map.1 hL
 obtain ⟨e,h2,rfl⟩:=List.mem_map.1 ht
 exact ⟨he,h1,e,h2,rfl⟩
theorem turnsL_flat {n:Nat} (hn:0<n) (ps:List (Int×Int)):∀ l:List Int,(turnsL n ps l).flatten.Perm (l.map (idxs ps)).flatten
 | []=>.refl _
 | h::l=>by
   rw [turnsL_cons,List.flatten_append,List.map_cons,List.flatten_cons]
   refine .append ?_ (turnsL_flat hn ps l)
   refine (map_flat_perm sortU sortU_perm _).trans ?_
   rw [chunks_flat hn]
   exact ofL_perm ps h
theorem chunk_heat {n:Nat} {ps:List (Int×Int)} {h:Int} {e:List Int} (he:e∈chunks n (ofL ps h)):∀ x∈sortU e,(0≤x∧x<(ps.length:Int))∧(ix ps x).1=h:=fun x hx =>
 ofL_mem.1 (chunk_mem he x ((sortU_mem e x).1 hx))
theorem turn_heat {n:Nat} (hn:0<n) {ps:List (Int×Int)} {h:Int} {e:List Int} (he:e∈chunks n (ofL ps h)):0<(sortU e).length∧heatT ps (sortU e)=h:=by
 have h0:0<(sortU e).length:=by
  rw [sortU_len];exact List.length_pos_iff.2 (chunk_ne hn he)
 exact ⟨h0,(chunk_heat he _ (ix0_mem h0)).2⟩
theorem turnsL_ok {n:Nat} (hn:0<n) {ps:List (Int×Int)} (hp:PsOk ps) (h:Int):TOk n ps [] (turnsL n ps (ordP h ps)):=by
 have hflat:=turnsL_flat hn ps (ordP h ps)
 refine ⟨fun t ht=>?_,fun t ht x hx=>?_,fun t ht=>?_,fun t ht=>?_,fun t ht x hx=>?_,?_,?_⟩
 ·obtain ⟨he,_,e,h2,rfl⟩:=mem_turnsL ht
  exact (turn_heat hn h2).1
 ·obtain ⟨he,_,e,h2,rfl⟩:=mem_turnsL ht
  exact (chunk_heat h2 x hx).1
 ·obtain ⟨he,_,e,h2,rfl⟩:=mem_turnsL ht
  exact sortU_up ((chunk_sub h2).nodup (ofL_nodup ps he))
 ·obtain ⟨he,_,e,h2,rfl⟩:=mem_turnsL ht
  obtain ⟨j,rfl⟩:=chunk_eq h2
  rw [sortU_len,List.length_take];omega
 ·obtain ⟨he,_,e,h2,rfl⟩:=mem_turnsL ht
  rw [(turn_heat hn h2).2];exact (chunk_heat h2 x hx).2
 ·rw [List.nil_append,hflat.nodup_iff]
  refine List.pairwise_flatten.2 ⟨fun l hl=>?_,?_⟩
  ·obtain ⟨he,_,rfl⟩:=List.mem_map.1 hl
   exact idxs_nodup ps he
  ·rw [List.pairwise_map]
   exact (ordP_nodup h ps).imp fun hne x hx y hy e=>hne (by rw [←(idxs_mem.1 hx).2,←(idxs_mem.1 hy).2,e])
 ·rw [List.nil_append,hflat.length_eq]
  have:=pig ((List.range ps.length).map fun (i:Nat)=>(i:Int)) ((ordP h ps).map (idxs ps)).flatten (nodup_cast _) fun x hx=>by
   obtain ⟨i,hi,rfl⟩:=List.mem_map.1 hx
   have hi:=List.mem_range.1 hi
   have hr:0≤(i:Int)∧(i:Int)<(ps.length:Int):=by omega
   exact List.mem_flatten.2 ⟨_,List.mem_map.2 ⟨(ix ps (i:Int)).1,(ordP_mem hp.heat _).2 (List.mem_map.2 ⟨_,ixps_mem hr,rfl⟩),rfl⟩,idxs_mem.2 ⟨hr,rfl⟩⟩
  simpa using this
theorem hourT_set {ps:List (Int×Int)} {t e:List Int} (h:∀ x,x∈t↔x∈e):hourT ps t=hourT ps e:=by
 unfold hourT
 refine maxL_set (fun x=>?_) 0
 rw [List.mem_map,List.mem_map]
 exact ⟨fun ⟨y,hy,e⟩=>⟨y,(h y).1 hy,e⟩,fun ⟨y,hy,e⟩=>⟨y,(h y).2 hy,e⟩⟩
theorem maxL_head {a:Int} {r:List Int} (ha:0≤a) (h:∀ x∈r,x≤a):maxL 0 (a::r)=a:=by
 have s:=maxL_spec (a::r) 0
 refine Int.le_antisymm ?_ (s.2.1 a (by simp))
 rcases s.2.2 with h1 | h1
 ·omega
 ·rcases List.mem_cons.1 h1 with h2 | h2
  ·omega
  ·exact h _ h2
theorem chunk_hour {n:Nat} (hn:0<n) {ps:List (Int×Int)} (hp:hrsOk ps) {h:Int} {e:List Int} (he:e∈chunks n (ofL ps h)):hourT ps (sortU e)=(ix ps (e.headD 0)).2:=by
 rw [hourT_set (sortU_mem e)]
 have hs:(e.map fun x=>(ix ps x).2).Pairwise (fun a b=>b≤a):=by
  have h1:((ofL ps h).map fun x=>(ix ps x).2).Pairwise (fun a b=>b≤a):=by
   rw [ofL_hrs];exact down_sorted fun x hx=>(hrs_in hp h x hx).1
  exact h1.sublist ((chunk_sub he).map _)
 have hne:=chunk_ne hn he
 have hm:=chunk_mem he
 cases e with
 | nil=>exact absurd rfl hne
 | cons a r =>
   have ha:=(ofL_mem.1 (hm a (by simp))).1
   have:=hp _ (ixps_mem ha)
   exact maxL_head this.1 (List.pairwise_cons.1 hs).1
theorem tHours_app (ps:List (Int×Int)) (a b:List (List Int)):tHours ps (a++b)=tHours ps a+tHours ps b:=by
 unfold tHours;rw [List.map_append,List.sum_append]
theorem turnsOf_hours {n:Nat} (hn:0<n) {ps:List (Int×Int)} (hp:hrsOk ps) (h:Int):tHours ps (turnsOf n ps h)=hH n (hrs ps h):=by
 rw [←sum_heads n hn ps h]
 unfold tHours turnsOf
 rw [List.map_map]
 congr 1
 exact List.map_congr_left fun e he=>chunk_hour hn hp he
theorem turnsL_sum {n:Nat} (hn:0<n) {ps:List (Int×Int)} (hp:hrsOk ps):∀ l:List Int,tHours ps (turnsL n ps l)=(l.map fun h=>hH n (hrs ps h)).sum
 | []=>rfl
 | h::l=>by rw [turnsL_cons,tHours_app,turnsOf_hours hn hp,turnsL_sum hn hp l,List.map_cons,List.sum_cons]
theorem sum_filter0 {f:Nat→Int} {p:Nat→Bool}:∀ l:List Nat,(∀ x∈l,p x=false→f x=0)→((l.filter p).map f).sum=(l.map f).sum
 | [],_=>rfl
 | a::l,h=>by
   have ih:=sum_filter0 l fun x hx=>h x (by simp [hx])
   cases hp:p a with
   | true=>rw [List.filter_cons_of_pos hp,List.map_cons,List.map_cons,List.sum_cons,List.sum_cons,ih]
   | false=>rw [List.filter_cons_of_neg (by simp [hp]),List.map_cons,List.sum_cons,ih,h a (by simp) hp,Int.zero_add]
theorem turnsL_hours {n:Nat} (hn:0<n) {ps:List (Int×Int)} (hp:PsOk ps) (h:Int):tHours ps (turnsL n ps (ordP h ps))=hSum n ps 21:=by
 rw [turnsL_sum hn hp.hrs]
 have h1:((upTo (wantL ps) 21).map fun h=>hH n (hrs ps h)).sum=hSum n ps 21:=by
  unfold upTo hSum
  rw [List.map_map]
  refine sum_filter0 _ fun x hx hf=>?_
  have hx:=List.mem_range.1 hx
  have h2:(x:Int) ∉ ps.map (·.1):=fun hm=>by
   obtain ⟨j,_,h3,h4⟩:=mem_upTo.1 ((want_mem hp.heat _).2 hm)
   rw [←h4] at h3
   exact absurd (decide_eq_true h3) (by rw [hf];decide)
  show hH n (hrs ps (x:Int))=0
  have h3:hrs ps (x:Int)=[]:=by
   unfold hrs
   rw [List.map_eq_nil_iff,List.filter_eq_nil_iff]
   intro p hp e
   exact h2 (List.mem_map.2 ⟨p,hp,of_decide_eq_true e⟩)
  rw [h3,hH_nil n hn]
 unfold ordP
 split
 ·rw [←h1]
  exact perm_sum ((List.reverse_perm _).map _)
 ·exact h1
theorem walk_rep (h:Int) (l:List Int):∀ c,walk h (List.replicate c h++l)=walk h l
 | 0=>rfl
 | c+1=>by rw [List.replicate_succ,List.cons_append,walk,walk_rep h l c];omega
theorem turnsL_walk {n:Nat} (hn:0<n) {ps:List (Int×Int)}:∀ (l:List Int) (s:Int),(∀ h∈l,h∈ps.map (·.1))→walk s ((turnsL n ps l).map (heatT ps))=walk s l
 | [],_,_=>rfl
 | h::l,s,hl=>by
   have ih:=turnsL_walk hn l h fun x hx=>hl x (by simp [hx])
   have e1:(turnsOf n ps h).map (heatT ps)=List.replicate (turnsOf n ps h).length h:=by
    rw [List.eq_replicate_iff]
    refine ⟨by simp,fun b hb=>?_⟩
    obtain ⟨t,ht,rfl⟩:=List.mem_map.1 hb
    obtain ⟨e,he,rfl⟩:=List.mem_map.1 ht
    exact (turn_heat hn he).2
   obtain ⟨p,hp,e2⟩:=List.mem_map.1 (hl h (by simp))
   obtain ⟨i,hi,e3⟩:=List.mem_iff_getElem.1 hp
   have hm:(i:Int)∈ofL ps h:=ofL_mem.2 ⟨by omega,by rw [ix_nat hi,e3];exact e2⟩
   have hpos:0<(turnsOf n ps h).length:=by
    unfold turnsOf
    rw [List.length_map]
    rcases Nat.eq_zero_or_pos (chunks n (ofL ps h)).length with h0 | h0
    ·have:=chunks_flat hn (ofL ps h)
     rw [List.eq_nil_of_length_eq_zero h0] at this
     rw [←this] at hm;cases hm
    ·exact h0
   rw [turnsL_cons,List.map_append,e1]
   obtain ⟨c,hc⟩:∃ c,(turnsOf n ps h).length=c+1:=⟨(turnsOf n ps h).length-1,by omega⟩
   rw [hc,List.replicate_succ,List.cons_append,walk,walk_rep,ih,walk]
theorem turnsL_way {n:Nat} (hn:0<n) {ps:List (Int×Int)} (hp:PsOk ps) {h:Int} (hh:0≤h∧h≤20):walk h ((turnsL n ps (ordP h ps)).map (heatT ps))=wayM h (ps.map (·.1)):=by
 rw [turnsL_walk hn _ h fun x hx=>(ordP_mem hp.heat x).1 hx,ordP_way hh hp.heat]
theorem fold37:∀ (L:List (List Int)) (t:List (List Int)),(∀ e∈L,0<e.length∧e.length≤12)→t.length+L.length≤1000→foldO x37_r1 L t=some (t++L.map sortU)
 | [],t,_,_=>by simp [foldO]
 | e::L,t,h,hl=>by
   have h1:=h e (by simp)
   rw [List.length_cons] at hl
   have e1:x37_r1 t e=some (t++[sortU e]):=by
    have e77:x77 e=some (sortU e):=if_pos h1
    have et:t.take (t.length:Int).toNat=t:=by rw [Int.toNat_natCast,List.take_length]
    rw [x37_r1,gd_pos ⟨rfl,by omega,Int.le_refl _⟩,et]
    show (x78 e).bind _=_
    rw [x78,Option.bind_some,e77,Option.bind_some,gd_pos ⟨by decide,by omega⟩]
   rw [foldO,e1,Option.bind_some,fold37 L _ (fun e he=>h e (by simp [he])) (by rw [List.length_append];simp;omega),List.append_assoc];rfl
theorem x37_l1_eq {p1:Bench} {ps:List (Int×Int)} (hp1:p1.2.1=ps) (hp:ps.length≤12) (hn:1≤p1.2.2.1.length∧p1.2.2.1.length≤10) {r2:List Int} (hr:r2.length≤21) {k:List (List Int)→Option (List (List Int)×Int)}:∀ (m i:Nat) (z:Int) (s:List (List Int)),z=i→i≤r2.length→r2.length-i<m→s.length≤12*i→x37_l1 p1 r2 k m z s=k (s++turnsL p1.2.2.1.length ps (r2.drop i))
 | 0,i,_,_,_,_,h,_=>absurd h (by omega)
 | m+1,i,_,s,rfl,hi,hm,hs=>by
   rw [x37_l1]
   by_cases h:i<r2.length
   ·have h1:=turnsOf_len (n:=p1.2.2.1.length) (by omega) ps r2[i]
    have hol:(ofL ps r2[i]).length≤ps.length:=by rw [ofL_len];exact idxs_len ps _
    have hcl:(chunks p1.2.2.1.length (ofL ps r2[i])).length≤ps.length:=by unfold turnsOf at h1;rwa [List.length_map] at h1
    have e1:x76 p1 r2[i]=some (ofL ps r2[i]):=by rw [x76,hp1,if_pos (by omega)]
    have e2:x75 (ofL ps r2[i]) (p1.2.2.1.length:Int)=some ():=if_neg (by rw [decide_eq_true_eq];omega)
    have e3:s98 (ofL ps r2[i]) (p1.2.2.1.length:Int)=some (chunks p1.2.2.1.length (ofL ps r2[i])):=by
     unfold s98;rw [if_pos ⟨by omega,by omega,by omega⟩,Int.toNat_natCast]
    have e4:=fold37 (chunks p1.2.2.1.length (ofL ps r2[i])) s (fun e he=>⟨List.length_pos_iff.2 (chunk_ne (by omega) he),by have:=(chunk_sub he).length_le;omega⟩) (by omega)
    rw [iflt h,gdi h,ix_nat h,e1,Option.bind_some,e2,Option.bind_some,e3,Option.bind_some,e4,Option.bind_some,w_succ i (by omega)]
    have ih:=x37_l1_eq hp1 hp hn hr (k:=k) m (i+1) _ (s++turnsOf p1.2.2.1.length ps r2[i]) rfl (by omega) (by omega) (by rw [List.length_append];omega)
    rw [List.drop_eq_getElem_cons h,turnsL_cons,←List.append_assoc]
    exact ih
   ·obtain rfl:i=r2.length:=by omega
    rw [ifge h,List.drop_length]
    show k s=k (s++[])
    rw [List.append_nil]
def bestT (b:Bed) (ps:List (Int×Int)):List (List Int):=turnsL (wn b) ps (ordP b.2.2.1 ps)
theorem x37_eq {b:Bed} (hb:bErr b=0) (hl:b.2.1.length≤20) {ps:List (Int×Int)} (hp:PsOk ps):x37 b ps=some (bestT b ps,0):=by
 have hB:=bedOk hb
 have hw:=wn_pos hB
 have h1:=ordP_len b.2.2.1 ps
 have:=x37_l1_eq (p1:=(b,ps,wholeL b.1.toNat b.2.1,wantL ps)) rfl hp.len hw h1 (k:=fun z1=>some (z1,(0:Int))) FU 0 0 [] rfl (Nat.zero_le _) (FU_lt (by omega)) (by simp)
 rw [List.drop_zero,List.nil_append] at this
 rw [x37,x69_eq hb hl hp,Option.bind_some]
 show (if (decide ((0:Int)≠(0:Int)))=true then _ else _)=_
 rw [if_neg (by decide),x74_eq hp.heat,Option.bind_some]
 exact this
theorem x25_l1_eq {l:List (List Int)} (hl:l.length≤1000) (ht:∀ t∈l,t.length≤1000000000000000) {k:Int→Option Bool}:∀ (m i:Nat) (z:Int) (s:Nat),z=i→i≤l.length→l.length-i<m→s≤1000000000000000*i→x25_l1 l k m (s:Int) z=k (((s+((l.drop i).map List.length).sum:Nat)):Int)
 | 0,i,_,_,_,_,h,_=>absurd h (by omega)
 | m+1,i,_,s,rfl,hi,hm,hs=>by
   rw [x25_l1]
   by_cases h:i<l.length
   ·have h1:=ht _ (List.getElem_mem h)
    have e:w ((s:Int)+(l[i].length:Int))=((s+l[i].length:Nat):Int):=by rw [w_id (by omega)];omega
    rw [iflt h,gdi h,ix_nat h,e,w_succ i (by omega),x25_l1_eq hl ht m (i+1) _ _ rfl (by omega) (by omega) (by omega),List.drop_eq_getElem_cons h,List.map_cons,List.sum_cons,Nat.add_assoc]
   ·rw [ifge h,List.drop_eq_nil_of_le (by omega)]
    show k (s:Int)=k ((s+0:Nat):Int)
    rfl
theorem x25_eq {l:List (List Int)} (ht:∀ t∈l,t.length≤1000000000000000):x25 l=some (decide (20<l.length) || decide (40<(l.map List.length).sum)):=by
 rw [x25]
 by_cases h:20<l.length
 ·rw [if_pos (decide_eq_true (by omega)),decide_eq_true h];rfl
 ·rw [if_neg (by rw [decide_eq_true_eq];omega),decide_eq_false h,Bool.false_or]
  have:=x25_l1_eq (l:=l) (by omega) ht (k:=fun z1=>some (decide ((40:Int)<z1))) FU 0 0 0 rfl (Nat.zero_le _) (FU_lt (by omega)) (by omega)
  rw [List.drop_zero,Nat.zero_add] at this
  refine this.trans ?_
  congr 1
  rw [Bool.eq_iff_iff,decide_eq_true_eq,decide_eq_true_eq];omega
theorem len_flat:∀ L:List (List Int),L.flatten.length=(L.map List.length).sum
 | []=>rfl
 | e::L=>by rw [List.flatten_cons,List.length_append,len_flat L,List.map_cons,List.sum_cons]
theorem cnt_flat:∀ L:List (List Int),(∀ t∈L,0<t.length)→L.length≤L.flatten.length
 | [],_=>Nat.le_refl _
 | e::L,h=>by
   have h1:=(List.forall_mem_cons.1 h).1
   have h2:=cnt_flat L (List.forall_mem_cons.1 h).2
   rw [List.flatten_cons,List.length_append,List.length_cons];omega
theorem len_of_flat {L:List (List Int)} {t:List Int} (h:t∈L):t.length≤L.flatten.length:=by
 rw [len_flat]
 induction L with
 | nil=>cases h
 | cons e L ih =>
   rw [List.map_cons,List.sum_cons]
   rcases List.mem_cons.1 h with rfl | h
   ·omega
   ·have:=ih h;omega
theorem TOk.flat {n:Nat} {ps:List (Int×Int)} {ts:List (List Int)} (h:TOk n ps [] ts):ts.flatten.length=ps.length:=by
 have h1:=h.all
 have h2:=h.nd
 rw [List.nil_append] at h1 h2
 refine Nat.le_antisymm ?_ h1
 have:=pig ts.flatten ((List.range ps.length).map fun (i:Nat)=>(i:Int)) h2 fun x hx=>by
  obtain ⟨t,ht,hxt⟩:=List.mem_flatten.1 hx
  have:=h.rng t ht x hxt
  exact List.mem_map.2 ⟨x.toNat,List.mem_range.2 (by omega),by omega⟩
 simpa using this
theorem TOk.cnt {n:Nat} {ps:List (Int×Int)} {ts:List (List Int)} (h:TOk n ps [] ts):ts.length≤ps.length:=by
 have:=cnt_flat ts h.ne;rw [h.flat] at this;exact this
theorem TOk.one {n:Nat} {ps:List (Int×Int)} {ts:List (List Int)} (h:TOk n ps [] ts):∀ t∈ts,t.length≤ps.length:=fun t ht=>by
 have:=len_of_flat ht;rw [h.flat] at this;exact this
theorem bestT_ok {b:Bed} (hb:bErr b=0) {ps:List (Int×Int)} (hp:PsOk ps):TOk (wn b) ps [] (bestT b ps):=turnsL_ok (by have:=wn_pos (bedOk hb);omega) hp _
theorem x25_short {n:Nat} {ps:List (Int×Int)} (hp:ps.length≤12) {ts:List (List Int)} (h:TOk n ps [] ts):x25 ts=some false:=by
 have h1:=h.flat
 have h2:=h.cnt
 rw [x25_eq fun t ht=>by have:=h.one t ht;omega,←len_flat,h1,decide_eq_false (by omega),decide_eq_false (by omega)];rfl
theorem tAns_best {b:Bed} (hb:bErr b=0) {ps:List (Int×Int)} (hp:PsOk ps):tAns b ps (bestT b ps)=(hSum (wn b) ps 21,wayM b.2.2.1 (ps.map (·.1)),0):=by
 have hB:=bedOk hb
 have hw:=wn_pos hB
 have hT:=(tErr_iff _ [] nil_nodup).2 (bestT_ok hb hp)
 unfold tAns
 rw [if_pos (eB_of hb hp),if_pos hT]
 unfold bestT
 rw [turnsL_hours (by omega) hp,turnsL_way (by omega) hp hB.h0]
theorem x46_eq {b:Bed} {ps:List (Int×Int)} (hf:FineOk b ps):x46 b ps=some (hSum (wn b) ps 21,wayM b.2.2.1 (ps.map (·.1)),bestT b ps,true):=by
 obtain ⟨hl,hb,hp⟩:=hf
 have hpl:=hp.len
 have hO:=bestT_ok hb hp
 have h1:(bestT b ps).length≤1000:=by have:=hO.cnt;omega
 have h2:∀ t∈bestT b ps,t.length≤9223372036854775807:=fun t ht=>by have:=hO.one t ht;omega
 rw [x46,x33_eq hb hl hp,Option.bind_some,x35_eq hb hl hp,Option.bind_some,x37_eq hb hl hp,Option.bind_some]
 simp only [ne_eq,not_true_eq_false,decide_false,Bool.false_eq_true,if_false]
 rw [x25_short hpl hO,Option.bind_some,if_neg (by decide),x26_eq hl h1 h2,Option.bind_some,x27_eq hl h1 h2,Option.bind_some,tAns_best hb hp]
 simp only [decide_true,if_true]

end Go.Proofs.YtbnbjjgagikobaaGreat.Ab


namespace Go.Proofs.YtbnbjjgagikobaaGreat.Ab
open Go
set_option maxRecDepth 20000
set_option maxHeartbeats 4000000

end Go.Proofs.YtbnbjjgagikobaaGreat.Ab


namespace Go.Proofs.YtbnbjjgagikobaaGreat.Ab
open Go
set_option maxRecDepth 20000
set_option maxHeartbeats 4000000

abbrev hts (ps:List (Int×Int)):List Int:=ps.map (·.1)

end Go.Proofs.YtbnbjjgagikobaaGreat.Ab


namespace Go.Proofs.YtbnbjjgagikobaaGreat.Ab
open Go
set_option maxRecDepth 20000
set_option maxHeartbeats 4000000
def ann47b:FAnn:={ ops:=[[{ takes:=[true],mode:=1 }],[{ mode:=2 }],[],[{},{},{ takes:=[true] },{ takes:=[true,true] }],[{ takes:=[true] },{ takes:=[true] },{ takes:=[true] }],[{},{ takes:=[true] },{ takes:=[true] }],[{},{ takes:=[true] },{ takes:=[true] }],[{},{},{},{ takes:=[true] },{ takes:=[true,true] },{ takes:=[true,true] },{ takes:=[true] },{ takes:=[true] },{ takes:=[true] }],[{},{ takes:=[true] }],[],[{},{},{ takes:=[true,true] }],[{ takes:=[true] },{ takes:=[true] },{ takes:=[true] }],[{},{},{ takes:=[true,true] },{},{ takes:=[true,true] },{},{ takes:=[true,true] },{ takes:=[true] }],[{},{},{ takes:=[true,true] },{ takes:=[true] },{},{ takes:=[true] },{ takes:=[true] },{ takes:=[false,true] },{ takes:=[true] },{},{},{},{ takes:=[true,true] },{ takes:=[true] },{ takes:=[true] },{ takes:=[true] },{ takes:=[true,true] },{ takes:=[true] },{ takes:=[true] },{},{},{ takes:=[true,true] },{ takes:=[true] },{ takes:=[true] },{ takes:=[true,true] },{ takes:=[false,true] },{ takes:=[true] },{},{},{ takes:=[true,true] },{ takes:=[true] },{ takes:=[true] },{ mode:=3 },{ mode:=3 },{ takes:=[true] },{ takes:=[true,true] },{ takes:=[false,true] }],[{ takes:=[true] },{ takes:=[true] }],[{},{ takes:=[true] },{ takes:=[true,true] }],[{ takes:=[true] },{},{ takes:=[true,true],mode:=1 },{ takes:=[true] }],[{},{},{},{ takes:=[true] },{ takes:=[true,true] },{ takes:=[true],mode:=1 },{},{ takes:=[true] },{ takes:=[true,true] },{ takes:=[true,true] },{ takes:=[true,true] }],[{ takes:=[true],mode:=2 },{ takes:=[true] }]],keepL:=[(0,[false,true,true,true,false,false,false,true,true,false,false,false,false,false,false,false,false,false,false,false,false,false,false,false,false,false,false,false,false,false,false,false,false,false,false,false,false,false,false,false,false,false,false,false,false,false,false,false,false,false,false,false,false,false,false,false,false,false,false,false,false,false,false,false,false,false,false,false,false,false,false,false,false,false,false,false,false,false,false,false,false,false,false,false,false,false,false,false,false,false,false,false,false,false,false,false,false,false,false,false,false]),(2,[false,true,true,true,false,false,false,true,true,true,true,true,true,false,false,false,false,false,false,false,false,false,false,false,false,false,false,false,false,false,false,false,false,false,false,false,false,false,false,false,false,false,false,false,false,false,false,false,false,false,false,false,false,false,false,false,false,false,false,false,false,false,false,false,false,false,false,false,false,false,false,false,false,false,false,false,false,false,false,false,false,false,false,false,false,false,false,false,false,false,false,false,false,false,false,false,false,false,false,false,false])] }
noncomputable def rg47_1:RC :=
 .reg false [I_ 25 [.sl 2] .mv,I_ 26 [.sl 8] .mv,I_ 27 [.sl 2] .mv,I_ 28 [.tk 27] .lenS,I_ 29 [.tv 26,.tv 28] (.bin .rem),I_ 30 [.tv 25,.tv 29] (.ia 1),I_ 31 [.tv 30] (.ld .one),I_ 32 [.tv 31] (.conv .i64),I_ 10 [.tk 32]
 .mv]
noncomputable def rg47_2:RC :=
 .seq (.reg true [I_ 46 [.sl 11] .mv,I_ 47 [.sl 9] .mv,I_ 48 [.tv 46,.tv 47] (.bin .eql),I_ 49 [.tk 48] .mv,⟨some 50,[.sl 10],some (49,true),none,.mv⟩,⟨some 51,[.tv 50,.cv (.int .i64 7)],some (49,true),none,.bin
 .rem⟩,⟨some 52,[.tv 51,.cv (.int .i64 0)],some (49,true),none,.bin .gtr⟩,I_ 53 [.sl 49,.tv 52,.cv (.bool false)] .pick,I_ 54 [.tk 53] .mv,⟨some 55,[.sl 1],some (54,true),none,.mv⟩,⟨some 56,[.sl 7],some (54,
 true),none,.mv⟩,⟨some 57,[.sl 13],some (54,true),none,.mv⟩,⟨some 58,[.tv 56,.tv 57],some (54,true),none,.ia 1⟩,⟨some 59,[.tv 58],some (54,true),none,.ld .one⟩,⟨some 60,[.tv 59,.cv (.int .i64 0)],some
 (54,true),none,.ia 1⟩,⟨some 61,[.tv 60],some (54,true),none,.ld .one⟩,⟨some 62,[.tv 55,.tv 61],some (54,true),none,.ia 2⟩,⟨some 63,[.tv 62],some (54,true),none,.fa 0⟩,⟨some 64,[.tv 63],some (54,true),
 none,.ld .one⟩,⟨some 65,[.sl 1],some (54,true),none,.mv⟩,⟨some 66,[.sl 8],some (54,true),none,.mv⟩,⟨some 67,[.tv 65,.tv 66],some (54,true),none,.ia 2⟩,⟨some 68,[.tv 67],some (54,true),none,.fa 0⟩,
 ⟨some 69,[.tv 68],some (54,true),none,.ld .one⟩,⟨some 70,[.tv 64,.tv 69],some (54,true),none,.bin .eql⟩,I_ 71 [.sl 54,.tv 70,.cv (.bool false)] .pick,I_ 72 [.tk 71] .mv,⟨some 73,[.sl 7],some (72,true),none,
 .mv⟩,⟨some 74,[.sl 13],some (72,true),none,.mv⟩,⟨some 75,[.tv 73,.tv 74],some (72,true),none,.ia 1⟩,⟨some 76,[.tv 75],some (72,true),none,.ld .one⟩,⟨some 77,[.tk 76],some (72,true),none,.lenS⟩,⟨some
 78,[.sl 3],some (72,true),none,.ldF (.str 4)⟩,⟨some 79,[.cv (.func 51 [] []),.sl 78],some (72,true),none,.call 3⟩,⟨some 80,[.tk 79],some (72,true),none,.lenS⟩,⟨some 81,[.tv 77,.tv 80],some (72,true),
 none,.bin .lss⟩,I_ 82 [.sl 72,.tv 81,.cv (.bool false)] .pick]) (.cond (.sl 82) (.reg false [I_ 83 [.tk 13] .mv,I_ 11 [.tk 83] .mv]) .skip)
noncomputable def rg47_3:RC :=
 .block 3 (.seq (.reg false [I_ 39 [.sl 10] .mv,I_ 40 [.sl 9] .mv,I_ 41 [.tv 39,.tv 40] (.bin .rem),I_ 42 [.sl 12] .mv,I_ 43 [.tv 41,.tv 42] (.bin .add),I_ 44 [.sl 9] .mv,I_ 45 [.tv 43,.tv 44] (.bin .rem),I_ 13 [.tk 45]
 .mv]) rg47_2)
noncomputable def rg47_4:RC :=
 .seq (.seq (.reg false [I_ 34 [.sl 12] .mv,I_ 35 [.sl 9] .mv,I_ 36 [.tv 34,.tv 35] (.bin .lss)]) (.cond (.sl 36) .skip (.exit 2))) (.seq rg47_3 (.reg false [I_ 37 [.tk 12] .mv,I_ 38 [.tv 37,.cv (.int .i64 1)] (.bin .add),I_
 12 [.tk 38] .mv]))
noncomputable def rg47_5:RC :=
 .reg false [I_ 87 [.tk 7] .mv,I_ 88 [.cv (.lst [] 0 .full)] (.buildS 1 1 [.lst [] 0 .full] [0]),I_ 89 [.tk 87,.tk 88] (.appG 1 24),I_ 7 [.tk 89] .mv]
noncomputable def rg47_6:RC :=
 .reg false [I_ 90 [.sl 7] .mv,I_ 91 [.sl 11] .mv,I_ 92 [.sl 7] .mv,I_ 93 [.tk 11] .mv,I_ 94 [.tv 92,.tv 93] (.ia 1),I_ 95 [.tv 94] .take,I_ 96 [.sl 8] .mv,I_ 97 [.tv 96] (.buildS 1 1 [.int .i64 0] [0]),I_ 98 [.tk 95,.tk
 97] (.app 1 8),I_ 99 [.tv 90,.tv 91] (.ia 1),⟨none,[.tk 99,.tk 98],none,none,.st 1⟩]
noncomputable def rg47_I:RC :=
 .loop (some [false,true,true,true,false,false,false,true,true,true,true,true,true,false,false,false,false,false,false,false,false,false,
 false,false,false,false,false,false,false,false,false,false,false,false,false,false,false,false,false,false,false,false,false,false,false,false,false,false,false,false,false,false,false,false,
 false,false,false,false,false,false,false,false,false,false,false,false,false,false,false,false,false,false,false,false,false,false,false,false,false,false,false,false,false,false,false,false,
 false,false,false,false,false,false,false,false,false,false,false,false,false,false,false]) rg47_4
noncomputable def rg47_7:RC :=
 .seq (.seq (.reg false [I_ 12 [.cv (.int .i64 0)] .mv]) (.block 2 rg47_I)) (.seq (.seq (.reg false [I_ 84 [.sl 11] .mv,I_ 85 [.tk 9] .mv,I_ 86 [.tv 84,.tv 85] (.bin .eql)]) (.cond
 (.sl 86) rg47_5 .skip)) rg47_6)
noncomputable def rg47_8:RC :=
 .seq (.seq (.reg false [I_ 22 [.sl 2] .mv,I_ 23 [.tk 22] .lenS,I_ 24 [.tv 23,.cv (.int .i64 0)] (.bin .gtr)]) (.cond (.sl 24) rg47_1 .skip)) (.seq (.reg false [I_ 33 [.sl 9] .mv,I_ 11 [.tk 33] .mv]) rg47_7)
noncomputable def rg47_9:RC :=
 .block 1 (.seq (.reg false [I_ 20 [.sl 7] .mv,I_ 21 [.tk 20] .lenS,I_ 9 [.tk 21] .mv,I_ 10 [.cv (.int .i64 0)] .mv]) rg47_8)
noncomputable def rg47_10:RC :=
 .seq (.seq (.reg false [I_ 14 [.sl 8] .mv,I_ 15 [.sl 1] .mv,I_ 16 [.tk 15] .lenS,I_ 17 [.tv 14,.tv 16] (.bin .lss)]) (.cond (.sl 17) .skip (.exit 0))) (.seq rg47_9 (.reg false [I_ 18 [.tk 8] .mv,I_ 19 [.tv 18,.cv (.int .i64
 1)] (.bin .add),I_ 8 [.tk 19] .mv]))
noncomputable def rg47_O:RC :=
 .loop (some [false,true,true,true,false,false,false,true,true,false,false,false,false,false,false,false,false,false,false,false,false,false,false,false,false,false,false,false,false,
 false,false,false,false,false,false,false,false,false,false,false,false,false,false,false,false,false,false,false,false,false,false,false,false,false,false,false,false,false,false,false,false,
 false,false,false,false,false,false,false,false,false,false,false,false,false,false,false,false,false,false,false,false,false,false,false,false,false,false,false,false,false,false,false,false,
 false,false,false,false,false,false,false,false]) rg47_10
noncomputable def rg47_11:RC :=
 .seq (.reg false [I_ 7 [.cv (.lst [] 0 .full)] (.other (Oper.mk (some 7) (Op.assign (Operand.const (Value.slice none 0 0))) 34 "outright.go:16" (Array.mk []) none) 2)]) (.seq (.seq (.reg false [I_ 8 [.cv (.int .i64 0)] .mv])
 (.block 0 rg47_O)) (.seq (.reg false [⟨some 100, [.tk 7], none, some 7, .other (Oper.mk (some 100) (Op.move (Operand.tmp 7)) 34 "outright.go:34" (Array.mk []) none) 2⟩, I_ 6 [.tk
 100] .mv]) .ret))
noncomputable def rg47:RC :=
 .seq (.reg false [I_ 3 [.tk 0] .boxF,I_ 6 [.cv (.lst [] 0 .full)] (.nil 1)]) rg47_11
theorem lg47:linkF Tryz.prog ann47b 47=some (rg47,101,[.tmp 6]):=by kernel_rfl
abbrev ownI (l:List Int):AV:=.lst (l.map I) l.length (.own 1)
def fit47 (ps:List (Int×Int)) (wn i:Nat) (out:List (List Int)) (f one:Nat):Bool :=
 decide (0<f % 7) && decide ((ix ps (ix (ix out (one:Int)) 0)).1=(ix ps (i:Int)).1) && decide ((ix out (one:Int)).length<wn)
def pickG (P:Nat→Bool) (n f:Nat):Nat→Nat
 | 0=>n
 | k+1=>if pickG P n f k=n∧P ((f % n+k) % n)=true then (f % n+k) % n else pickG P n f k
theorem pickG_le (P:Nat→Bool) {n f:Nat} (hn:0<n):∀ k,pickG P n f k≤n
 | 0=>Nat.le_refl _
 | k+1=>by
   rw [pickG];split
   ·exact Nat.le_of_lt (Nat.mod_lt _ hn)
   ·exact pickG_le P hn k
def GOk (np:Nat) (out:List (List Int)):Prop:=∀ l∈out,0<l.length∧l.length≤1000∧∀ x∈l,0≤x∧x<(np:Int)
theorem GOk.at {np:Nat} {out:List (List Int)} (h:GOk np out) {k:Nat} (hk:k<out.length):0<(ix out (k:Int)).length∧(ix out (k:Int)).length≤1000∧∀ x∈ix out (k:Int),0≤x∧x<(np:Int):=by
 rw [ix_nat hk];exact h _ (List.getElem_mem _)
theorem get_grow (X:List AObj) (a:AObj):(X++[a,.dead])[X.length]?=some a:=by simp
theorem set_grow (X:List AObj) (a a':AObj):(X++[a,.dead]).set X.length a'=X++[a',.dead]:=by simp
theorem pick47 {ps:List (Int×Int)} {nb:List Int} {b:Bed} {out:List (List Int)} {X:List AObj} {i f:Nat} {wl:List Int} (hw:x51 b=some wl) (hps:ps.length≤1000) (hf:f≤255) (hi:i<ps.length) (hn:0<out.length) (hn2:out.length≤1000) (ho:GOk ps.length out) (hwl:wl.length≤1000)
  {Q:Ex→List AV→List AObj→Prop} (hk:Q (.exit 2) (slots 101 [(1,(.lst (ps.flatMap pr) ps.length .shared)),(2,(.lst (nb.map U8) nb.length .shared)),(3,(.lptr [I b.1,.lst (b.2.1.map I) b.2.1.length .shared,I b.2.2.1,I b.2.2.2])),(7,(.gref X.length (X.length+1) out.length 1)),(8,I (i:Int)),(9,I (out.length:Int)),(10,I (f:Int)),(11,I ((pickG (fit47 ps wl.length i out f) out.length f out.length:Nat):Int)),(12,I (out.length:Int)),(36,B (decide ((out.length:Int)<(out.length:Int))))]) (X++[AObj.grow (out.map ownI) (X.length+1) 1,.dead]))
  {T:List AV} (hT:zipKeep [false,true,true,true,false,false,false,true,true,true,true,true,true,false,false,false,false,false,false,false,false,false,false,false,false,false,false,false,false,false,false,false,false,false,false,false,false,false,false,false,false,false,false,false,false,false,false,false,false,false,false,false,false,false,false,false,false,false,false,false,false,false,false,false,false,false,false,false,false,false,false,false,false,false,false,false,false,false,false,false,false,false,false,false,false,false,false,false,false,false,false,false,false,false,false,false,false,false,false,false,false] T=slots 101 [(1,(.lst (ps.flatMap pr) ps.length .shared)),(2,(.lst (nb.map U8) nb.length .shared)),(3,(.lptr [I b.1,.lst (b.2.1.map I) b.2.1.length .shared,I b.2.2.1,I b.2.2.2])),(7,(.gref X.length (X.length+1) out.length 1)),(8,I (i:Int)),(9,I (out.length:Int)),(10,I (f:Int)),(11,I (out.length:Int)),(12,I 0)]) :
  wpR Tryz.prog ann47b 47 0 none rg47_I T (X++[AObj.grow (out.map ownI) (X.length+1) 1,.dead]) Q:=by
 unfold rg47_I
 refine wp_loop hT ?_
 refine .intro (fun m T H=>∃ k:Nat,k≤out.length∧m=out.length-k∧T=slots 101 [(1,(.lst (ps.flatMap pr) ps.length .shared)),(2,(.lst (nb.map U8) nb.length .shared)),(3,(.lptr [I b.1,.lst (b.2.1.map I) b.2.1.length .shared,I b.2.2.1,I b.2.2.2])),(7,(.gref X.length (X.length+1) out.length 1)),(8,I (i:Int)),(9,I (out.length:Int)),(10,I (f:Int)),(11,I ((pickG (fit47 ps wl.length i out f) out.length f k:Nat):Int)),(12,I (k:Int))]∧H=(X++[AObj.grow (out.map ownI) (X.length+1) 1,.dead])) out.length ⟨0,Nat.zero_le _,rfl,rfl,rfl⟩ ?_
 clear hT
 rintro m T H ⟨k,hk',rfl,rfl,rfl⟩
 obtain ⟨c3,g3⟩:∃ c,rg47_3=c:=⟨_,rfl⟩
 unfold rg47_4
 rw [g3]
 conv=>whnf
 refine dcase (fun hc=>?_) (fun hc=>?_)
 ·have hlt:k<out.length:=by omega
  have hn0:(out.length:Int)≠0:=by omega
  obtain ⟨c2,g2⟩:∃ c,rg47_2=c:=⟨_,rfl⟩
  subst g3
  unfold rg47_3
  rw [g2]
  conv=>whnf
  refine ⟨hn0,?_⟩
  conv=>whnf
  refine ⟨hn0,?_⟩
  conv=>whnf
  have e1:(IntKind.i64.wrap ((f:Int).tmod (out.length:Int)+(k:Int))).tmod (out.length:Int)=(((f % out.length+k) % out.length:Nat):Int):=by
   have h1:(f:Int).tmod (out.length:Int)=((f % out.length:Nat):Int):=(Int.ofNat_tmod f out.length).symm
   have h2:=Nat.mod_lt f hn
   rw [h1,wrapI _ (by omega) (by omega),←Int.natCast_add,←Int.ofNat_tmod]
  rw [e1]
  obtain ⟨one,hone⟩:∃ one,one=(f % out.length+k) % out.length:=⟨_,rfl⟩
  have h1:one<out.length:=by rw [hone];exact Nat.mod_lt _ hn
  have hp:pickG (fit47 ps wl.length i out f) out.length f (k+1)=if pickG (fit47 ps wl.length i out f) out.length f k=out.length∧fit47 ps wl.length i out f one=true then one else pickG (fit47 ps wl.length i out f) out.length f k:=by rw [hone];rfl
  rw [←hone]
  subst g2
  unfold rg47_2
  conv=>whnf
  have hb1:0≤(one:Int)∧(one:Int)<(out.length:Int):=by omega
  obtain ⟨ha,hb,hcc⟩:=ho.at h1
  have h0:0≤(0:Int)∧(0:Int)<((ix out (one:Int)).length:Int):=by omega
  have hx:=hcc _ (ix_mem h0)
  have hxi:0≤(i:Int)∧(i:Int)<(ps.length:Int):=by omega
  rcases bt (decide (((pickG (fit47 ps wl.length i out f) out.length f k:Nat):Int)=(out.length:Int))) with hd | hd
  ·rw [hd]
   conv=>whnf
   have hd':pickG (fit47 ps wl.length i out f) out.length f k=out.length:=by have:=of_decide_eq_true hd;omega
   refine ⟨by decide,?_⟩
   conv=>whnf
   rcases bt (decide (0<(f:Int).tmod 7)) with hd2 | hd2
   ·rw [hd2]
    conv=>whnf
    have hd2':0<f % 7:=by have:=of_decide_eq_true hd2;rw [show (7:Int)=((7:Nat):Int) from rfl,←Int.ofNat_tmod] at this;omega
    refine ⟨hb1,?_⟩
    conv=>whnf
    refine nthK_of (get_grow X _) ?_
    conv=>whnf
    refine rdD ownI out (one:Int) hb1 ?_
    conv=>whnf
    refine ⟨h0,?_⟩
    rw [drop1 I (ix out (one:Int)) 0 h0]
    conv=>whnf
    refine ⟨hx,?_⟩
    rw [dropS pr 2 pr_len ps (ix (ix out (one:Int)) 0) hx]
    conv=>whnf
    refine ⟨hxi,?_⟩
    rw [dropS pr 2 pr_len ps (i:Int) hxi]
    conv=>whnf
    rcases bt (decide ((ix ps (ix (ix out (one:Int)) 0)).1=(ix ps (i:Int)).1)) with hd3 | hd3
    ·rw [hd3]
     conv=>whnf
     refine ⟨hb1,?_⟩
     conv=>whnf
     refine nthK_of (get_grow X _) ?_
     conv=>whnf
     refine rdD ownI out (one:Int) hb1 ?_
     conv=>whnf
     refine ⟨(allc (pu_agg (allc rfl (allc (pu_map (fun _=>rfl) _ _ _) (allc rfl (allc rfl rfl))))) rfl),_,x51_ok hw,acc0,?_⟩
     conv=>whnf
     rcases bt (decide (((ix out (one:Int)).length:Int)<(wl.length:Int))) with hd4 | hd4
     ·rw [hd4]
      conv=>whnf
      have hfit:fit47 ps wl.length i out f one=true:=by
       unfold fit47;rw [decide_eq_true hd2',hd3,decide_eq_true (show (ix out (one:Int)).length<wl.length by have:=of_decide_eq_true hd4;omega)];rfl
      exact ⟨out.length-(k+1),by omega,k+1,by omega,rfl,by rw [hp,if_pos ⟨hd',hfit⟩,←wrapS k (by omega)];rfl,rfl⟩
     ·rw [hd4]
      conv=>whnf
      have hfit:fit47 ps wl.length i out f one=false:=by
       unfold fit47;rw [decide_eq_false (show ¬ (ix out (one:Int)).length<wl.length by have:=of_decide_eq_false hd4;omega),Bool.and_false]
      exact ⟨out.length-(k+1),by omega,k+1,by omega,rfl,by rw [hp,if_neg (fun hh=>by rw [hfit] at hh;exact absurd hh.2 (by decide)),←wrapS k (by omega)];rfl,rfl⟩
    ·rw [hd3]
     conv=>whnf
     have hfit:fit47 ps wl.length i out f one=false:=by
      unfold fit47;rw [hd3,Bool.and_false,Bool.false_and]
     exact ⟨out.length-(k+1),by omega,k+1,by omega,rfl,by rw [hp,if_neg (fun hh=>by rw [hfit] at hh;exact absurd hh.2 (by decide)),←wrapS k (by omega)];rfl,rfl⟩
   ·rw [hd2]
    conv=>whnf
    have hfit:fit47 ps wl.length i out f one=false:=by
     unfold fit47;rw [decide_eq_false (show ¬ 0<f % 7 by have:=of_decide_eq_false hd2;rw [show (7:Int)=((7:Nat):Int) from rfl,←Int.ofNat_tmod] at this;omega),Bool.false_and,Bool.false_and]
    exact ⟨out.length-(k+1),by omega,k+1,by omega,rfl,by rw [hp,if_neg (fun hh=>by rw [hfit] at hh;exact absurd hh.2 (by decide)),←wrapS k (by omega)];rfl,rfl⟩
  ·rw [hd]
   conv=>whnf
   exact ⟨out.length-(k+1),by omega,k+1,by omega,rfl,by rw [hp,if_neg (fun hh=>by have:=of_decide_eq_false hd;omega),←wrapS k (by omega)];rfl,rfl⟩
 ·obtain rfl:k=out.length:=by omega
  conv=>whnf
  exact hk
def gSt (ps:List (Int×Int)) (wn:Nat) (out:List (List Int)) (f i:Nat):List (List Int) :=
 if pickG (fit47 ps wn i out f) out.length f out.length=out.length then out++[[(i:Int)]] else out.set (pickG (fit47 ps wn i out f) out.length f out.length) (ix out (pickG (fit47 ps wn i out f) out.length f out.length:Int)++[(i:Int)])
theorem own_last (out:List (List Int)) (i:Int):(out.map ownI++[AV.lst [] 0 .full]).set out.length (ownI [i])=(out++[[i]]).map ownI:=by
 rw [List.set_append_right _ _ (by simp)];simp
theorem own_get (out:List (List Int)) {t:Nat} (h:t<out.length):(out.map ownI)[t]?=some (ownI (ix out (t:Int))):=by
 rw [List.getElem?_map,List.getElem?_eq_getElem h,ix_nat h];rfl
theorem own_set (out:List (List Int)) (t:Nat) (x:AV) (l:List Int):((out.map ownI).set t x).set t (ownI l)=(out.set t l).map ownI:=by
 rw [List.set_set,List.map_set]
theorem tail47c {ps:List (Int×Int)} {nb:List Int} {b:Bed} {out:List (List Int)} {X:List AObj} {i f:Nat} {wl:List Int} (hw:x51 b=some wl) (hps:ps.length≤1000) (hf:f≤255) (hi:i<ps.length) (hn:0<out.length) (hn2:out.length≤1000) (ho:GOk ps.length out) (hwl:wl.length≤1000)
  {Q:Ex→List AV→List AObj→Prop} (hk:∀ (X':List AObj) (u0 u4 u5 u6 u9 u10 u11 u12 u13 u14 u15 u16 u17 u18 u19 u20 u21 u22 u23 u24 u25 u26 u27 u28 u29 u30 u31 u32 u33 u34 u35 u36 u37 u38 u39 u40 u41 u42 u43 u44 u45 u46 u47 u48 u49 u50 u51 u52 u53 u54 u55 u56 u57 u58 u59 u60 u61 u62 u63 u64 u65 u66 u67 u68 u69 u70 u71 u72 u73 u74 u75 u76 u77 u78 u79 u80 u81 u82 u83 u84 u85 u86 u87 u88 u89 u90 u91 u92 u93 u94 u95 u96 u97 u98 u99 u100:AV),Q .normal [u0,(.lst (ps.flatMap pr) ps.length .shared),(.lst (nb.map U8) nb.length .shared),(.lptr [I b.1,.lst (b.2.1.map I) b.2.1.length .shared,I b.2.2.1,I b.2.2.2]),u4,u5,u6,(.gref X'.length (X'.length+1) (gSt ps wl.length out f i).length 1),(I (i:Int)),u9,u10,u11,u12,u13,u14,u15,u16,u17,u18,u19,u20,u21,u22,u23,u24,u25,u26,u27,u28,u29,u30,u31,u32,u33,u34,u35,u36,u37,u38,u39,u40,u41,u42,u43,u44,u45,u46,u47,u48,u49,u50,u51,u52,u53,u54,u55,u56,u57,u58,u59,u60,u61,u62,u63,u64,u65,u66,u67,u68,u69,u70,u71,u72,u73,u74,u75,u76,u77,u78,u79,u80,u81,u82,u83,u84,u85,u86,u87,u88,u89,u90,u91,u92,u93,u94,u95,u96,u97,u98,u99,u100] (X'++[AObj.grow ((gSt ps wl.length out f i).map ownI) (X'.length+1) 1,.dead])) {u0 u4 u5 u6 u12 u13 u14 u15 u16 u17 u18 u19 u20 u21 u22 u23 u24 u25 u26 u27 u28 u29 u30 u31 u32 u33 u34 u35 u36 u37 u38 u39 u40 u41 u42 u43 u44 u45 u46 u47 u48 u49 u50 u51 u52 u53 u54 u55 u56 u57 u58 u59 u60 u61 u62 u63 u64 u65 u66 u67 u68 u69 u70 u71 u72 u73 u74 u75 u76 u77 u78 u79 u80 u81 u82 u83 u84 u85 u86 u87 u88 u89 u90 u91 u92 u93 u94 u95 u96 u97 u98 u99 u100:AV} :
  wpR Tryz.prog ann47b 47 0 none rg47_7 [u0,(.lst (ps.flatMap pr) ps.length .shared),(.lst (nb.map U8) nb.length .shared),(.lptr [I b.1,.lst (b.2.1.map I) b.2.1.length .shared,I b.2.2.1,I b.2.2.2]),u4,u5,u6,(.gref X.length (X.length+1) out.length 1),(I (i:Int)),(I (out.length:Int)),(I (f:Int)),(I (out.length:Int)),u12,u13,u14,u15,u16,u17,u18,u19,u20,u21,u22,u23,u24,u25,u26,u27,u28,u29,u30,u31,u32,u33,u34,u35,u36,u37,u38,u39,u40,u41,u42,u43,u44,u45,u46,u47,u48,u49,u50,u51,u52,u53,u54,u55,u56,u57,u58,u59,u60,u61,u62,u63,u64,u65,u66,u67,u68,u69,u70,u71,u72,u73,u74,u75,u76,u77,u78,u79,u80,u81,u82,u83,u84,u85,u86,u87,u88,u89,u90,u91,u92,u93,u94,u95,u96,u97,u98,u99,u100] (X++[AObj.grow (out.map ownI) (X.length+1) 1,.dead]) Q:=by
 unfold rg47_7
 obtain ⟨cI,gI⟩:∃ c,rg47_I=c:=⟨_,rfl⟩
 obtain ⟨c5,g5⟩:∃ c,rg47_5=c:=⟨_,rfl⟩
 obtain ⟨c6,g6⟩:∃ c,rg47_6=c:=⟨_,rfl⟩
 rw [gI,g5,g6]
 conv=>whnf
 subst gI
 refine pick47 hw hps hf hi hn hn2 ho hwl ?_ (by exact rfl)
 conv=>whnf
 have hple:=pickG_le (fit47 ps wl.length i out f) (f:=f) hn out.length
 obtain ⟨t,ht⟩:∃ t,t=pickG (fit47 ps wl.length i out f) out.length f out.length:=⟨_,rfl⟩
 unfold gSt at hk
 rw [←ht] at hk hple ⊢
 rcases bt (decide ((t:Int)=(out.length:Int))) with hd | hd
 ·rw [hd]
  have hd':t=out.length:=by have:=of_decide_eq_true hd;omega
  rw [if_pos hd'] at hk
  subst hd'
  conv=>whnf
  subst g5
  unfold rg47_5
  conv=>whnf
  refine ⟨⟨rfl,by decide⟩,?_⟩
  conv=>whnf
  refine nthK_of (get_grow X _) ?_
  conv=>whnf
  refine ⟨⟨rfl,rfl,rfl,by simp,by decide,by omega⟩,?_⟩
  rw [set_grow,show (X++[AObj.grow (out.map ownI) (X.length+1) 1,.dead]).length=(X++[AObj.dead,.dead]).length by simp]
  obtain ⟨X',hX'⟩:∃ X',X'=X++[AObj.dead,.dead]:=⟨_,rfl⟩
  rw [←hX']
  conv=>whnf
  subst g6
  unfold rg47_6
  conv=>whnf
  rw [show (AV.lst [] 0 Cap.full::[].append (repl 0 [AV.lst [] 0 Cap.full]))=[AV.lst [] 0 Cap.full] from rfl]
  refine ⟨by omega,?_⟩
  conv=>whnf
  refine nthK_of (get_grow X' _) ?_
  conv=>whnf
  refine nthK_of (x:=AV.lst [] 0 .full) (by simp) ?_
  conv=>whnf
  refine ⟨rfl,by decide,by decide,by decide,rfl,?_⟩
  conv=>whnf
  refine ⟨by omega,?_⟩
  conv=>whnf
  refine nthK_of (get_grow X' _) ?_
  conv=>whnf
  refine updK_of (by simp) ?_
  conv=>whnf
  rw [set_grow,show 0+(out.length:Int).toNat*1=out.length by simp]
  have eL:=own_last out (i:Int)
  erw [eL]
  rw [show (out++[[(i:Int)]]).length=out.length+1 by simp] at hk
  exact hk X' _ _ _ _ _ _ _ _ _ _ _ _ _ _ _ _ _ _ _ _ _ _ _ _ _ _ _ _ _ _ _ _ _ _ _ _ _ _ _ _ _ _ _ _ _ _ _ _ _ _ _ _ _ _ _ _ _ _ _ _ _ _ _ _ _ _ _ _ _ _ _ _ _ _ _ _ _ _ _ _ _ _ _ _ _ _ _ _ _ _ _ _ _ _ _ _
 ·rw [hd]
  have hd':t<out.length:=by have:=of_decide_eq_false hd;omega
  rw [if_neg (by omega)] at hk
  have hb1:0≤(t:Int)∧(t:Int)<(out.length:Int):=by omega
  obtain ⟨ha,hb,hcc⟩:=ho.at hd'
  conv=>whnf
  subst g6
  unfold rg47_6
  conv=>whnf
  refine ⟨hb1,?_⟩
  conv=>whnf
  refine nthK_of (get_grow X _) ?_
  conv=>whnf
  refine nthK_of (x:=ownI (ix out (t:Int))) (by rw [show 0+(t:Int).toNat*1=t by simp];exact own_get out hd') ?_
  conv=>whnf
  rw [set_grow]
  refine ⟨rfl,by decide,rfl,by omega,?_⟩
  conv=>whnf
  refine ⟨hb1,?_⟩
  conv=>whnf
  refine nthK_of (get_grow X _) ?_
  conv=>whnf
  refine updK_of (by simp;omega) ?_
  conv=>whnf
  rw [set_grow,show 0+(t:Int).toNat*1=t by simp]
  have eL:=own_set out t (AV.lst ((ix out (t:Int)).map I) (ix out (t:Int)).length .shared) (ix out (t:Int)++[(i:Int)])
  rw [show ownI (ix out (t:Int)++[(i:Int)])=AV.lst ((ix out (t:Int)).map I++[I (i:Int)]) ((ix out (t:Int)).length+1) (.own 1) by simp [ownI]] at eL
  erw [eL]
  rw [List.length_set] at hk
  exact hk X _ _ _ _ _ _ _ _ _ _ _ _ _ _ _ _ _ _ _ _ _ _ _ _ _ _ _ _ _ _ _ _ _ _ _ _ _ _ _ _ _ _ _ _ _ _ _ _ _ _ _ _ _ _ _ _ _ _ _ _ _ _ _ _ _ _ _ _ _ _ _ _ _ _ _ _ _ _ _ _ _ _ _ _ _ _ _ _ _ _ _ _ _ _ _ _
theorem tail47n {ps:List (Int×Int)} {nb:List Int} {b:Bed} {X:List AObj} {i f:Nat} {wl:List Int} {out:List (List Int)} (hout:out=[])
  {Q:Ex→List AV→List AObj→Prop} (hk:∀ (X':List AObj) (u0 u4 u5 u6 u9 u10 u11 u12 u13 u14 u15 u16 u17 u18 u19 u20 u21 u22 u23 u24 u25 u26 u27 u28 u29 u30 u31 u32 u33 u34 u35 u36 u37 u38 u39 u40 u41 u42 u43 u44 u45 u46 u47 u48 u49 u50 u51 u52 u53 u54 u55 u56 u57 u58 u59 u60 u61 u62 u63 u64 u65 u66 u67 u68 u69 u70 u71 u72 u73 u74 u75 u76 u77 u78 u79 u80 u81 u82 u83 u84 u85 u86 u87 u88 u89 u90 u91 u92 u93 u94 u95 u96 u97 u98 u99 u100:AV),Q .normal [u0,(.lst (ps.flatMap pr) ps.length .shared),(.lst (nb.map U8) nb.length .shared),(.lptr [I b.1,.lst (b.2.1.map I) b.2.1.length .shared,I b.2.2.1,I b.2.2.2]),u4,u5,u6,(.gref X'.length (X'.length+1) (gSt ps wl.length out f i).length 1),(I (i:Int)),u9,u10,u11,u12,u13,u14,u15,u16,u17,u18,u19,u20,u21,u22,u23,u24,u25,u26,u27,u28,u29,u30,u31,u32,u33,u34,u35,u36,u37,u38,u39,u40,u41,u42,u43,u44,u45,u46,u47,u48,u49,u50,u51,u52,u53,u54,u55,u56,u57,u58,u59,u60,u61,u62,u63,u64,u65,u66,u67,u68,u69,u70,u71,u72,u73,u74,u75,u76,u77,u78,u79,u80,u81,u82,u83,u84,u85,u86,u87,u88,u89,u90,u91,u92,u93,u94,u95,u96,u97,u98,u99,u100] (X'++[AObj.grow ((gSt ps wl.length out f i).map ownI) (X'.length+1) 1,.dead])) {u0 u4 u5 u6 u12 u13 u14 u15 u16 u17 u18 u19 u20 u21 u22 u23 u24 u25 u26 u27 u28 u29 u30 u31 u32 u33 u34 u35 u36 u37 u38 u39 u40 u41 u42 u43 u44 u45 u46 u47 u48 u49 u50 u51 u52 u53 u54 u55 u56 u57 u58 u59 u60 u61 u62 u63 u64 u65 u66 u67 u68 u69 u70 u71 u72 u73 u74 u75 u76 u77 u78 u79 u80 u81 u82 u83 u84 u85 u86 u87 u88 u89 u90 u91 u92 u93 u94 u95 u96 u97 u98 u99 u100:AV} :
  wpR Tryz.prog ann47b 47 0 none rg47_7 [u0,(.lst (ps.flatMap pr) ps.length .shared),(.lst (nb.map U8) nb.length .shared),(.lptr [I b.1,.lst (b.2.1.map I) b.2.1.length .shared,I b.2.2.1,I b.2.2.2]),u4,u5,u6,(.lst [] 0 .full),(I (i:Int)),(I (0:Int)),(I (f:Int)),(I (0:Int)),u12,u13,u14,u15,u16,u17,u18,u19,u20,u21,u22,u23,u24,u25,u26,u27,u28,u29,u30,u31,u32,u33,u34,u35,u36,u37,u38,u39,u40,u41,u42,u43,u44,u45,u46,u47,u48,u49,u50,u51,u52,u53,u54,u55,u56,u57,u58,u59,u60,u61,u62,u63,u64,u65,u66,u67,u68,u69,u70,u71,u72,u73,u74,u75,u76,u77,u78,u79,u80,u81,u82,u83,u84,u85,u86,u87,u88,u89,u90,u91,u92,u93,u94,u95,u96,u97,u98,u99,u100] X Q:=by
 subst hout
 have hg:gSt ps wl.length [] f i=[[(i:Int)]]:=by unfold gSt;rw [if_pos (show pickG (fit47 ps wl.length i [] f) ([]:List (List Int)).length f ([]:List (List Int)).length=([]:List (List Int)).length from rfl)];rfl
 rw [hg] at hk
 unfold rg47_7
 obtain ⟨c4,g4⟩:∃ c,rg47_4=c:=⟨_,rfl⟩
 obtain ⟨c5,g5⟩:∃ c,rg47_5=c:=⟨_,rfl⟩
 obtain ⟨c6,g6⟩:∃ c,rg47_6=c:=⟨_,rfl⟩
 unfold rg47_I
 rw [g4,g5,g6]
 conv=>whnf
 refine .intro (fun m T H=>T=slots 101 [(1,(.lst (ps.flatMap pr) ps.length .shared)),(2,(.lst (nb.map U8) nb.length .shared)),(3,(.lptr [I b.1,.lst (b.2.1.map I) b.2.1.length .shared,I b.2.2.1,I b.2.2.2])),(7,(.lst [] 0 .full)),(8,I (i:Int)),(9,I (0:Int)),(10,I (f:Int)),(11,I (0:Int)),(12,I (0:Int))]∧H=X) 0 ⟨rfl,rfl⟩ ?_
 rintro m T H ⟨rfl,rfl⟩
 subst g4
 obtain ⟨c3,g3⟩:∃ c,rg47_3=c:=⟨_,rfl⟩
 unfold rg47_4
 rw [g3]
 conv=>whnf
 subst g5
 unfold rg47_5
 conv=>whnf
 refine ⟨⟨rfl,by decide⟩,?_⟩
 conv=>whnf
 refine ⟨⟨by decide,by decide,rfl⟩,?_⟩
 conv=>whnf
 subst g6
 unfold rg47_6
 conv=>whnf
 refine ⟨by decide,?_⟩
 conv=>whnf
 refine nthK_of (get_grow H _) ?_
 conv=>whnf
 refine ⟨rfl,by decide,by decide,by decide,rfl,?_⟩
 conv=>whnf
 refine ⟨by decide,?_⟩
 conv=>whnf
 refine nthK_of (get_grow H _) ?_
 conv=>whnf
 rw [set_grow]
 exact hk H _ _ _ _ _ _ _ _ _ _ _ _ _ _ _ _ _ _ _ _ _ _ _ _ _ _ _ _ _ _ _ _ _ _ _ _ _ _ _ _ _ _ _ _ _ _ _ _ _ _ _ _ _ _ _ _ _ _ _ _ _ _ _ _ _ _ _ _ _ _ _ _ _ _ _ _ _ _ _ _ _ _ _ _ _ _ _ _ _ _ _ _ _ _ _ _
def fromN (nb:List Int) (i:Nat):Nat:=if 0<nb.length then (ix nb ((i % nb.length:Nat):Int)).toNat else 0
def givenL (ps:List (Int×Int)) (wn:Nat) (nb:List Int):Nat→List (List Int)
 | 0=>[]
 | i+1=>gSt ps wn (givenL ps wn nb i) (fromN nb i) i
theorem gSt_len (ps:List (Int×Int)) (wn:Nat) (out:List (List Int)) (f i:Nat):(gSt ps wn out f i).length≤out.length+1∧0<(gSt ps wn out f i).length:=by
 unfold gSt
 split
 ·simp
 ·rename_i h
  rw [List.length_set]
  refine ⟨by omega,?_⟩
  cases out with
  | nil=>exact absurd rfl h
  | cons a l=>simp
theorem gSt_ok {ps:List (Int×Int)} {wn:Nat} {out:List (List Int)} {f i:Nat} (hi:i<ps.length) (hps:ps.length≤20) (ho:∀ l∈out,0<l.length∧l.length≤i∧∀ x∈l,0≤x∧x<(i:Int)) :
  ∀ l∈gSt ps wn out f i,0<l.length∧l.length≤i+1∧∀ x∈l,0≤x∧x<((i+1:Nat):Int):=by
 intro l hl
 unfold gSt at hl
 split at hl
 ·rcases List.mem_append.1 hl with h | h
  ·obtain ⟨h1,h2,h3⟩:=ho l h
   exact ⟨h1,by omega,fun x hx=>by have:=h3 x hx;omega⟩
  ·obtain rfl:=List.mem_singleton.1 h
   exact ⟨by simp,by simp,fun x hx=>by obtain rfl:=List.mem_singleton.1 hx;omega⟩
 ·rename_i hne
  cases out with
  | nil=>exact absurd rfl hne
  | cons a r =>
    have hlt:=Nat.lt_of_le_of_ne (pickG_le (fit47 ps wn i (a::r) f) (f:=f) (by simp:0<(a::r).length) (a::r).length) hne
    rcases List.mem_or_eq_of_mem_set hl with h | h
    ·obtain ⟨h1,h2,h3⟩:=ho l h
     exact ⟨h1,by omega,fun x hx=>by have:=h3 x hx;omega⟩
    ·subst h
     have hm:ix (a::r) ((pickG (fit47 ps wn i (a::r) f) (a::r).length f (a::r).length:Nat):Int)∈a::r:=by rw [ix_nat hlt];exact List.getElem_mem _
     obtain ⟨h1,h2,h3⟩:=ho _ hm
     refine ⟨by simp,by simp;omega,fun x hx=>?_⟩
     rcases List.mem_append.1 hx with h | h
     ·have:=h3 x h;omega
     ·obtain rfl:=List.mem_singleton.1 h;omega
theorem givenL_ok {ps:List (Int×Int)} {wn:Nat} {nb:List Int} (hps:ps.length≤20):∀ i,i≤ps.length→(givenL ps wn nb i).length≤i∧∀ l∈givenL ps wn nb i,0<l.length∧l.length≤i∧∀ x∈l,0≤x∧x<(i:Int)
 | 0,_=>⟨Nat.le_refl _,fun l hl=>by simp [givenL] at hl⟩
 | i+1,h=>by
   obtain ⟨h1,h2⟩:=givenL_ok hps i (by omega)
   exact ⟨Nat.le_trans (gSt_len ps wn _ _ i).1 (by omega),gSt_ok (by omega) hps h2⟩
theorem frz_gref {P:Program} {C:CallFn} {lo id gid n z:Nat} {o:Oper} {x:Operand} {H:List AObj} {l:List AV} {g z':Nat} (ho:o.op=.move x) (hlo:lo≤id) (hH:H[id]?=some (.grow l g z')) (hn:l.length=n*z) :
  opAll P C lo o 2 [.gref id gid n z] H=some (.lst (l.map AV.view) n .shared,H.set id .dead):=by
 unfold opAll;rw [ho]
 show opMove P lo 2 o.type x H [.gref id gid n z]=_
 unfold opMove
 simp only [hlo,if_true,hH]
 rw [if_pos hn]
theorem own_view (out:List (List Int)):(out.map ownI).map AV.view=out.map L1:=by rw [List.map_map];rfl
theorem given_ok {ps:List (Int×Int)} {nb:List Int} {b:Bed} {wl:List Int} (hw:x51 b=some wl) (hps:ps.length≤20) (hnb:nb.length≤20) (h255:∀ x∈nb,0≤x∧x≤255) (hwl:wl.length≤1000) :
  PO 47 [(.agg [(I b.1),(.lst (b.2.1.map I) b.2.1.length .shared),(I b.2.2.1),(I b.2.2.2)]),(.lst (ps.flatMap pr) ps.length .shared),(.lst (nb.map U8) nb.length .shared)] (.lst ((givenL ps wl.length nb ps.length).map L1) (givenL ps wl.length nb ps.length).length .shared):=by
 refine fn_pureW hmix lg47 rfl (pu_map (fun _=>(pu_map (fun _=>rfl) _ _ _)) _ _ _) fun Q hQ=>?_
 have hR:∀ T H,RetW [.tmp 6] (.lst ((givenL ps wl.length nb ps.length).map L1) (givenL ps wl.length nb ps.length).length .shared) .ret T H→Q .ret T H:=fun T H hh=>hQ _ T H hh
 unfold rg47
 obtain ⟨c10,g10⟩:∃ c,rg47_10=c:=⟨_,rfl⟩
 unfold rg47_11 rg47_O
 rw [g10]
 conv=>whnf
 refine ⟨rfl,?_⟩
 conv=>whnf
 refine ⟨_,_,fun C=>rfl,?_⟩
 conv=>whnf
 refine .intro (fun m T H=>∃ (j:Nat) (G:AV),j≤ps.length∧m=ps.length-j∧T=slots 101 [(1,(.lst (ps.flatMap pr) ps.length .shared)),(2,(.lst (nb.map U8) nb.length .shared)),(3,(.lptr [I b.1,.lst (b.2.1.map I) b.2.1.length .shared,I b.2.2.1,I b.2.2.2])),(7,G),(8,I (j:Int))] ∧
  ((givenL ps wl.length nb j=[]∧G=.lst [] 0 .full)∨(0<(givenL ps wl.length nb j).length∧∃ X:List AObj,G=.gref X.length (X.length+1) (givenL ps wl.length nb j).length 1∧H=X++[AObj.grow ((givenL ps wl.length nb j).map ownI) (X.length+1) 1,.dead]))) ps.length ⟨0,_,Nat.zero_le _,rfl,rfl,.inl ⟨rfl,rfl⟩⟩ ?_
 rintro m T H ⟨j,G,hj,rfl,rfl,hG⟩
 subst g10
 obtain ⟨c9,g9⟩:∃ c,rg47_9=c:=⟨_,rfl⟩
 unfold rg47_10
 rw [g9]
 conv=>whnf
 refine dcase (fun hc=>?_) (fun hc=>?_)
 ·have hlt:j<ps.length:=by omega
  have hgo:=givenL_ok (wn:=wl.length) (nb:=nb) hps j hj
  have hstep:givenL ps wl.length nb (j+1)=gSt ps wl.length (givenL ps wl.length nb j) (fromN nb j) j:=rfl
  obtain ⟨out,hout⟩:∃ out,out=givenL ps wl.length nb j:=⟨_,rfl⟩
  rw [←hout] at hG hgo hstep
  have hfr:fromN nb j≤255:=by
   unfold fromN;split
   ·rename_i h0
    have:=h255 _ (ix_mem (l:=nb) (i:=((j % nb.length:Nat):Int)) (by have:=Nat.mod_lt j h0;omega));omega
   ·omega
  have hen:=(gSt_len ps wl.length out (fromN nb j) j).2
  have hrem:0<nb.length→(j:Int).tmod (nb.length:Int)=((j % nb.length:Nat):Int):=fun _=>(Int.ofNat_tmod j nb.length).symm
  have hwr:((ps.length-(j+1):Nat)<ps.length-j):=by omega
  subst g9
  obtain ⟨c7,g7⟩:∃ c,rg47_7=c:=⟨_,rfl⟩
  obtain ⟨c1,g1⟩:∃ c,rg47_1=c:=⟨_,rfl⟩
  unfold rg47_9 rg47_8
  rw [g7,g1]
  rcases hG with ⟨ho,rfl⟩ | ⟨ho,X,rfl,rfl⟩
  ·conv=>whnf
   rcases bt (decide ((0:Int)<(nb.length:Int))) with hd | hd
   ·rw [hd]
    have h0:0<nb.length:=by have:=of_decide_eq_true hd;omega
    have hb:0≤((j % nb.length:Nat):Int)∧((j % nb.length:Nat):Int)<(nb.length:Int):=by have:=Nat.mod_lt j h0;omega
    have hx:=h255 _ (ix_mem hb)
    have hf:fromN nb j=(ix nb ((j % nb.length:Nat):Int)).toNat:=if_pos h0
    conv=>whnf
    subst g1
    unfold rg47_1
    conv=>whnf
    refine ⟨by omega,?_⟩
    rw [hrem h0]
    conv=>whnf
    refine ⟨hb,?_⟩
    rw [drop1 U8 nb _ hb]
    conv=>whnf
    rw [wrapI _ (by omega) (by omega),show ix nb ((j % nb.length:Nat):Int)=((fromN nb j:Nat):Int) by rw [hf];omega]
    subst g7
    refine tail47n (wl:=wl) ho ?_
    intro X' u0 u4 u5 u6 u9 u10 u11 u12 u13 u14 u15 u16 u17 u18 u19 u20 u21 u22 u23 u24 u25 u26 u27 u28 u29 u30 u31 u32 u33 u34 u35 u36 u37 u38 u39 u40 u41 u42 u43 u44 u45 u46 u47 u48 u49 u50 u51 u52 u53 u54 u55 u56 u57 u58 u59 u60 u61 u62 u63 u64 u65 u66 u67 u68 u69 u70 u71 u72 u73 u74 u75 u76 u77 u78 u79 u80 u81 u82 u83 u84 u85 u86 u87 u88 u89 u90 u91 u92 u93 u94 u95 u96 u97 u98 u99 u100
    conv=>whnf
    exact ⟨ps.length-(j+1),hwr,j+1,.gref X'.length (X'.length+1) (gSt ps wl.length out (fromN nb j) j).length 1,by omega,rfl,by rw [←wrapS j (by omega)];rfl,.inr ⟨by rw [hstep];exact hen,X',by rw [hstep],by rw [hstep]⟩⟩
   ·rw [hd]
    have hf:fromN nb j=0:=if_neg (by have:=of_decide_eq_false hd;omega)
    conv=>whnf
    rw [show (AV.int IntKind.i64 0)=AV.int IntKind.i64 ((fromN nb j:Nat):Int) by rw [hf];rfl]
    subst g7
    refine tail47n (wl:=wl) ho ?_
    intro X' u0 u4 u5 u6 u9 u10 u11 u12 u13 u14 u15 u16 u17 u18 u19 u20 u21 u22 u23 u24 u25 u26 u27 u28 u29 u30 u31 u32 u33 u34 u35 u36 u37 u38 u39 u40 u41 u42 u43 u44 u45 u46 u47 u48 u49 u50 u51 u52 u53 u54 u55 u56 u57 u58 u59 u60 u61 u62 u63 u64 u65 u66 u67 u68 u69 u70 u71 u72 u73 u74 u75 u76 u77 u78 u79 u80 u81 u82 u83 u84 u85 u86 u87 u88 u89 u90 u91 u92 u93 u94 u95 u96 u97 u98 u99 u100
    conv=>whnf
    exact ⟨ps.length-(j+1),hwr,j+1,.gref X'.length (X'.length+1) (gSt ps wl.length out (fromN nb j) j).length 1,by omega,rfl,by rw [←wrapS j (by omega)];rfl,.inr ⟨by rw [hstep];exact hen,X',by rw [hstep],by rw [hstep]⟩⟩
  ·conv=>whnf
   rcases bt (decide ((0:Int)<(nb.length:Int))) with hd | hd
   ·rw [hd]
    have h0:0<nb.length:=by have:=of_decide_eq_true hd;omega
    have hb:0≤((j % nb.length:Nat):Int)∧((j % nb.length:Nat):Int)<(nb.length:Int):=by have:=Nat.mod_lt j h0;omega
    have hx:=h255 _ (ix_mem hb)
    have hf:fromN nb j=(ix nb ((j % nb.length:Nat):Int)).toNat:=if_pos h0
    conv=>whnf
    subst g1
    unfold rg47_1
    conv=>whnf
    refine ⟨by omega,?_⟩
    rw [hrem h0]
    conv=>whnf
    refine ⟨hb,?_⟩
    rw [drop1 U8 nb _ hb]
    conv=>whnf
    rw [wrapI _ (by omega) (by omega),show ix nb ((j % nb.length:Nat):Int)=((fromN nb j:Nat):Int) by rw [hf];omega]
    subst g7
    refine tail47c hw (by omega) hfr hlt ho (by omega) (fun l hl=>by obtain ⟨a1,a2,a3⟩:=hgo.2 l hl;exact ⟨a1,by omega,fun x hx=>by have:=a3 x hx;omega⟩) hwl ?_
    intro X' u0 u4 u5 u6 u9 u10 u11 u12 u13 u14 u15 u16 u17 u18 u19 u20 u21 u22 u23 u24 u25 u26 u27 u28 u29 u30 u31 u32 u33 u34 u35 u36 u37 u38 u39 u40 u41 u42 u43 u44 u45 u46 u47 u48 u49 u50 u51 u52 u53 u54 u55 u56 u57 u58 u59 u60 u61 u62 u63 u64 u65 u66 u67 u68 u69 u70 u71 u72 u73 u74 u75 u76 u77 u78 u79 u80 u81 u82 u83 u84 u85 u86 u87 u88 u89 u90 u91 u92 u93 u94 u95 u96 u97 u98 u99 u100
    conv=>whnf
    exact ⟨ps.length-(j+1),hwr,j+1,.gref X'.length (X'.length+1) (gSt ps wl.length out (fromN nb j) j).length 1,by omega,rfl,by rw [←wrapS j (by omega)];rfl,.inr ⟨by rw [hstep];exact hen,X',by rw [hstep],by rw [hstep]⟩⟩
   ·rw [hd]
    have hf:fromN nb j=0:=if_neg (by have:=of_decide_eq_false hd;omega)
    conv=>whnf
    rw [show (AV.int IntKind.i64 0)=AV.int IntKind.i64 ((fromN nb j:Nat):Int) by rw [hf];rfl]
    subst g7
    refine tail47c hw (by omega) hfr hlt ho (by omega) (fun l hl=>by obtain ⟨a1,a2,a3⟩:=hgo.2 l hl;exact ⟨a1,by omega,fun x hx=>by have:=a3 x hx;omega⟩) hwl ?_
    intro X' u0 u4 u5 u6 u9 u10 u11 u12 u13 u14 u15 u16 u17 u18 u19 u20 u21 u22 u23 u24 u25 u26 u27 u28 u29 u30 u31 u32 u33 u34 u35 u36 u37 u38 u39 u40 u41 u42 u43 u44 u45 u46 u47 u48 u49 u50 u51 u52 u53 u54 u55 u56 u57 u58 u59 u60 u61 u62 u63 u64 u65 u66 u67 u68 u69 u70 u71 u72 u73 u74 u75 u76 u77 u78 u79 u80 u81 u82 u83 u84 u85 u86 u87 u88 u89 u90 u91 u92 u93 u94 u95 u96 u97 u98 u99 u100
    conv=>whnf
    exact ⟨ps.length-(j+1),hwr,j+1,.gref X'.length (X'.length+1) (gSt ps wl.length out (fromN nb j) j).length 1,by omega,rfl,by rw [←wrapS j (by omega)];rfl,.inr ⟨by rw [hstep];exact hen,X',by rw [hstep],by rw [hstep]⟩⟩
 ·obtain rfl:j=ps.length:=by omega
  rcases hG with ⟨ho,rfl⟩ | ⟨ho,X,rfl,rfl⟩
  ·conv=>whnf
   refine ⟨_,_,fun C=>rfl,?_⟩
   conv=>whnf
   rw [ho] at hR
   exact hR _ _ ⟨.inr rfl,_,rfl,_,frz_pure rfl,rfl⟩
  ·conv=>whnf
   refine ⟨_,_,fun C=>frz_gref rfl (Nat.zero_le _) (get_grow X _) (by simp),?_⟩
   rw [own_view]
   conv=>whnf
   exact hR _ _ ⟨.inr rfl,_,rfl,_,frz_pure (pu_map (fun _=>(pu_map (fun _=>rfl) _ _ _)) _ _ _),rfl⟩
def x47 (b:Bed) (ps:List (Int×Int)) (nb:List Int):Option (List (List Int)) :=
 (x51 b).bind fun wl=>if ps.length≤20∧nb.length≤20∧(nb.all fun x=>decide (0≤x∧x≤255))=true∧wl.length≤1000 then some (givenL ps wl.length nb ps.length) else none
theorem x47_ok {b:Bed} {ps:List (Int×Int)} {nb:List Int} {v:List (List Int)} (h:x47 b ps nb=some v):PO 47 [(.agg [(I b.1),(.lst (b.2.1.map I) b.2.1.length .shared),(I b.2.2.1),(I b.2.2.2)]),(.lst (ps.flatMap pr) ps.length .shared),(.lst (nb.map U8) nb.length .shared)] (.lst (v.map L1) v.length .shared):=by
 obtain ⟨wl,hw,h⟩:=bd_some h
 split at h
 ·rename_i hc
  obtain rfl:=Option.some.inj h
  exact given_ok hw hc.1 hc.2.1 (fun x hx=>of_decide_eq_true (List.all_eq_true.1 hc.2.2.1 x hx)) hc.2.2.2
 ·cases h

end Go.Proofs.YtbnbjjgagikobaaGreat.Ab


namespace Go.Proofs.YtbnbjjgagikobaaGreat.Ab
open Go
set_option maxRecDepth 20000
set_option maxHeartbeats 4000000

theorem pickG_true (P:Nat→Bool) (n f:Nat):∀ k,pickG P n f k=n∨P (pickG P n f k)=true
 | 0=>.inl rfl
 | k+1=>by
   rw [pickG]
   by_cases h:pickG P n f k=n∧P ((f % n+k) % n)=true
   ·rw [if_pos h];exact .inr h.2
   ·rw [if_neg h];exact pickG_true P n f k
structure GI (n:Nat) (ps:List (Int×Int)) (out:List (List Int)) (i:Nat):Prop where
 ne:∀ t∈out,0<t.length
 rng:∀ t∈out,∀ x∈t,0≤x∧x<(i:Int)
 up:∀ t∈out,t.Pairwise (·<·)
 len:∀ t∈out,t.length≤n
 heat:∀ t∈out,∀ x∈t,(ix ps x).1=heatT ps t
 nd:out.flatten.Nodup
 all:out.flatten.length=i
theorem flatt_set (x:Int):∀ (L:List (List Int)) (k:Nat) (h:k<L.length),(L.set k (L[k]++[x])).flatten.Perm (L.flatten++[x])
 | [],_,h=>absurd h (by simp)
 | e::L,0,_=>by
   show (e++[x]++L.flatten).Perm (e++L.flatten++[x])
   rw [List.append_assoc,List.append_assoc]
   exact List.Perm.append (.refl _) List.perm_append_comm
 | e::L,k+1,h=>by
   have hk:k<L.length:=by simpa using h
   show (e++(L.set k (L[k]'hk++[x])).flatten).Perm (e++L.flatten++[x])
   rw [List.append_assoc]
   exact List.Perm.append (.refl _) (flatt_set x L k hk)
theorem snoc_nodup {l:List Int} {x:Int} (h:l.Nodup) (hx:∀ y∈l,y<x):(l++[x]).Nodup :=
 List.pairwise_append.2 ⟨h,List.pairwise_singleton _ _,fun a ha b hb e=>by have:=hx a ha;rw [List.mem_singleton] at hb;omega⟩
theorem GI.step {n:Nat} (hn:1≤n) {ps:List (Int×Int)} {out:List (List Int)} {i:Nat} (h:GI n ps out i) (f:Nat):GI n ps (gSt ps n out f i) (i+1):=by
 have hlt:∀ y∈out.flatten,y<(i:Int):=fun y hy=>by
  obtain ⟨t,ht,hyt⟩:=List.mem_flatten.1 hy
  exact (h.rng t ht y hyt).2
 have hsn:=snoc_nodup h.nd hlt
 unfold gSt
 by_cases hk:pickG (fit47 ps n i out f) out.length f out.length=out.length
 ·rw [if_pos hk]
  have hm:∀ t,t∈out++[[(i:Int)]]→t∈out∨t=[(i:Int)]:=fun t ht=>by simpa using ht
  have hfl:(out++[[(i:Int)]]).flatten=out.flatten++[(i:Int)]:=by simp
  refine ⟨fun t ht=>?_,fun t ht x hx=>?_,fun t ht=>?_,fun t ht=>?_,fun t ht x hx=>?_,by rw [hfl];exact hsn,by rw [hfl,List.length_append,h.all];rfl⟩
  ·rcases hm t ht with h1 | rfl
   ·exact h.ne t h1
   ·simp
  ·rcases hm t ht with h1 | rfl
   ·have:=h.rng t h1 x hx;omega
   ·rw [List.mem_singleton] at hx;omega
  ·rcases hm t ht with h1 | rfl
   ·exact h.up t h1
   ·exact List.pairwise_singleton _ _
  ·rcases hm t ht with h1 | rfl
   ·exact h.len t h1
   ·simpa using hn
  ·rcases hm t ht with h1 | rfl
   ·exact h.heat t h1 x hx
   ·rw [List.mem_singleton] at hx;rw [hx];rfl
 ·rw [if_neg hk]
  have hn0:0<out.length:=by
   rcases Nat.eq_zero_or_pos out.length with h0 | h0
   ·rw [h0] at hk;exact absurd rfl hk
   ·exact h0
  have hP:=(pickG_true (fit47 ps n i out f) out.length f out.length).resolve_left hk
  have hle:=pickG_le (fit47 ps n i out f) (f:=f) hn0 out.length
  generalize pickG (fit47 ps n i out f) out.length f out.length=k at hk hP hle
  have hkl:k<out.length:=by omega
  have hix:ix out (k:Int)=out[k]:=ix_nat hkl
  simp only [fit47,Bool.and_eq_true,decide_eq_true_eq,hix] at hP
  rw [hix]
  obtain ⟨⟨_,hP2⟩,hP3⟩:=hP
  have hmk:=List.getElem_mem hkl
  have hm:∀ t,t∈out.set k (out[k]++[(i:Int)])→t∈out∨t=out[k]++[(i:Int)]:=fun t ht=>List.mem_or_eq_of_mem_set ht
  have hpm:=flatt_set (i:Int) out k hkl
  have hne:=h.ne _ hmk
  have hh0:heatT ps (out[k]++[(i:Int)])=heatT ps out[k]:=by
   unfold heatT
   have:ix (out[k]++[(i:Int)]) 0=ix out[k] 0:=by
    generalize out[k]=t at hne
    cases t with
    | nil=>cases hne
    | cons a t=>rfl
   rw [this]
  refine ⟨fun t ht=>?_,fun t ht x hx=>?_,fun t ht=>?_,fun t ht=>?_,fun t ht x hx=>?_,hpm.nodup_iff.2 hsn,by rw [hpm.length_eq,List.length_append,h.all];rfl⟩
  ·rcases hm t ht with h1 | rfl
   ·exact h.ne t h1
   ·simp
  ·rcases hm t ht with h1 | rfl
   ·have:=h.rng t h1 x hx;omega
   ·rcases List.mem_append.1 hx with h2 | h2
    ·have:=h.rng _ hmk x h2;omega
    ·rw [List.mem_singleton] at h2;omega
  ·rcases hm t ht with h1 | rfl
   ·exact h.up t h1
   ·exact List.pairwise_append.2 ⟨h.up _ hmk,List.pairwise_singleton _ _,fun a ha b hb=>by
     have:=h.rng _ hmk a ha;rw [List.mem_singleton] at hb;omega⟩
  ·rcases hm t ht with h1 | rfl
   ·exact h.len t h1
   ·rw [List.length_append];simp only [List.length_singleton];omega
  ·rcases hm t ht with h1 | rfl
   ·exact h.heat t h1 x hx
   ·rw [hh0]
    rcases List.mem_append.1 hx with h2 | h2
    ·exact h.heat _ hmk x h2
    ·rw [List.mem_singleton] at h2;rw [h2];exact hP2.symm
theorem givenL_GI {n:Nat} (hn:1≤n) (ps:List (Int×Int)) (nb:List Int):∀ i,GI n ps (givenL ps n nb i) i
 | 0=>⟨by simp [givenL],by simp [givenL],by simp [givenL],by simp [givenL],by simp [givenL],by simp [givenL],rfl⟩
 | i+1=>(givenL_GI hn ps nb i).step hn _
theorem GI.ok {n:Nat} {ps:List (Int×Int)} {out:List (List Int)} (h:GI n ps out ps.length):TOk n ps [] out :=
 ⟨h.ne,h.rng,h.up,h.len,h.heat,by rw [List.nil_append];exact h.nd,by rw [List.nil_append,h.all];exact Nat.le_refl _⟩
def givT (b:Bed) (ps:List (Int×Int)) (nb:List Int):List (List Int):=givenL ps (wn b) nb ps.length
theorem givT_ok {b:Bed} (hb:bErr b=0) (ps:List (Int×Int)) (nb:List Int):TOk (wn b) ps [] (givT b ps nb):=(givenL_GI (wn_pos (bedOk hb)).1 ps nb _).ok
theorem x47_eq {b:Bed} (hb:bErr b=0) (hl:b.2.1.length≤20) {ps:List (Int×Int)} (hp:ps.length≤12) {nb:List Int} (hn:nb.length≤20) (h255:∀ x∈nb,0≤x∧x≤255):x47 b ps nb=some (givT b ps nb):=by
 have hB:=bedOk hb
 have h1:=hB.o1;have h10:=hB.o10
 have hw:=wn_pos hB
 rw [x47,x51_eq b (by omega) (by omega),Option.bind_some]
 exact if_pos ⟨by omega,hn,List.all_eq_true.2 fun x hx=>decide_eq_true (h255 x hx),by unfold wn at hw;omega⟩
theorem TOk.cover {n:Nat} {ps:List (Int×Int)} {ts:List (List Int)} (h:TOk n ps [] ts) {x:Int} (hx:0≤x∧x<(ps.length:Int)):∃ t∈ts,x∈t:=by
 rcases Classical.em (x∈ts.flatten) with hm | hm
 ·exact List.mem_flatten.1 hm
 ·exfalso
  have h1:=h.flat
  have h2:=h.nd
  rw [List.nil_append] at h2
  have hm':(x::ts.flatten).Nodup:=List.nodup_cons.2 ⟨hm,h2⟩
  have:=pig (x::ts.flatten) ((List.range ps.length).map fun (i:Nat)=>(i:Int)) hm' fun y hy=>by
   have hr:0≤y∧y<(ps.length:Int):=by
    rcases List.mem_cons.1 hy with rfl | hy
    ·exact hx
    ·obtain ⟨t,ht,hyt⟩:=List.mem_flatten.1 hy
     exact h.rng t ht y hyt
   exact List.mem_map.2 ⟨y.toNat,List.mem_range.2 (by omega),by omega⟩
  rw [List.length_cons,h1,List.length_map,List.length_range] at this
  omega
theorem tAns_ok {b:Bed} (hb:bErr b=0) {ps:List (Int×Int)} (hp:PsOk ps) {ts:List (List Int)} (h:TOk (wn b) ps [] ts):tAns b ps ts=(tHours ps ts,walk b.2.2.1 (ts.map (heatT ps)),0):=by
 unfold tAns
 rw [if_pos (eB_of hb hp),if_pos ((tErr_iff _ [] nil_nodup).2 h)]
theorem x26_given {b:Bed} (hf:bErr b=0) (hl:b.2.1.length≤20) {ps:List (Int×Int)} (hp:PsOk ps) (nb:List Int):x26 b ps (givT b ps nb)=some (tHours ps (givT b ps nb),walk b.2.2.1 ((givT b ps nb).map (heatT ps)),0):=by
 have hO:=givT_ok hf ps nb
 have hpl:=hp.len
 rw [x26_eq hl (by have:=hO.cnt;omega) (fun t ht=>by have:=hO.one t ht;omega),tAns_ok hf hp hO]

end Go.Proofs.YtbnbjjgagikobaaGreat.Ab


namespace Go.Proofs.YtbnbjjgagikobaaGreat.Ab
open Go
set_option maxRecDepth 20000
set_option maxHeartbeats 4000000

end Go.Proofs.YtbnbjjgagikobaaGreat.Ab


namespace Go.Proofs.YtbnbjjgagikobaaGreat.Ab
open Go
set_option maxRecDepth 20000
set_option maxHeartbeats 4000000

end Go.Proofs.YtbnbjjgagikobaaGreat.Ab


namespace Go.Proofs.YtbnbjjgagikobaaGreat.Ab
open Go
set_option maxRecDepth 20000
set_option maxHeartbeats 4000000

end Go.Proofs.YtbnbjjgagikobaaGreat.Ab


namespace Go.Proofs.YtbnbjjgagikobaaGreat.Ab
open Go
set_option maxRecDepth 20000
set_option maxHeartbeats 4000000

end Go.Proofs.YtbnbjjgagikobaaGreat.Ab


namespace Go.Proofs.YtbnbjjgagikobaaGreat.Ab
open Go
set_option maxRecDepth 20000
set_option maxHeartbeats 4000000

theorem ceil_one (c:Nat):ceil 1 c=c:=by unfold ceil;rw [Nat.add_sub_cancel,Nat.div_one]
theorem lt_ceil {n c k:Nat} (hn:0<n):k<ceil n c↔k*n<c:=chunks_lt hn
theorem cP_anti (ps:List (Int×Int)) (h:Int) {t t':Int} (ht:t≤t'):cP ps h t'≤cP ps h t:=by
 unfold cP
 refine List.countP_mono_left fun p _ hp=>?_
 simp only [Bool.and_eq_true,decide_eq_true_eq] at hp ⊢
 exact ⟨hp.1,by omega⟩
def Good (n:Nat) (ps qs:List (Int×Int)):Prop:=∀ q∈qs,(cP qs q.1 q.2-1)*n<cP ps q.1 q.2
theorem cP_pos {qs:List (Int×Int)} {q:Int×Int} (hq:q∈qs):0<cP qs q.1 q.2:=by
 unfold cP
 exact List.countP_pos_iff.2 ⟨q,hq,by simp⟩
theorem cP_min {qs:List (Int×Int)} {h t:Int} (hc:0<cP qs h t):∃ q∈qs,q.1=h∧t≤q.2∧cP qs h t=cP qs h q.2:=by
 obtain ⟨q0,hq0,h0⟩:=List.countP_pos_iff.1 hc
 simp only [Bool.and_eq_true,decide_eq_true_eq] at h0
 have sp:=minL_spec ((qs.filter fun p=>decide (p.1=h) && decide (t≤p.2)).map (·.2)) q0.2
 obtain ⟨v,hv⟩:∃ v,v=minL q0.2 ((qs.filter fun p=>decide (p.1=h) && decide (t≤p.2)).map (·.2)):=⟨_,rfl⟩
 rw [←hv] at sp
 have hq:∃ q∈qs,q.1=h∧t≤q.2∧q.2=v:=by
  rcases sp.2.2 with e | e
  ·exact ⟨q0,hq0,h0.1,h0.2,e.symm⟩
  ·obtain ⟨q,hq,e⟩:=List.mem_map.1 e
   obtain ⟨h1,h2⟩:=List.mem_filter.1 hq
   simp only [Bool.and_eq_true,decide_eq_true_eq] at h2
   exact ⟨q,h1,h2.1,h2.2,e⟩
 obtain ⟨q,hq,e1,e2,e3⟩:=hq
 refine ⟨q,hq,e1,e2,?_⟩
 unfold cP
 refine List.countP_congr fun p hp=>?_
 simp only [Bool.and_eq_true,decide_eq_true_eq]
 constructor
 ·intro x
  refine ⟨x.1,?_⟩
  rw [e3]
  exact sp.2.1 _ (List.mem_map.2 ⟨p,List.mem_filter.2 ⟨hp,by simpa using x⟩,rfl⟩)
 ·intro x
  exact ⟨x.1,by omega⟩
theorem good_le {n:Nat} (hn:0<n) {ps qs:List (Int×Int)} (hg:Good n ps qs) (h t:Int):cP qs h t≤ceil n (cP ps h t):=by
 rcases Nat.eq_zero_or_pos (cP qs h t) with h0 | h0
 ·omega
 ·obtain ⟨q,hq,e1,e2,e3⟩:=cP_min h0
  have h1:=hg q hq
  rw [e1] at h1
  have h2:=cP_anti ps h e2
  have h3:cP qs h q.2-1<ceil n (cP ps h t):=(lt_ceil hn).2 (by omega)
  omega
theorem good_of {n:Nat} (hn:0<n) {ps qs:List (Int×Int)} (hq:∀ q∈qs,1≤q.2) (h:∀ h t:Int,1≤t→cP qs h t≤ceil n (cP ps h t)):Good n ps qs:=fun q hm=>by
 have h1:=cP_pos hm
 have h2:=h q.1 q.2 (hq q hm)
 exact (lt_ceil hn).1 (by omega)
theorem tot_cnt {qs:List (Int×Int)} (hq:PsOk qs):tot qs=sumR 21 (fun h=>sumR 24 fun t=>(cP qs h ((t:Int)+1):Int)):=by
 rw [←hSum_single hq,hSum_cnt (by omega) hq.hrs]
 exact sumR_congr fun h _=>sumR_congr fun t _=>by rw [ceil_one]
theorem good_hours {n:Nat} (hn:0<n) {ps qs:List (Int×Int)} (hp:PsOk ps) (hq:PsOk qs) (hg:Good n ps qs):tot qs≤hSum n ps 21:=by
 rw [tot_cnt hq,hSum_cnt hn hp.hrs]
 exact sumR_le fun h _=>sumR_le fun t _=>Int.ofNat_le.2 (good_le hn hg _ _)
def rowsT (ps:List (Int×Int)) (ts:List (List Int)):List (Int×Int):=ts.map fun t=>(heatT ps t,hourT ps t)
theorem rowsT_tot (ps:List (Int×Int)) (ts:List (List Int)):tot (rowsT ps ts)=tHours ps ts:=by
 unfold tot rowsT tHours;rw [List.map_map];rfl
theorem rowsT_ok {n:Nat} {ps:List (Int×Int)} (hp:PsOk ps) {ts:List (List Int)} (h:TOk n ps [] ts):PsOk (rowsT ps ts):=by
 refine ⟨?_,?_,?_⟩
 ·have:=h.cnt;have:=hp.len;unfold rowsT;rw [List.length_map];omega
 ·intro p hm
  obtain ⟨t,ht,rfl⟩:=List.mem_map.1 hm
  exact heatT_in hp (h.ne t ht) (h.rng t ht)
 ·intro p hm
  obtain ⟨t,ht,rfl⟩:=List.mem_map.1 hm
  have h1:=hourT_in hp.hrs (h.rng t ht)
  refine ⟨?_,h1.2⟩
  have h2:=hp.hour _ (ixps_mem (h.rng t ht _ (ix0_mem (h.ne t ht))))
  have h3:=(maxL_spec (t.map fun x=>(ix ps x).2) 0).2.1 _ (List.mem_map.2 ⟨_,ix0_mem (h.ne t ht),rfl⟩)
  show 1≤maxL 0 (t.map fun x=>(ix ps x).2)
  omega
theorem countP_cover {n:Nat} (p:Int→Bool) (q:List Int→Bool):∀ (ts:List (List Int)),(∀ t∈ts,t.length≤n)→(∀ t∈ts,∀ x∈t,p x=true→q t=true)→ts.flatten.countP p≤ts.countP q*n
 | [],_,_=>by simp
 | t::ts,h1,h2=>by
   have ih:=countP_cover p q ts (fun t ht=>h1 t (by simp [ht])) (fun t ht=>h2 t (by simp [ht]))
   have hl:t.countP p≤t.length:=List.countP_le_length
   have ht:=h1 t (by simp)
   rw [List.flatten_cons,List.countP_append]
   by_cases hq:q t=true
   ·rw [List.countP_cons_of_pos hq,Nat.add_mul];omega
   ·rw [List.countP_cons_of_neg hq]
    have:t.countP p=0:=List.countP_eq_zero.2 fun x hx hp=>hq (h2 t (by simp) x hx hp)
    omega
theorem cP_ix (ps:List (Int×Int)) (h t:Int):cP ps h t=((List.range ps.length).map fun (i:Nat)=>(i:Int)).countP (fun x=>decide ((ix ps x).1=h) && decide (t≤(ix ps x).2)):=by
 have e:=range_get ps
 have e2:cP ps h t=((List.range ps.length).map fun (i:Nat)=>ix ps (i:Int)).countP (fun p=>decide (p.1=h) && decide (t≤p.2)):=by rw [e];rfl
 rw [e2,List.countP_map,List.countP_map];rfl
theorem TOk.perm {n:Nat} {ps:List (Int×Int)} {ts:List (List Int)} (h:TOk n ps [] ts):ts.flatten.Perm ((List.range ps.length).map fun (i:Nat)=>(i:Int)):=by
 have nd:=h.nd
 rw [List.nil_append] at nd
 refine (List.perm_ext_iff_of_nodup nd (nodup_cast _)).2 fun x=>?_
 constructor
 ·intro hx
  obtain ⟨t,ht,hxt⟩:=List.mem_flatten.1 hx
  have:=h.rng t ht x hxt
  exact List.mem_map.2 ⟨x.toNat,by simp;omega,by omega⟩
 ·intro hx
  obtain ⟨i,hi,rfl⟩:=List.mem_map.1 hx
  have hi:i<ps.length:=by simpa using hi
  obtain ⟨t,ht,hxt⟩:=h.cover (x:=(i:Int)) ⟨by omega,by omega⟩
  exact List.mem_flatten.2 ⟨t,ht,hxt⟩
theorem rowsT_cP {n:Nat} {ps:List (Int×Int)} {ts:List (List Int)} (h:TOk n ps [] ts) (he t:Int):cP ps he t≤cP (rowsT ps ts) he t*n:=by
 rw [cP_ix,←h.perm.countP_eq]
 have e:cP (rowsT ps ts) he t=ts.countP (fun u=>decide (heatT ps u=he) && decide (t≤hourT ps u)):=by
  unfold cP rowsT;rw [List.countP_map];rfl
 rw [e]
 refine countP_cover _ _ ts h.len fun u hu x hx hp=>?_
 simp only [Bool.and_eq_true,decide_eq_true_eq] at hp ⊢
 have h1:=h.heat u hu x hx
 have h3:=(maxL_spec (u.map fun x=>(ix ps x).2) 0).2.1 _ (List.mem_map.2 ⟨_,hx,rfl⟩)
 refine ⟨by omega,?_⟩
 show t≤maxL 0 (u.map fun x=>(ix ps x).2)
 omega
theorem ceil_le_of {n c k:Nat} (hn:0<n) (h:c≤k*n):ceil n c≤k:=by
 rcases Nat.lt_or_ge k (ceil n c) with h1 | h1
 ·have:=(lt_ceil hn).1 h1;omega
 ·exact h1
theorem TOk.hours {n:Nat} (hn:0<n) {ps:List (Int×Int)} (hp:PsOk ps) {ts:List (List Int)} (h:TOk n ps [] ts):hSum n ps 21≤tHours ps ts:=by
 rw [←rowsT_tot,tot_cnt (rowsT_ok hp h),hSum_cnt hn hp.hrs]
 exact sumR_le fun he _=>sumR_le fun t _=>Int.ofNat_le.2 (ceil_le_of hn (rowsT_cP h _ _))
def marksL (n:Nat) (ps:List (Int×Int)) (l:List Int):List Int:=(l.map fun h=>heads n (ofL ps h)).flatten
theorem countP_lt:∀ (N c:Nat),c≤N→(List.range N).countP (fun j=>decide (j<c))=c
 | 0,c,h=>by obtain rfl:c=0:=by omega
             rfl
 | N+1,c,h=>by
   rw [List.range_succ,List.countP_append]
   by_cases hc:c=N+1
   ·subst hc
    have:(List.range N).countP (fun j=>decide (j<N+1))=(List.range N).countP (fun j=>decide (j<N)):=List.countP_congr fun j hj=>by
     have:j<N:=by simpa using hj
     simp only [decide_eq_true_eq];omega
    rw [this,countP_lt N N (Nat.le_refl _)];simp
   ·rw [countP_lt N c (by omega)];simp;omega
theorem heads_dn {n:Nat} (hn:0<n) (l:List Int):heads n (down l)=(List.range (ceil n l.length)).map fun j=>dn l (j*n):=by
 unfold heads chunks ceil
 rw [List.map_map,down_len]
 apply List.map_congr_left
 intro j _
 exact head_dn hn _ j
theorem heads_cnt {n:Nat} (hn:0<n) {l:List Int} (h0:∀ x∈l,0≤x) {t:Int} (ht:1≤t):(heads n (down l)).countP (fun x=>decide (t≤x))=ceil n (l.countP fun x=>decide (t≤x)):=by
 rw [heads_dn hn,List.countP_map]
 have e:(List.range (ceil n l.length)).countP ((fun x=>decide (t≤x)) ∘ fun j=>dn l (j*n))=(List.range (ceil n l.length)).countP (fun j=>decide (j<ceil n (l.countP fun x=>decide (t≤x)))):=List.countP_congr fun j _=>by
  simp only [Function.comp,decide_eq_true_eq]
  rw [dn_ge h0 ht,lt_ceil hn]
 rw [e]
 exact countP_lt _ _ (ceil_mono n List.countP_le_length)
theorem heads_map {n:Nat} (hn:0<n) (f:Int→Int) (l:List Int):(heads n l).map f=heads n (l.map f):=by
 unfold heads
 rw [chunks_map,List.map_map,List.map_map]
 apply List.map_congr_left
 intro e he
 have hne:=chunk_ne hn he
 cases e with
 | nil=>exact absurd rfl hne
 | cons a r=>rfl
theorem heads_mem {n:Nat} (hn:0<n) {l:List Int} {x:Int} (h:x∈heads n l):x∈l:=by
 obtain ⟨e,he,rfl⟩:=List.mem_map.1 h
 exact head_in (Pr:=fun x=>x∈l) hn (fun x hx=>hx) he
theorem heads_sub {n:Nat} (hn:0<n) (l:List Int):(heads n l).Nodup∨¬ l.Nodup:=by
 rcases Classical.em l.Nodup with h | h
 ·refine .inl ?_
  unfold heads
  rw [List.nodup_iff_pairwise_ne,List.pairwise_map,List.pairwise_iff_getElem]
  intro i j hi hj hij
  have hci:=chunk_ne hn (List.getElem_mem hi)
  have hcj:=chunk_ne hn (List.getElem_mem hj)
  rw [chunks_get] at hci hcj ⊢
  rw [chunks_get]
  rw [chunks_len] at hi hj
  have h1:=(chunks_lt hn).1 hi
  have h2:=(chunks_lt hn).1 hj
  rw [head_dn hn,head_dn hn]
  have g:∀ (k:Nat) (hk:k<l.length),l.getD k 0=l[k]:=fun k hk=>by rw [List.getD,List.getElem?_eq_getElem hk];rfl
  rw [g _ h1,g _ h2]
  intro e
  have hlt:i*n<j*n:=(Nat.mul_lt_mul_right hn).2 hij
  exact List.pairwise_iff_getElem.1 h _ _ h1 h2 hlt e
 ·exact .inr h
abbrev ofM (ps:List (Int×Int)) (M:List Int):List (Int×Int):=M.map (ix ps)
theorem ofM_cnt (ps:List (Int×Int)) (M:List Int) (h t:Int):cP (ofM ps M) h t=M.countP (fun x=>decide ((ix ps x).1=h) && decide (t≤(ix ps x).2)):=by
 unfold cP ofM;rw [List.countP_map];rfl
theorem heads_cP {n:Nat} (hn:0<n) {ps:List (Int×Int)} (hp:hrsOk ps) (a h:Int) {t:Int} (ht:1≤t):cP (ofM ps (heads n (ofL ps a))) h t=if a=h then ceil n (cP ps h t) else 0:=by
 rw [ofM_cnt]
 by_cases e:a=h
 ·subst e
  rw [if_pos rfl]
  have e1:(heads n (ofL ps a)).countP (fun x=>decide ((ix ps x).1=a) && decide (t≤(ix ps x).2))=((heads n (ofL ps a)).map fun i=>(ix ps i).2).countP (fun x=>decide (t≤x)):=by
   rw [List.countP_map]
   refine List.countP_congr fun x hx=>?_
   have:=(ofL_mem.1 (heads_mem hn hx)).2
   simp [this]
  rw [e1,heads_map hn,ofL_hrs,heads_cnt hn (fun x hx=>(hrs_in hp a x hx).1) ht,hrs_cnt]
 ·rw [if_neg e]
  refine List.countP_eq_zero.2 fun x hx=>?_
  have:=(ofL_mem.1 (heads_mem hn hx)).2
  simp [this,e]
theorem marksL_cP {n:Nat} (hn:0<n) {ps:List (Int×Int)} (hp:hrsOk ps) (h:Int) {t:Int} (ht:1≤t):∀ l:List Int,l.Nodup→cP (ofM ps (marksL n ps l)) h t=if h∈l then ceil n (cP ps h t) else 0
 | [],_=>rfl
 | a::l,hd=>by
   obtain ⟨h1,h2⟩:=List.pairwise_cons.1 hd
   have ih:=marksL_cP hn hp h ht l h2
   have e:ofM ps (marksL n ps (a::l))=ofM ps (heads n (ofL ps a))++ofM ps (marksL n ps l):=by unfold ofM marksL;rw [List.map_cons,List.flatten_cons,List.map_append]
   have e2:cP (ofM ps (marksL n ps (a::l))) h t=cP (ofM ps (heads n (ofL ps a))) h t+cP (ofM ps (marksL n ps l)) h t:=by rw [e];unfold cP;rw [List.countP_append]
   rw [e2,ih,heads_cP hn hp a h ht]
   by_cases e3:a=h
   ·subst e3
    have:a ∉ l:=fun hm=>h1 a hm rfl
    simp [this]
   ·have e4:¬ h=a:=fun x=>e3 x.symm
    simp [e3,e4]
theorem marksL_sum {n:Nat} (hn:0<n) {ps:List (Int×Int)} (hp:hrsOk ps):∀ l:List Int,tot (ofM ps (marksL n ps l))=(l.map fun h=>hH n (hrs ps h)).sum
 | []=>rfl
 | a::l=>by
   have e:ofM ps (marksL n ps (a::l))=ofM ps (heads n (ofL ps a))++ofM ps (marksL n ps l):=by unfold ofM marksL;rw [List.map_cons,List.flatten_cons,List.map_append]
   have e1:tot (ofM ps (heads n (ofL ps a)))=hH n (hrs ps a):=by
    unfold tot ofM hH
    rw [List.map_map,←ofL_hrs,←heads_map hn];rfl
   have e2:∀ x y:List (Int×Int),tot (x++y)=tot x+tot y:=fun x y=>by unfold tot;rw [List.map_append,List.sum_append]
   rw [e,e2,e1,marksL_sum hn hp l,List.map_cons,List.sum_cons]
theorem ordP_hours {n:Nat} (hn:0<n) {ps:List (Int×Int)} (hp:PsOk ps) (h:Int):((ordP h ps).map fun h=>hH n (hrs ps h)).sum=hSum n ps 21:=by
 rw [←turnsL_sum hn hp.hrs]
 exact turnsL_hours hn hp h
theorem marksL_mem {n:Nat} (hn:0<n) {ps:List (Int×Int)} {l:List Int} {x:Int} (h:x∈marksL n ps l):∃ a∈l,x∈ofL ps a:=by
 obtain ⟨L,hL,hx⟩:=List.mem_flatten.1 h
 obtain ⟨a,ha,rfl⟩:=List.mem_map.1 hL
 exact ⟨a,ha,heads_mem hn hx⟩
theorem marksL_nodup {n:Nat} (hn:0<n) (ps:List (Int×Int)):∀ l:List Int,l.Nodup→(marksL n ps l).Nodup
 | [],_=>List.Pairwise.nil
 | a::l,hd=>by
   obtain ⟨h1,h2⟩:=List.pairwise_cons.1 hd
   have e:marksL n ps (a::l)=heads n (ofL ps a)++marksL n ps l:=rfl
   rw [e]
   refine List.pairwise_append.2 ⟨?_,marksL_nodup hn ps l h2,fun x hx y hy e=>?_⟩
   ·rcases heads_sub hn (ofL ps a) with h | h
    ·exact h
    ·exact absurd (ofL_nodup ps a) h
   ·subst e
    obtain ⟨c,hc,hy⟩:=marksL_mem hn hy
    have e1:=(ofL_mem.1 (heads_mem hn hx)).2
    have e2:=(ofL_mem.1 hy).2
    exact h1 c hc (by omega)
def bestM (b:Bed) (ps:List (Int×Int)):List Int:=sortU (marksL (wn b) ps (ordP b.2.2.1 ps))
theorem cast_len {l:List Int} {N:Nat} (hn:l.Nodup) (h:∀ x∈l,0≤x∧x<(N:Int)):l.length≤N:=by
 have:=pig l ((List.range N).map fun (i:Nat)=>(i:Int)) hn fun x hx=>by
  have:=h x hx
  exact List.mem_map.2 ⟨x.toNat,by simp;omega,by omega⟩
 simpa using this
theorem marks_len {b:Bed} (hB:BedOk b) (ps:List (Int×Int)):(marksL (wn b) ps (ordP b.2.2.1 ps)).length≤ps.length:=by
 have hw:=wn_pos hB
 refine cast_len (marksL_nodup (by omega) ps _ (ordP_nodup _ _)) fun x hx=>?_
 obtain ⟨a,_,h⟩:=marksL_mem (by omega) hx
 exact (ofL_mem.1 h).1
theorem bestM_rise {b:Bed} (hB:BedOk b) (ps:List (Int×Int)):riseGo (ps.length:Int) 0 (bestM b ps)=true:=by
 have hw:=wn_pos hB
 refine (rise_iff _ _).2 ⟨fun x hx=>?_,sortU_up (marksL_nodup (by omega) ps _ (ordP_nodup _ _))⟩
 obtain ⟨a,_,h⟩:=marksL_mem (by omega) ((sortU_mem _ _).1 hx)
 exact (ofL_mem.1 h).1
theorem bestM_tot {b:Bed} (hB:BedOk b) {ps:List (Int×Int)} (hp:PsOk ps):tot (ofM ps (bestM b ps))=hSum (wn b) ps 21:=by
 have hw:=wn_pos hB
 have e:tot (ofM ps (bestM b ps))=tot (ofM ps (marksL (wn b) ps (ordP b.2.2.1 ps))):=by
  unfold tot ofM
  exact perm_sum (((sortU_perm _).map _).map _)
 rw [e,marksL_sum (by omega) hp.hrs,ordP_hours (by omega) hp]
theorem ofM_ok {ps:List (Int×Int)} (hp:PsOk ps) {M:List Int} (h:riseGo (ps.length:Int) 0 M=true):PsOk (ofM ps M):=by
 have h1:=(rise_iff _ _).1 h
 have h2:=rise_len h (by omega)
 have h3:=hp.len
 refine ⟨by rw [List.length_map];omega,?_,?_⟩
 ·intro p hm
  obtain ⟨x,hx,rfl⟩:=List.mem_map.1 hm
  exact hp.heat _ (ixps_mem (h1.1 x hx))
 ·intro p hm
  obtain ⟨x,hx,rfl⟩:=List.mem_map.1 hm
  exact hp.hour _ (ixps_mem (h1.1 x hx))
theorem bestM_good {b:Bed} (hB:BedOk b) {ps:List (Int×Int)} (hp:PsOk ps):Good (wn b) ps (ofM ps (bestM b ps)):=by
 have hw:=wn_pos hB
 refine good_of (by omega) (fun q hq=>((ofM_ok hp (bestM_rise hB ps)).hour q hq).1) fun h t ht=>?_
 have e:cP (ofM ps (bestM b ps)) h t=cP (ofM ps (marksL (wn b) ps (ordP b.2.2.1 ps))) h t:=by
  unfold cP ofM
  exact ((sortU_perm _).map _).countP_eq _
 rw [e,marksL_cP (by omega) hp.hrs h ht _ (ordP_nodup _ _)]
 split <;> omega

noncomputable def xrc104_1:RC :=
 .loop (some [i_,i_,o_,o_,o_,o_,o_,i_,i_,o_,o_,o_,o_,o_,o_,o_,o_,o_,o_]) (.seq (.reg false [I_ 9 [.sl 8,.sl 7] (.bin .lss)]) (.seq (.cond (.sl 9) .skip (.exit
 0)) (.seq (.block 1 (.seq (.reg false [I_ 10 [.sl 8] .mv,I_ 5 [.tk 10] .mv]) (.seq (.reg false [I_ 11 [.sl 1] .mv,I_ 12 [.sl 0] .mv,I_ 13 [.sl 5] .mv,I_ 14 [.tv 12,.tv 13] (.ia 1),I_ 15 [.tv 14] (.ld .one),I_ 16 [.tv 11,
 .tv 15] (.bin .eql)]) (.cond (.sl 16) (.seq (.reg false [I_ 17 [.tk 5] .mv,I_ 4 [.tk 17] .mv]) .ret) .skip)))) (.reg false [I_ 18 [.tv 8,.cv (.int .i64 1)] (.bin .add),I_ 8 [.tk 18] .mv]))))
noncomputable def xrc104:RC :=
 .seq (.reg false [I_ 4 [.cv (.int .i64 0)] .mv]) (.seq (.seq (.reg false [I_ 6 [.sl 0] .mv,I_ 7 [.tk 6] .lenS,I_ 8 [.cv (.int .i64 0)] .mv]) (.block 0 xrc104_1)) (.seq (.reg false [I_ 4 [.cv (.int .i64 (-1))] .mv]) .ret))
theorem lxx104:linkF Tryz.prog ann104 104=some (xrc104,19,[.tmp 4]):=by kernel_rfl
def x104_l1 (s:(List Int)) (vq:Int) (kl1_0:Unit→Option Int):Nat→Int→Option Int
 | 0,_=>none
 | m+1,s1 =>
   if (decide (s1<(s.length:Int)))=true then
    gd (0≤s1∧s1<(s.length:Int)) <|
    if (decide (vq=(ix s s1)))=true then
     some s1
    else
     x104_l1 s vq kl1_0 m (w (s1+(1:Int)))
   else
    kl1_0 ()
def x104 (s:(List Int)) (vq:Int):Option Int :=
 x104_l1 s vq (fun _ =>
   some (-1:Int)) FU (0:Int)
theorem x104_l1_ok {s:(List Int)} {vq:Int} {kl1_0:Unit→Option Int} {s1:Int} {v:Int} {Q:Ex→List AV→List AObj→Prop}   (hR:∀ T H,RetW [.tmp 4] (I v) .ret T H→Q .ret T H) (hkl1_0:∀ (u0:AV) (u1:AV) (u4:AV) (u5:AV) (u6:AV) (u7:AV) (u8:AV) (u9:AV) (u10:AV) (u11:AV) (u12:AV) (u13:AV) (u14:AV) (u15:AV) (u16:AV) (u17:AV) (u18:AV),kl1_0 ()=some v→Q (.exit 0) [u0,u1,J,J,u4,u5,u6,u7,u8,u9,u10,u11,u12,u13,u14,u15,u16,u17,u18] []) {T:List AV} (hT:zipKeep [i_,i_,o_,o_,o_,o_,o_,i_,i_,o_,o_,o_,o_,o_,o_,o_,o_,o_,o_] T=slots 19 [(0,(.lst (s.map I) s.length .shared)),(1,(I vq)),(7,(I (s.length:Int))),(8,(I s1))]) (h:x104_l1 s vq kl1_0 FU s1=some v) :
  wpR Tryz.prog ann104 104 0 none xrc104_1 T [] Q:=by
 unfold xrc104_1
 skip
 refine wp_loop hT ?_
 refine .intro (fun m T H=>∃ (s1:Int),T=slots 19 [(0,(.lst (s.map I) s.length .shared)),(1,(I vq)),(7,(I (s.length:Int))),(8,(I s1))]∧H=[]∧x104_l1 s vq kl1_0 m s1=some v) FU ⟨s1,rfl,rfl,h⟩ ?_
 clear h hT
 rintro m T H ⟨s1,rfl,rfl,h⟩
 cases m
 ·exact none_ne h
 rename_i m
 rw [x104_l1.eq_2] at h
 conv=>whnf
 rcases bt (decide (s1<(s.length:Int))) with hb1 | hb1
 ·rw [hb1]
  conv=>whnf
  replace h:=it_t hb1 h
  obtain ⟨hb2,h⟩:=gd_some h
  refine ⟨hb2,?_⟩
  rw [drop1 I s s1 hb2]
  conv=>whnf
  rcases bt (decide (vq=(ix s s1))) with hb3 | hb3
  ·rw [hb3]
   conv=>whnf
   replace h:=it_t hb3 h
   obtain rfl:=Option.some.inj h
   exact hR _ _ ⟨.inr rfl,_,rfl,_,frz_pure rfl,rfl⟩
  ·rw [hb3]
   conv=>whnf
   replace h:=it_f hb3 h
   exact ⟨m,Nat.lt_succ_self m,(w (s1+(1:Int))),rfl,rfl,h⟩
 ·rw [hb1]
  conv=>whnf
  replace h:=it_f hb1 h
  exact hkl1_0 _ _ _ _ _ _ _ _ _ _ _ _ _ _ _ _ _ h
theorem x104_ok {s:(List Int)} {vq:Int} {v:Int} (h:x104 s vq=some v):PO 104 [(.lst (s.map I) s.length .shared),(I vq)] (I v):=by
 refine fn_pureW hmix lxx104 rfl rfl fun Q hQ=>?_
 have hR:∀ T H,RetW [.tmp 4] (I v) .ret T H→Q .ret T H:=fun T H hh=>hQ _ T H hh
 unfold x104 at h
 unfold xrc104
 obtain ⟨c_1,g_1⟩:∃ c,xrc104_1=c:=⟨_,rfl⟩
 rw [g_1]
 conv=>whnf
 subst g_1
 refine x104_l1_ok ?_ ?_ (by exact rfl) h
 ·exact fun T H hh=>hR T H hh
 ·intro u0 u1 u4 u5 u6 u7 u8 u9 u10 u11 u12 u13 u14 u15 u16 u17 u18 h
  conv=>whnf
  obtain rfl:=Option.some.inj h
  exact hR _ _ ⟨.inr rfl,_,rfl,_,frz_pure rfl,rfl⟩

noncomputable def xrc79:RC :=
 .seq (.reg false [I_ 4 [.cv (.bool false)] .mv]) (.seq (.reg false [I_ 5 [.tk 0] .mv,I_ 6 [.tk 1] .mv,I_ 7 [.cv (.func 104 [] []),.sl 5,.sl 6] (.call 3),I_ 8 [.tv 7,.cv (.int .i64 0)] (.bin .geq),I_ 4 [.tk 8] .mv]) .ret)
theorem lxx79:linkF Tryz.prog ann79 79=some (xrc79,9,[.tmp 4]):=by kernel_rfl
def x79 (s:(List Int)) (vq:Int):Option Bool :=
 (x104 s vq).bind fun r1 =>
 some (decide ((0:Int)≤r1))
theorem x79_ok {s:(List Int)} {vq:Int} {v:Bool} (h:x79 s vq=some v):PO 79 [(.lst (s.map I) s.length .shared),(I vq)] (B v):=by
 refine fn_pureW hmix lxx79 rfl rfl fun Q hQ=>?_
 have hR:∀ T H,RetW [.tmp 4] (B v) .ret T H→Q .ret T H:=fun T H hh=>hQ _ T H hh
 unfold x79 at h
 unfold xrc79
 skip
 conv=>whnf
 obtain ⟨r1,hb1,h⟩:=bd_some h
 refine ⟨(allc (pu_map (fun _=>rfl) _ _ _) (allc rfl rfl)),_,x104_ok hb1,?_⟩
 conv=>whnf
 obtain rfl:=Option.some.inj h
 exact hR _ _ ⟨.inr rfl,_,rfl,_,frz_pure rfl,rfl⟩

noncomputable def xrc81:RC :=
 .seq (.reg false [I_ 4 [.cv (.bool false)] .mv]) (.seq (.reg true [I_ 5 [.sl 1] (.ld .one),I_ 6 [.tk 0] .mv,I_ 7 [.tv 5,.tv 6] (.ia 2),I_ 8 [.tv 7] (.fa 1),I_ 9 [.tv 8] (.ld .one),I_ 10 [.sl 1] (.ld .one),I_ 11 [.tv 2]
 (.ld .one),I_ 12 [.tv 10,.tv 11] (.ia 2),I_ 13 [.tv 12] (.fa 1),I_ 14 [.tv 13] (.ld .one),I_ 15 [.tv 9,.tv 14] (.bin .lss),I_ 4 [.tk 15] .mv]) .ret)
theorem lxx81:linkF Tryz.prog ann81 81=some (xrc81,16,[.tmp 4]):=by kernel_rfl
def x81 (j:Int) (c0:(List (Int×Int))) (c1:Int):Option Bool :=
 gd (0≤j∧j<(c0.length:Int)) <|
 gd (0≤c1∧c1<(c0.length:Int)) <|
 some (decide ((ix c0 j).2<(ix c0 c1).2))
theorem x81_ok {j:Int} {c0:(List (Int×Int))} {c1:Int} {v:Bool} (h:x81 j c0 c1=some v):PO 81 [(I j),(.lptr [(.lst (c0.flatMap pr) c0.length .shared)]),(.lptr [(I c1)])] (B v):=by
 refine fn_pureW hmix lxx81 rfl rfl fun Q hQ=>?_
 have hR:∀ T H,RetW [.tmp 4] (B v) .ret T H→Q .ret T H:=fun T H hh=>hQ _ T H hh
 unfold x81 at h
 unfold xrc81
 skip
 conv=>whnf
 obtain ⟨hb1,h⟩:=gd_some h
 refine ⟨hb1,?_⟩
 rw [dropS pr 2 pr_len c0 j hb1]
 conv=>whnf
 obtain ⟨hb2,h⟩:=gd_some h
 refine ⟨hb2,?_⟩
 rw [dropS pr 2 pr_len c0 c1 hb2]
 conv=>whnf
 obtain rfl:=Option.some.inj h
 exact hR _ _ ⟨.inr rfl,_,rfl,_,frz_pure rfl,rfl⟩

noncomputable def xrc38_2:RC :=
 .seq (.seq (.reg false [I_ 56 [.tk 16] .mv,I_ 57 [.sl 13] .mv,I_ 58 [.sl 8] .mv,I_ 59 [.tv 58] .nilc,I_ 60 [.tv 59] (.fa 5),I_ 61 [.tv 60] (.ld .one),I_ 62 [.tk 61] .lenS,I_ 63 [.tv 57,.tv 62] (.bin .mul),I_ 64 [.tv 56,
 .tv 63] (.bin .leq)]) (.cond (.sl 64) (.seq (.reg false [I_ 6 [.cv (.int .i64 0)] .mv,I_ 7 [.cv (.int .i64 14)] .mv]) .ret) .skip)) (.seq (.reg false [I_ 65 [.tk 10] .mv,I_ 66 [.sl 4] (.ld .one),I_ 67 [.tv 15] (.ld .one),I_
 68 [.tv 66,.tv 67] (.ia 2),I_ 69 [.tv 68] (.fa 1),I_ 70 [.tv 69] (.ld .one),I_ 71 [.tv 65,.tv 70] (.bin .add),I_ 10 [.tk 71] .mv]) (.reg false [I_ 72 [.tk 13] .mv,I_ 73 [.tv 72,.cv (.int .i64 1)] (.bin .add),I_ 13 [.tk
 73] .mv]))
noncomputable def xrc38_3:RC :=
 .loop (some [o_,o_,i_,o_,i_,o_,o_,o_,i_,o_,i_,o_,i_,i_,o_,o_,o_,o_,o_,o_,o_,o_,o_,o_,o_,o_,o_,o_,o_,o_,o_,o_,o_,i_,o_,o_,o_,o_,o_,i_,i_,i_,o_,o_,o_,o_,o_,o_,o_,o_,o_,o_,o_,o_,o_,o_,o_,o_,o_,o_,o_,o_,o_,o_,o_,o_,o_,o_,o_,o_,o_,o_,o_,o_,o_,o_,o_]) (.seq (.reg false [I_ 42 [.sl 41,.sl 40] (.bin .lss)]) (.seq (.cond (.sl 42) .skip (.exit 3)) (.seq (.block 4 (.seq (.reg false [I_ 43
 [.sl 39,.sl 41] (.ia 1),I_ 44 [.tv 43] (.ld .one),I_ 15 [] (.alloc [.int .i64 0]),⟨none,[.sl 15,.tk 44],none,none,.st 1⟩]) (.seq (.seq (.reg false [I_ 45 [.sl 2] .mv,I_ 46 [.sl 15] (.ld .one),I_ 47 [.cv (.func 79 []
 []),.sl 45,.sl 46] (.call 3),I_ 48 [.tv 47] (.un .not)]) (.cond (.sl 48) (.exit 4) .skip)) (.seq (.reg false [I_ 49 [.sl 12] .mv,I_ 50 [.sl 4,.sl 15] (.mkF 81 0 2),I_ 51 [.cv (.func 80 [] []),.sl 49,.sl 50] (.call 6),
 I_ 16 [.tk 51] .mv]) (.seq (.seq (.reg false [I_ 52 [.sl 16] .mv,I_ 53 [.tv 52,.cv (.int .i64 0)] (.bin .lss)]) (.cond (.sl 53) (.reg false [I_ 54 [.sl 12] .mv,I_ 55 [.tk 54] .lenS,I_ 16 [.tk 55] .mv]) .skip)) xrc38_2)))))
 (.reg false [I_ 74 [.tv 41,.cv (.int .i64 1)] (.bin .add),I_ 41 [.tk 74] .mv]))))
noncomputable def xrc38_1:RC :=
 .loop (some [o_,o_,i_,o_,i_,o_,o_,o_,i_,o_,i_,o_,o_,o_,o_,o_,o_,o_,o_,o_,o_,o_,o_,o_,o_,o_,o_,o_,o_,o_,o_,o_,o_,i_,o_,o_,o_,o_,o_,o_,o_,o_,o_,o_,o_,o_,o_,o_,o_,o_,o_,o_,o_,o_,o_,o_,o_,o_,o_,o_,o_,o_,o_,o_,o_,o_,o_,o_,o_,o_,o_,o_,o_,o_,o_,o_,o_]) (.seq (.reg false [I_ 34 [.sl 33,.cv (.int .i64 21)] (.bin .lss)]) (.seq (.cond (.sl 34) .skip (.exit 1)) (.seq (.block 2 (.seq
 (.reg false [I_ 35 [.sl 33] .mv,I_ 11 [.tk 35] .mv]) (.seq (.reg false [I_ 36 [.sl 8] .mv,I_ 37 [.tk 11] .mv,I_ 38 [.cv (.func 76 [] []),.sl 36,.sl 37] (.call 3),I_ 12 [.tk 38] .mv]) (.seq (.reg false [I_ 13 [.cv (.int
 .i64 0)] .mv]) (.seq (.reg false [I_ 39 [.sl 12] .mv,I_ 40 [.sl 39] .lenS,I_ 41 [.cv (.int .i64 0)] .mv]) (.block 3 xrc38_3)))))) (.reg false [I_ 75 [.tv 33,.cv (.int .i64 1)] (.bin .add),I_ 33 [.tk 75] .mv]))))
noncomputable def xrc38:RC :=
 .seq (.reg false [I_ 3 [.tk 0] .box,I_ 4 [.tk 1] .box,I_ 6 [.cv (.int .i64 0)] .mv,I_ 7 [.cv (.int .i64 0)] .mv]) (.seq (.reg false [I_ 18 [.tv 3] (.ld (.str 4)),I_ 19 [.sl 4] (.ld .one),I_ 20 [.cv (.func 69 [] []),.sl 18,
 .sl 19] (.call 3),I_ 17 [.tk 20] .mv,I_ 21 [.sl 17] (.ext 0),I_ 22 [.tv 17] (.ext 1),I_ 8 [.tk 21] .mv,I_ 9 [.tk 22] .mv]) (.seq (.block 0 (.seq (.reg false [I_ 24 [.sl 9] .mv,I_ 25 [.tv 24,.cv (.int .i64 0)] (.bin
 .neq),I_ 23 [.tk 25] .mv]) (.cond (.sl 23) (.seq (.reg false [I_ 26 [.tk 9] .mv,I_ 6 [.cv (.int .i64 0)] .mv,I_ 7 [.tk 26] .mv]) .ret) (.seq (.reg false [I_ 28 [.sl 2] .mv,I_ 29 [.sl 4] (.ld .one),I_ 30 [.tk 29] .lenS,I_
 31 [.cv (.func 61 [] []),.sl 28,.sl 30] (.call 3),I_ 32 [.tv 31] (.un .not),I_ 27 [.tk 32] .mv]) (.cond (.sl 27) (.seq (.reg false [I_ 6 [.cv (.int .i64 0)] .mv,I_ 7 [.cv (.int .i64 2)] .mv]) .ret) .skip))))) (.seq (.reg
 false [I_ 10 [.cv (.int .i64 0)] .mv]) (.seq (.seq (.reg false [I_ 33 [.cv (.int .i64 0)] .mv]) (.block 1 xrc38_1)) (.seq (.reg false [I_ 76 [.tk 10] .mv,I_ 6 [.tk 76] .mv,I_ 7 [.cv (.int .i64 0)] .mv]) .ret)))))
theorem lxx38:linkF Tryz.prog ann38 38=some (xrc38,77,[.tmp 6,.tmp 7]):=by kernel_rfl
def x38_l1  : Nat→Option (Int×Int)
 | 0=>none
 | m+1 =>
   none
def x38_j4 (panels:(List (Int×Int))) (p1:((Int×(List Int)×Int×Int)×(List (Int×Int))×(List Int)×(List Int))) (r4:(List Int)) (s4:Int) (s5:Int) (kj4_0:Unit→Option (Int×Int)) (j1:Int):Option (Int×Int) :=
 if (decide (j1≤(w (s4*(p1.2.2.1.length:Int)))))=true then
  some ((0:Int),(14:Int))
 else
  gd (0≤(ix r4 s5)∧(ix r4 s5)<(panels.length:Int)) <|
  kj4_0 ()
def x38_l3 (panels:(List (Int×Int))) (marks:(List Int)) (p1:((Int×(List Int)×Int×Int)×(List (Int×Int))×(List Int)×(List Int))) (r4:(List Int)) (kl3_0:Int→Option (Int×Int)):Nat→Int→Int→Int→Option (Int×Int)
 | 0,_,_,_=>none
 | m+1,s3,s4,s5 =>
   if (decide (s5<(r4.length:Int)))=true then
    gd (0≤s5∧s5<(r4.length:Int)) <|
    (x79 marks (ix r4 s5)).bind fun r5 =>
    if r5=true then
     (x80 r4 (fun y0=>x81 y0 panels (ix r4 s5))).bind fun r6 =>
     if (decide (r6<(0:Int)))=true then
      x38_j4 panels p1 r4 s4 s5 (fun _ =>
        x38_l3 panels marks p1 r4 kl3_0 m (w (s3+(ix panels (ix r4 s5)).2)) (w (s4+(1:Int))) (w (s5+(1:Int)))) (r4.length:Int)
     else
      x38_j4 panels p1 r4 s4 s5 (fun _ =>
        x38_l3 panels marks p1 r4 kl3_0 m (w (s3+(ix panels (ix r4 s5)).2)) (w (s4+(1:Int))) (w (s5+(1:Int)))) r6
    else
     x38_l3 panels marks p1 r4 kl3_0 m s3 s4 (w (s5+(1:Int)))
   else
    kl3_0 s3
def x38_l2 (panels:(List (Int×Int))) (marks:(List Int)) (p1:((Int×(List Int)×Int×Int)×(List (Int×Int))×(List Int)×(List Int))) (kl2_0:Int→Option (Int×Int)):Nat→Int→Int→Option (Int×Int)
 | 0,_,_=>none
 | m+1,s1,s2 =>
   if (decide (s2<(21:Int)))=true then
    (x76 p1 s2).bind fun r4 =>
    x38_l3 panels marks p1 r4 (fun z1 =>
      x38_l2 panels marks p1 kl2_0 m z1 (w (s2+(1:Int)))) FU s1 (0:Int) (0:Int)
   else
    kl2_0 s1
def x38 (b:(Int×(List Int)×Int×Int)) (panels:(List (Int×Int))) (marks:(List Int)):Option (Int×Int) :=
 (x69 b panels).bind fun r1 =>
 match r1 with
 | (none,q1) =>
   if (decide (q1≠(0:Int)))=true then
    some ((0:Int),q1)
   else
    (x61 marks (panels.length:Int)).bind fun r2 =>
    if r2=true then
     x38_l1 FU
    else
     some ((0:Int),(2:Int))
 | (some p1,q1) =>
   if (decide (q1≠(0:Int)))=true then
    some ((0:Int),q1)
   else
    (x61 marks (panels.length:Int)).bind fun r3 =>
    if r3=true then
     x38_l2 panels marks p1 (fun z2 =>
       some (z2,(0:Int))) FU (0:Int) (0:Int)
    else
     some ((0:Int),(2:Int))
theorem x38_l1_ok  {panels:(List (Int×Int))} {marks:(List Int)} {v:(Int×Int)} {Q:Ex→List AV→List AObj→Prop} {o1:AObj}   {T:List AV} (hT:zipKeep [o_,o_,i_,o_,i_,o_,o_,o_,i_,o_,i_,o_,o_,o_,o_,o_,o_,o_,o_,o_,o_,o_,o_,o_,o_,o_,o_,o_,o_,o_,o_,o_,o_,i_,o_,o_,o_,o_,o_,o_,o_,o_,o_,o_,o_,o_,o_,o_,o_,o_,o_,o_,o_,o_,o_,o_,o_,o_,o_,o_,o_,o_,o_,o_,o_,o_,o_,o_,o_,o_,o_,o_,o_,o_,o_,o_,o_] T=slots 77 [(2,(.lst (marks.map I) marks.length .shared)),(4,(.ptr 1 0)),(8,.nilp),(10,(I (0:Int))),(33,(I (0:Int)))]) (h:x38_l1  FU  = some v) :
  wpR Tryz.prog ann38 38 0 none xrc38_1 T [o1,AObj.cells [(.lst (panels.flatMap pr) panels.length .shared)]] Q:=by
 unfold xrc38_1
 obtain ⟨c_3,g_3⟩:∃ c,xrc38_3=c:=⟨_,rfl⟩
 rw [g_3]
 refine wp_loop hT ?_
 refine .intro (fun m T H=>T=slots 77 [(2,(.lst (marks.map I) marks.length .shared)),(4,(.ptr 1 0)),(8,.nilp),(10,(I (0:Int))),(33,(I (0:Int)))]∧H=[o1,AObj.cells [(.lst (panels.flatMap pr) panels.length .shared)]]∧x38_l1  m  = some v) FU ⟨rfl,rfl,h⟩ ?_
 clear h hT
 rintro m T H ⟨rfl,rfl,h⟩
 cases m
 ·exact none_ne h
 rename_i m
 rw [x38_l1.eq_2] at h
 conv=>whnf
 exact none_ne h
theorem x38_j4_ok {panels:(List (Int×Int))} {p1:((Int×(List Int)×Int×Int)×(List (Int×Int))×(List Int)×(List Int))} {r4:(List Int)} {s4:Int} {s5:Int} {kj4_0:Unit→Option (Int×Int)} {j1:Int} {marks:(List Int)} {s2:Int} {s3:Int} {v:(Int×Int)} {Q:Ex→List AV→List AObj→Prop} {u0:AV} {u1:AV} {u3:AV} {u6:AV} {u7:AV} {u9:AV} {u11:AV} {u17:AV} {u18:AV} {u19:AV} {u20:AV} {u21:AV} {u22:AV} {u23:AV} {u24:AV} {u25:AV} {u26:AV} {u27:AV} {u28:AV} {u29:AV} {u30:AV} {u31:AV} {u32:AV} {u34:AV} {u35:AV} {u36:AV} {u37:AV} {u38:AV} {u42:AV} {u43:AV} {u44:AV} {u45:AV} {u46:AV} {u47:AV} {u48:AV} {u49:AV} {u50:AV} {u51:AV} {u52:AV} {u53:AV} {u54:AV} {u55:AV} {u56:AV} {u57:AV} {u58:AV} {u59:AV} {u60:AV} {u61:AV} {u62:AV} {u63:AV} {u64:AV} {u65:AV} {u66:AV} {u67:AV} {u68:AV} {u69:AV} {u70:AV} {u71:AV} {u72:AV} {u73:AV} {u74:AV} {u75:AV} {u76:AV} {o1:AObj} {Y38_1:List AObj} (hR:∀ T H,RetW [.tmp 6,.tmp 7] (.tuple [(I v.1),(I v.2)]) .ret T H→Q .ret T H) (hkj4_0:∀ (u0:AV) (u1:AV) (u3:AV) (u6:AV) (u7:AV) (u9:AV) (u11:AV) (u15:AV) (u16:AV) (u17:AV) (u18:AV) (u19:AV) (u20:AV) (u21:AV) (u22:AV) (u23:AV) (u24:AV) (u25:AV) (u26:AV) (u27:AV) (u28:AV) (u29:AV) (u30:AV) (u31:AV) (u32:AV) (u34:AV) (u35:AV) (u36:AV) (u37:AV) (u38:AV) (u42:AV) (u43:AV) (u44:AV) (u45:AV) (u46:AV) (u47:AV) (u48:AV) (u49:AV) (u50:AV) (u51:AV) (u52:AV) (u53:AV) (u54:AV) (u55:AV) (u56:AV) (u57:AV) (u58:AV) (u59:AV) (u60:AV) (u61:AV) (u62:AV) (u63:AV) (u64:AV) (u65:AV) (u66:AV) (u67:AV) (u68:AV) (u69:AV) (u70:AV) (u71:AV) (u72:AV) (u73:AV) (u74:AV) (u75:AV) (u76:AV) (Yq:List AObj),kj4_0 ()=some v→Q .normal [u0,u1,(.lst (marks.map I) marks.length .shared),u3,(.ptr 1 0),J,u6,u7,(.lptr ((I p1.1.1)::(.lst (p1.1.2.1.map I) p1.1.2.1.length .shared)::(I p1.1.2.2.1)::(I p1.1.2.2.2)::(.lst (p1.2.1.flatMap pr) p1.2.1.length .shared)::(.lst (p1.2.2.1.map I) p1.2.2.1.length .shared)::(p1.2.2.2.map I))),u9,(I (w (s3+(ix panels (ix r4 s5)).2))),u11,(.lst (r4.map I) r4.length .shared),(I (w (s4+(1:Int)))),J,u15,u16,u17,u18,u19,u20,u21,u22,u23,u24,u25,u26,u27,u28,u29,u30,u31,u32,(I s2),u34,u35,u36,u37,u38,(.lst (r4.map I) r4.length .shared),(I (r4.length:Int)),(I s5),u42,u43,u44,u45,u46,u47,u48,u49,u50,u51,u52,u53,u54,u55,u56,u57,u58,u59,u60,u61,u62,u63,u64,u65,u66,u67,u68,u69,u70,u71,u72,u73,u74,u75,u76] (o1::AObj.cells [(.lst (panels.flatMap pr) panels.length .shared)]::Yq)) (h:x38_j4 panels p1 r4 s4 s5 kj4_0 j1=some v) :
  wpR Tryz.prog ann38 38 0 none xrc38_2 [u0,u1,(.lst (marks.map I) marks.length .shared),u3,(.ptr 1 0),J,u6,u7,(.lptr ((I p1.1.1)::(.lst (p1.1.2.1.map I) p1.1.2.1.length .shared)::(I p1.1.2.2.1)::(I p1.1.2.2.2)::(.lst (p1.2.1.flatMap pr) p1.2.1.length .shared)::(.lst (p1.2.2.1.map I) p1.2.2.1.length .shared)::(p1.2.2.2.map I))),u9,(I s3),u11,(.lst (r4.map I) r4.length .shared),(I s4),J,(.ptr (o1::AObj.cells [(.lst (panels.flatMap pr) panels.length .shared)]::Y38_1).length 0),(I j1),u17,u18,u19,u20,u21,u22,u23,u24,u25,u26,u27,u28,u29,u30,u31,u32,(I s2),u34,u35,u36,u37,u38,(.lst (r4.map I) r4.length .shared),(I (r4.length:Int)),(I s5),u42,u43,u44,u45,u46,u47,u48,u49,u50,u51,u52,u53,u54,u55,u56,u57,u58,u59,u60,u61,u62,u63,u64,u65,u66,u67,u68,u69,u70,u71,u72,u73,u74,u75,u76] ((o1::AObj.cells [(.lst (panels.flatMap pr) panels.length .shared)]::Y38_1)++[AObj.cells [(I (ix r4 s5))]]) Q:=by
 unfold x38_j4 at h
 unfold xrc38_2
 skip
 conv=>whnf
 rcases bt (decide (j1≤(w (s4*(p1.2.2.1.length:Int))))) with hb13 | hb13
 ·rw [hb13]
  conv=>whnf
  replace h:=it_t hb13 h
  obtain rfl:=Option.some.inj h
  exact hR _ _ ⟨.inr rfl,_,rfl,_,frz_pure (pu_tup (allc rfl (allc rfl rfl))),rfl⟩
 ·rw [hb13]
  conv=>whnf
  replace h:=it_f hb13 h
  refine nthK_of (x:=AObj.cells [(I (ix r4 s5))]) (by first | with_reducible exact get_concat _ _ | exact get_concat _ _ | exact ga (get_concat _ _) | rfl | (simp [List.getElem?_append,AV.settle];done)) ?_
  conv=>whnf
  obtain ⟨hb14,h⟩:=gd_some h
  refine ⟨hb14,?_⟩
  rw [dropS pr 2 pr_len panels (ix r4 s5) hb14]
  conv=>whnf
  exact hkj4_0 _ _ _ _ _ _ _ _ _ _ _ _ _ _ _ _ _ _ _ _ _ _ _ _ _ _ _ _ _ _ _ _ _ _ _ _ _ _ _ _ _ _ _ _ _ _ _ _ _ _ _ _ _ _ _ _ _ _ _ _ _ _ _ _ _ _ h
theorem x38_l3_ok {panels:(List (Int×Int))} {marks:(List Int)} {p1:((Int×(List Int)×Int×Int)×(List (Int×Int))×(List Int)×(List Int))} {r4:(List Int)} {kl3_0:Int→Option (Int×Int)} {s3:Int} {s4:Int} {s5:Int} {s2:Int} {v:(Int×Int)} {Q:Ex→List AV→List AObj→Prop} {o1:AObj} {Y38_2:List AObj} (hR:∀ T H,RetW [.tmp 6,.tmp 7] (.tuple [(I v.1),(I v.2)]) .ret T H→Q .ret T H) (hkl3_0:∀ (z1:Int) (u0:AV) (u1:AV) (u3:AV) (u6:AV) (u7:AV) (u9:AV) (u11:AV) (u12:AV) (u13:AV) (u15:AV) (u16:AV) (u17:AV) (u18:AV) (u19:AV) (u20:AV) (u21:AV) (u22:AV) (u23:AV) (u24:AV) (u25:AV) (u26:AV) (u27:AV) (u28:AV) (u29:AV) (u30:AV) (u31:AV) (u32:AV) (u34:AV) (u35:AV) (u36:AV) (u37:AV) (u38:AV) (u39:AV) (u40:AV) (u41:AV) (u42:AV) (u43:AV) (u44:AV) (u45:AV) (u46:AV) (u47:AV) (u48:AV) (u49:AV) (u50:AV) (u51:AV) (u52:AV) (u53:AV) (u54:AV) (u55:AV) (u56:AV) (u57:AV) (u58:AV) (u59:AV) (u60:AV) (u61:AV) (u62:AV) (u63:AV) (u64:AV) (u65:AV) (u66:AV) (u67:AV) (u68:AV) (u69:AV) (u70:AV) (u71:AV) (u72:AV) (u73:AV) (u74:AV) (u75:AV) (u76:AV) (Yq:List AObj),kl3_0 z1=some v→Q (.exit 3) [u0,u1,(.lst (marks.map I) marks.length .shared),u3,(.ptr 1 0),J,u6,u7,(.lptr ((I p1.1.1)::(.lst (p1.1.2.1.map I) p1.1.2.1.length .shared)::(I p1.1.2.2.1)::(I p1.1.2.2.2)::(.lst (p1.2.1.flatMap pr) p1.2.1.length .shared)::(.lst (p1.2.2.1.map I) p1.2.2.1.length .shared)::(p1.2.2.2.map I))),u9,(I z1),u11,u12,u13,J,u15,u16,u17,u18,u19,u20,u21,u22,u23,u24,u25,u26,u27,u28,u29,u30,u31,u32,(I s2),u34,u35,u36,u37,u38,u39,u40,u41,u42,u43,u44,u45,u46,u47,u48,u49,u50,u51,u52,u53,u54,u55,u56,u57,u58,u59,u60,u61,u62,u63,u64,u65,u66,u67,u68,u69,u70,u71,u72,u73,u74,u75,u76] (o1::AObj.cells [(.lst (panels.flatMap pr) panels.length .shared)]::Yq)) {T:List AV} (hT:zipKeep [o_,o_,i_,o_,i_,o_,o_,o_,i_,o_,i_,o_,i_,i_,o_,o_,o_,o_,o_,o_,o_,o_,o_,o_,o_,o_,o_,o_,o_,o_,o_,o_,o_,i_,o_,o_,o_,o_,o_,i_,i_,i_,o_,o_,o_,o_,o_,o_,o_,o_,o_,o_,o_,o_,o_,o_,o_,o_,o_,o_,o_,o_,o_,o_,o_,o_,o_,o_,o_,o_,o_,o_,o_,o_,o_,o_,o_] T=slots 77 [(2,(.lst (marks.map I) marks.length .shared)),(4,(.ptr 1 0)),(8,(.lptr ((I p1.1.1)::(.lst (p1.1.2.1.map I) p1.1.2.1.length .shared)::(I p1.1.2.2.1)::(I p1.1.2.2.2)::(.lst (p1.2.1.flatMap pr) p1.2.1.length .shared)::(.lst (p1.2.2.1.map I) p1.2.2.1.length .shared)::(p1.2.2.2.map I)))),(10,(I s3)),(12,(.lst (r4.map I) r4.length .shared)),(13,(I s4)),(33,(I s2)),(39,(.lst (r4.map I) r4.length .shared)),(40,(I (r4.length:Int))),(41,(I s5))]) (h:x38_l3 panels marks p1 r4 kl3_0 FU s3 s4 s5=some v) :
  wpR Tryz.prog ann38 38 0 none xrc38_3 T (o1::AObj.cells [(.lst (panels.flatMap pr) panels.length .shared)]::Y38_2) Q:=by
 unfold xrc38_3
 obtain ⟨c_2,g_2⟩:∃ c,xrc38_2=c:=⟨_,rfl⟩
 rw [g_2]
 refine wp_loop hT ?_
 refine .intro (fun m T H=>∃ (s3:Int) (s4:Int) (s5:Int) (Y38_1:List AObj),T=slots 77 [(2,(.lst (marks.map I) marks.length .shared)),(4,(.ptr 1 0)),(8,(.lptr ((I p1.1.1)::(.lst (p1.1.2.1.map I) p1.1.2.1.length .shared)::(I p1.1.2.2.1)::(I p1.1.2.2.2)::(.lst (p1.2.1.flatMap pr) p1.2.1.length .shared)::(.lst (p1.2.2.1.map I) p1.2.2.1.length .shared)::(p1.2.2.2.map I)))),(10,(I s3)),(12,(.lst (r4.map I) r4.length .shared)),(13,(I s4)),(33,(I s2)),(39,(.lst (r4.map I) r4.length .shared)),(40,(I (r4.length:Int))),(41,(I s5))]∧H=(o1::AObj.cells [(.lst (panels.flatMap pr) panels.length .shared)]::Y38_1)∧x38_l3 panels marks p1 r4 kl3_0 m s3 s4 s5=some v) FU ⟨s3,s4,s5,Y38_2,rfl,rfl,h⟩ ?_
 clear h hT
 rintro m T H ⟨s3,s4,s5,Y38_1,rfl,rfl,h⟩
 cases m
 ·exact none_ne h
 rename_i m
 rw [x38_l3.eq_2] at h
 conv=>whnf
 rcases bt (decide (s5<(r4.length:Int))) with hb8 | hb8
 ·rw [hb8]
  conv=>whnf
  replace h:=it_t hb8 h
  obtain ⟨hb9,h⟩:=gd_some h
  refine ⟨hb9,?_⟩
  rw [drop1 I r4 s5 hb9]
  conv=>whnf
  refine nthK_of (x:=AObj.cells [(I (0:Int))]) (by first | with_reducible exact get_concat _ _ | exact get_concat _ _ | exact ga (get_concat _ _) | rfl | (simp [List.getElem?_append,AV.settle];done)) ?_
  conv=>whnf
  rw [set_concat]
  refine nthK_of (x:=AObj.cells [(I (ix r4 s5))]) (by first | with_reducible exact get_concat _ _ | exact get_concat _ _ | exact ga (get_concat _ _) | rfl | (simp [List.getElem?_append,AV.settle];done)) ?_
  conv=>whnf
  obtain ⟨r5,hb10,h⟩:=bd_some h
  refine ⟨(allc (pu_map (fun _=>rfl) _ _ _) (allc rfl rfl)),_,x79_ok hb10,?_⟩
  conv=>whnf
  cases r5
  ·conv=>whnf
   replace h:=it_f rfl h
   exact ⟨m,Nat.lt_succ_self m,s3,s4,(w (s5+(1:Int))),_,rfl,rfl,h⟩
  ·conv=>whnf
   replace h:=it_t rfl h
   obtain ⟨r6,hb11,h⟩:=bd_some h
   refine ⟨_,_,call6' (cs:=[(.lst (r4.map I) r4.length .shared),(.func 81 [] [(.lptr [(.lst (panels.flatMap pr) panels.length .shared)]),(.lptr [(I (ix r4 s5))])])]) (bs:=[(.lst (r4.map I) r4.length .shared),(.func 81 [] [(.lptr [(.lst (panels.flatMap pr) panels.length .shared)]),(.lptr [(I (ix r4 s5))])])]) (map_cons' rfl (map_cons' (shz_func map_nil' (map_cons' (shz0_ptr' (cs:=[(.lst (panels.flatMap pr) panels.length .shared)]) (by first | with_reducible exact get_concat _ _ | exact get_concat _ _ | exact ga (get_concat _ _) | rfl | (simp [List.getElem?_append,AV.settle];done)) rfl) (map_cons' (shz0_ptr' (cs:=[(I (ix r4 s5))]) (by first | with_reducible exact get_concat _ _ | exact get_concat _ _ | exact ga (get_concat _ _) | rfl | (simp [List.getElem?_append,AV.settle];done)) rfl) map_nil'))) map_nil')) (by rfl) (by exact (allc (pu_map (fun _=>rfl) _ _ _) (allc (pu_fn rfl (allc (pu_lptr (allc (pu_flat (fun _=>(allc rfl (allc rfl rfl))) _ _ _) rfl)) (allc (pu_lptr (allc rfl rfl)) rfl))) rfl))) (x80_ok ⟨(allc (pu_lptr (allc (pu_flat (fun _=>(allc rfl (allc rfl rfl))) _ _ _) rfl)) (allc (pu_lptr (allc rfl rfl)) rfl)),by simp⟩ (fun _ _ hy=>x81_ok hy) hb11) rfl,?_⟩
   conv=>whnf
   rcases bt (decide (r6<(0:Int))) with hb12 | hb12
   ·rw [hb12]
    conv=>whnf
    replace h:=it_t hb12 h
    subst g_2
    refine x38_j4_ok ?_ ?_ h
    ·exact fun T H hh=>hR T H hh
    ·intro u0 u1 u3 u6 u7 u9 u11 u15 u16 u17 u18 u19 u20 u21 u22 u23 u24 u25 u26 u27 u28 u29 u30 u31 u32 u34 u35 u36 u37 u38 u42 u43 u44 u45 u46 u47 u48 u49 u50 u51 u52 u53 u54 u55 u56 u57 u58 u59 u60 u61 u62 u63 u64 u65 u66 u67 u68 u69 u70 u71 u72 u73 u74 u75 u76 Yq h
     conv=>whnf
     exact ⟨m,Nat.lt_succ_self m,(w (s3+(ix panels (ix r4 s5)).2)),(w (s4+(1:Int))),(w (s5+(1:Int))),_,rfl,rfl,h⟩
   ·rw [hb12]
    conv=>whnf
    replace h:=it_f hb12 h
    subst g_2
    refine x38_j4_ok ?_ ?_ h
    ·exact fun T H hh=>hR T H hh
    ·intro u0 u1 u3 u6 u7 u9 u11 u15 u16 u17 u18 u19 u20 u21 u22 u23 u24 u25 u26 u27 u28 u29 u30 u31 u32 u34 u35 u36 u37 u38 u42 u43 u44 u45 u46 u47 u48 u49 u50 u51 u52 u53 u54 u55 u56 u57 u58 u59 u60 u61 u62 u63 u64 u65 u66 u67 u68 u69 u70 u71 u72 u73 u74 u75 u76 Yq h
     conv=>whnf
     exact ⟨m,Nat.lt_succ_self m,(w (s3+(ix panels (ix r4 s5)).2)),(w (s4+(1:Int))),(w (s5+(1:Int))),_,rfl,rfl,h⟩
 ·rw [hb8]
  conv=>whnf
  replace h:=it_f hb8 h
  exact hkl3_0 _ _ _ _ _ _ _ _ _ _ _ _ _ _ _ _ _ _ _ _ _ _ _ _ _ _ _ _ _ _ _ _ _ _ _ _ _ _ _ _ _ _ _ _ _ _ _ _ _ _ _ _ _ _ _ _ _ _ _ _ _ _ _ _ _ _ _ _ _ _ _ _ h
theorem x38_l2_ok {panels:(List (Int×Int))} {marks:(List Int)} {p1:((Int×(List Int)×Int×Int)×(List (Int×Int))×(List Int)×(List Int))} {kl2_0:Int→Option (Int×Int)} {s1:Int} {s2:Int} {v:(Int×Int)} {Q:Ex→List AV→List AObj→Prop} {o1:AObj}  (hR:∀ T H,RetW [.tmp 6,.tmp 7] (.tuple [(I v.1),(I v.2)]) .ret T H→Q .ret T H) (hkl2_0:∀ (z2:Int) (u0:AV) (u1:AV) (u2:AV) (u3:AV) (u4:AV) (u6:AV) (u7:AV) (u8:AV) (u9:AV) (u11:AV) (u12:AV) (u13:AV) (u15:AV) (u16:AV) (u17:AV) (u18:AV) (u19:AV) (u20:AV) (u21:AV) (u22:AV) (u23:AV) (u24:AV) (u25:AV) (u26:AV) (u27:AV) (u28:AV) (u29:AV) (u30:AV) (u31:AV) (u32:AV) (u33:AV) (u34:AV) (u35:AV) (u36:AV) (u37:AV) (u38:AV) (u39:AV) (u40:AV) (u41:AV) (u42:AV) (u43:AV) (u44:AV) (u45:AV) (u46:AV) (u47:AV) (u48:AV) (u49:AV) (u50:AV) (u51:AV) (u52:AV) (u53:AV) (u54:AV) (u55:AV) (u56:AV) (u57:AV) (u58:AV) (u59:AV) (u60:AV) (u61:AV) (u62:AV) (u63:AV) (u64:AV) (u65:AV) (u66:AV) (u67:AV) (u68:AV) (u69:AV) (u70:AV) (u71:AV) (u72:AV) (u73:AV) (u74:AV) (u75:AV) (u76:AV) (o2:AObj) (Yq:List AObj),kl2_0 z2=some v→Q (.exit 1) [u0,u1,u2,u3,u4,J,u6,u7,u8,u9,(I z2),u11,u12,u13,J,u15,u16,u17,u18,u19,u20,u21,u22,u23,u24,u25,u26,u27,u28,u29,u30,u31,u32,u33,u34,u35,u36,u37,u38,u39,u40,u41,u42,u43,u44,u45,u46,u47,u48,u49,u50,u51,u52,u53,u54,u55,u56,u57,u58,u59,u60,u61,u62,u63,u64,u65,u66,u67,u68,u69,u70,u71,u72,u73,u74,u75,u76] (o1::o2::Yq)) {T:List AV} (hT:zipKeep [o_,o_,i_,o_,i_,o_,o_,o_,i_,o_,i_,o_,o_,o_,o_,o_,o_,o_,o_,o_,o_,o_,o_,o_,o_,o_,o_,o_,o_,o_,o_,o_,o_,i_,o_,o_,o_,o_,o_,o_,o_,o_,o_,o_,o_,o_,o_,o_,o_,o_,o_,o_,o_,o_,o_,o_,o_,o_,o_,o_,o_,o_,o_,o_,o_,o_,o_,o_,o_,o_,o_,o_,o_,o_,o_,o_,o_] T=slots 77 [(2,(.lst (marks.map I) marks.length .shared)),(4,(.ptr 1 0)),(8,(.lptr ((I p1.1.1)::(.lst (p1.1.2.1.map I) p1.1.2.1.length .shared)::(I p1.1.2.2.1)::(I p1.1.2.2.2)::(.lst (p1.2.1.flatMap pr) p1.2.1.length .shared)::(.lst (p1.2.2.1.map I) p1.2.2.1.length .shared)::(p1.2.2.2.map I)))),(10,(I s1)),(33,(I s2))]) (h:x38_l2 panels marks p1 kl2_0 FU s1 s2=some v) :
  wpR Tryz.prog ann38 38 0 none xrc38_1 T [o1,AObj.cells [(.lst (panels.flatMap pr) panels.length .shared)]] Q:=by
 unfold xrc38_1
 obtain ⟨c_3,g_3⟩:∃ c,xrc38_3=c:=⟨_,rfl⟩
 rw [g_3]
 refine wp_loop hT ?_
 refine .intro (fun m T H=>∃ (s1:Int) (s2:Int) (Y38_2:List AObj),T=slots 77 [(2,(.lst (marks.map I) marks.length .shared)),(4,(.ptr 1 0)),(8,(.lptr ((I p1.1.1)::(.lst (p1.1.2.1.map I) p1.1.2.1.length .shared)::(I p1.1.2.2.1)::(I p1.1.2.2.2)::(.lst (p1.2.1.flatMap pr) p1.2.1.length .shared)::(.lst (p1.2.2.1.map I) p1.2.2.1.length .shared)::(p1.2.2.2.map I)))),(10,(I s1)),(33,(I s2))]∧H=(o1::AObj.cells [(.lst (panels.flatMap pr) panels.length .shared)]::Y38_2)∧x38_l2 panels marks p1 kl2_0 m s1 s2=some v) FU ⟨s1,s2,[],rfl,rfl,h⟩ ?_
 clear h hT
 rintro m T H ⟨s1,s2,Y38_2,rfl,rfl,h⟩
 cases m
 ·exact none_ne h
 rename_i m
 rw [x38_l2.eq_2] at h
 conv=>whnf
 rcases bt (decide (s2<(21:Int))) with hb6 | hb6
 ·rw [hb6]
  conv=>whnf
  replace h:=it_t hb6 h
  obtain ⟨r4,hb7,h⟩:=bd_some h
  refine ⟨(allc (pu_lptr (allc rfl (allc (pu_map (fun _=>rfl) _ _ _) (allc rfl (allc rfl (allc (pu_flat (fun _=>(allc rfl (allc rfl rfl))) _ _ _) (allc (pu_map (fun _=>rfl) _ _ _) (pu_run (fun _=>rfl) _)))))))) (allc rfl rfl)),_,x76_ok hb7,?_⟩
  conv=>whnf
  subst g_3
  refine x38_l3_ok ?_ ?_ (by exact rfl) h
  ·exact fun T H hh=>hR T H hh
  ·intro z1 u0 u1 u3 u6 u7 u9 u11 u12 u13 u15 u16 u17 u18 u19 u20 u21 u22 u23 u24 u25 u26 u27 u28 u29 u30 u31 u32 u34 u35 u36 u37 u38 u39 u40 u41 u42 u43 u44 u45 u46 u47 u48 u49 u50 u51 u52 u53 u54 u55 u56 u57 u58 u59 u60 u61 u62 u63 u64 u65 u66 u67 u68 u69 u70 u71 u72 u73 u74 u75 u76 Yq h
   conv=>whnf
   exact ⟨m,Nat.lt_succ_self m,z1,(w (s2+(1:Int))),_,rfl,rfl,h⟩
 ·rw [hb6]
  conv=>whnf
  replace h:=it_f hb6 h
  exact hkl2_0 _ _ _ _ _ _ _ _ _ _ _ _ _ _ _ _ _ _ _ _ _ _ _ _ _ _ _ _ _ _ _ _ _ _ _ _ _ _ _ _ _ _ _ _ _ _ _ _ _ _ _ _ _ _ _ _ _ _ _ _ _ _ _ _ _ _ _ _ _ _ _ _ _ _ _ _ _ h
theorem x38_ok {b:(Int×(List Int)×Int×Int)} {panels:(List (Int×Int))} {marks:(List Int)} {v:(Int×Int)} (h:x38 b panels marks=some v):PO 38 [(.agg [(I b.1),(.lst (b.2.1.map I) b.2.1.length .shared),(I b.2.2.1),(I b.2.2.2)]),(.lst (panels.flatMap pr) panels.length .shared),(.lst (marks.map I) marks.length .shared)] (.tuple [(I v.1),(I v.2)]):=by
 refine fn_pureW hmix lxx38 rfl (pu_tup (allc rfl (allc rfl rfl))) fun Q hQ=>?_
 have hR:∀ T H,RetW [.tmp 6,.tmp 7] (.tuple [(I v.1),(I v.2)]) .ret T H→Q .ret T H:=fun T H hh=>hQ _ T H hh
 unfold x38 at h
 unfold xrc38
 obtain ⟨c_1,g_1⟩:∃ c,xrc38_1=c:=⟨_,rfl⟩
 rw [g_1]
 conv=>whnf
 obtain ⟨r1,hb1,h⟩:=bd_some h
 rcases r1 with ⟨_ | p1,q1⟩
 ·refine ⟨(allc (pu_agg (allc rfl (allc (pu_map (fun _=>rfl) _ _ _) (allc rfl (allc rfl rfl))))) (allc (pu_flat (fun _=>(allc rfl (allc rfl rfl))) _ _ _) rfl)),_,x69_ok hb1,?_⟩
  conv=>whnf
  rcases bt (decide (q1≠(0:Int))) with hb2 | hb2
  ·rw [hb2]
   conv=>whnf
   replace h:=it_t hb2 h
   obtain rfl:=Option.some.inj h
   exact hR _ _ ⟨.inr rfl,_,rfl,_,frz_pure (pu_tup (allc rfl (allc rfl rfl))),rfl⟩
  ·rw [hb2]
   conv=>whnf
   replace h:=it_f hb2 h
   obtain ⟨r2,hb3,h⟩:=bd_some h
   refine ⟨(allc (pu_map (fun _=>rfl) _ _ _) (allc rfl rfl)),_,x61_ok hb3,?_⟩
   conv=>whnf
   cases r2
   ·conv=>whnf
    replace h:=it_f rfl h
    obtain rfl:=Option.some.inj h
    exact hR _ _ ⟨.inr rfl,_,rfl,_,frz_pure (pu_tup (allc rfl (allc rfl rfl))),rfl⟩
   ·conv=>whnf
    replace h:=it_t rfl h
    subst g_1
    refine x38_l1_ok (by exact rfl) h
 ·refine ⟨(allc (pu_agg (allc rfl (allc (pu_map (fun _=>rfl) _ _ _) (allc rfl (allc rfl rfl))))) (allc (pu_flat (fun _=>(allc rfl (allc rfl rfl))) _ _ _) rfl)),_,x69_ok hb1,?_⟩
  conv=>whnf
  rcases bt (decide (q1≠(0:Int))) with hb4 | hb4
  ·rw [hb4]
   conv=>whnf
   replace h:=it_t hb4 h
   obtain rfl:=Option.some.inj h
   exact hR _ _ ⟨.inr rfl,_,rfl,_,frz_pure (pu_tup (allc rfl (allc rfl rfl))),rfl⟩
  ·rw [hb4]
   conv=>whnf
   replace h:=it_f hb4 h
   obtain ⟨r3,hb5,h⟩:=bd_some h
   refine ⟨(allc (pu_map (fun _=>rfl) _ _ _) (allc rfl rfl)),_,x61_ok hb5,?_⟩
   conv=>whnf
   cases r3
   ·conv=>whnf
    replace h:=it_f rfl h
    obtain rfl:=Option.some.inj h
    exact hR _ _ ⟨.inr rfl,_,rfl,_,frz_pure (pu_tup (allc rfl (allc rfl rfl))),rfl⟩
   ·conv=>whnf
    replace h:=it_t rfl h
    subst g_1
    refine x38_l2_ok ?_ ?_ (by exact rfl) h
    ·exact fun T H hh=>hR T H hh
    ·intro z2 u0 u1 u2 u3 u4 u6 u7 u8 u9 u11 u12 u13 u15 u16 u17 u18 u19 u20 u21 u22 u23 u24 u25 u26 u27 u28 u29 u30 u31 u32 u33 u34 u35 u36 u37 u38 u39 u40 u41 u42 u43 u44 u45 u46 u47 u48 u49 u50 u51 u52 u53 u54 u55 u56 u57 u58 u59 u60 u61 u62 u63 u64 u65 u66 u67 u68 u69 u70 u71 u72 u73 u74 u75 u76 o2 Yq h
     conv=>whnf
     obtain rfl:=Option.some.inj h
     exact hR _ _ ⟨.inr rfl,_,rfl,_,frz_pure (pu_tup (allc rfl (allc rfl rfl))),rfl⟩

noncomputable def xrc82_1:RC :=
 .loop (some [i_,i_,i_,i_,o_,o_,o_,o_,o_,i_,i_,o_,o_,o_,o_,o_,o_,o_,o_,o_,o_,o_,o_,o_,o_,o_,o_,o_,o_,o_,o_,o_,o_,o_,o_,o_,o_,o_,o_,o_,o_,o_,o_,o_,o_,o_,o_,o_,o_,o_,o_,o_,o_,o_,o_,o_,o_,o_,o_,o_,o_,o_,o_,o_,o_,o_]) (.seq (.seq (.reg false [I_ 12 [.sl 10] .mv,I_ 13 [.sl 1] .mv,I_ 14 [.tk 13] .lenS,I_ 15 [.tv 12,.tv 14] (.bin .lss)]) (.cond (.sl 15) .skip (.exit 0))) (.seq (.block 1 (.seq (.reg false [I_ 18 [.sl 0]
 .mv,I_ 19 [.sl 1] .mv,I_ 20 [.sl 10] .mv,I_ 21 [.tv 19,.tv 20] (.ia 1),I_ 22 [.tv 21] (.ld .one),I_ 23 [.tv 18,.tv 22] (.ia 2),I_ 24 [.tv 23] (.ld (.str 2)),I_ 11 [] (.alloc [.int .i64 0,.int .i64 0]),⟨none,[.sl 11,
 .tk 24],none,none,.st 2⟩]) (.seq (.seq (.reg true [I_ 25 [.sl 11] (.fa 0),I_ 26 [.tv 25] (.ld .one),I_ 27 [.sl 0] .mv,I_ 28 [.sl 2] .mv,I_ 29 [.tv 27,.tv 28] (.ia 2),I_ 30 [.tv 29] (.fa 0),I_ 31 [.tv 30] (.ld .one),
 I_ 32 [.tv 26,.tv 31] (.bin .neq),I_ 33 [.tk 32] .mv,⟨some 34,[.sl 11],some (33,false),none,.fa 1⟩,⟨some 35,[.tv 34],some (33,false),none,.ld .one⟩,⟨some 36,[.sl 0],some (33,false),none,.mv⟩,⟨some 37,[.sl
 2],some (33,false),none,.mv⟩,⟨some 38,[.tv 36,.tv 37],some (33,false),none,.ia 2⟩,⟨some 39,[.tv 38],some (33,false),none,.fa 1⟩,⟨some 40,[.tv 39],some (33,false),none,.ld .one⟩,⟨some 41,[.tv 35,.tv
 40],some (33,false),none,.bin .lss⟩,I_ 42 [.sl 33,.cv (.bool true),.tv 41] .pick]) (.cond (.sl 42) (.exit 1) .skip)) (.seq (.reg true [I_ 43 [.sl 3] .mv,I_ 44 [.tv 43] (.un .not),I_ 45 [.tk 44] .mv,⟨some 46,[.tv 11],
 some (45,false),none,.fa 1⟩,⟨some 47,[.tv 46],some (45,false),none,.ld .one⟩,⟨some 48,[.sl 0],some (45,false),none,.mv⟩,⟨some 49,[.sl 2],some (45,false),none,.mv⟩,⟨some 50,[.tv 48,.tv 49],some (45,
 false),none,.ia 2⟩,⟨some 51,[.tv 50],some (45,false),none,.fa 1⟩,⟨some 52,[.tv 51],some (45,false),none,.ld .one⟩,⟨some 53,[.tv 47,.tv 52],some (45,false),none,.bin .gtr⟩,I_ 54 [.sl 45,.cv (.bool true),
 .tv 53] .pick,I_ 55 [.tk 54] .mv,⟨some 56,[.sl 1],some (55,false),none,.mv⟩,⟨some 57,[.sl 10],some (55,false),none,.mv⟩,⟨some 58,[.tv 56,.tv 57],some (55,false),none,.ia 1⟩,⟨some 59,[.tv 58],some (55,
 false),none,.ld .one⟩,⟨some 60,[.sl 2],some (55,false),none,.mv⟩,⟨some 61,[.tv 59,.tv 60],some (55,false),none,.bin .lss⟩,I_ 62 [.sl 55,.cv (.bool true),.tv 61] .pick]) (.cond (.sl 62) (.reg false [I_ 63 [.tk
 9] .mv,I_ 64 [.tv 63,.cv (.int .i64 1)] (.bin .add),I_ 9 [.tk 64] .mv]) .skip))))) (.reg false [I_ 16 [.tk 10] .mv,I_ 17 [.tv 16,.cv (.int .i64 1)] (.bin .add),I_ 10 [.tk 17] .mv])))
noncomputable def xrc82:RC :=
 .seq (.reg false [I_ 8 [.cv (.int .i64 0)] .mv]) (.seq (.reg false [I_ 9 [.cv (.int .i64 0)] .mv]) (.seq (.seq (.reg false [I_ 10 [.cv (.int .i64 0)] .mv]) (.block 0 xrc82_1)) (.seq (.reg false [I_ 65 [.tk 9] .mv,I_ 8 [.tk 65]
 .mv]) .ret)))
theorem lxx82:linkF Tryz.prog ann82 82=some (xrc82,66,[.tmp 8]):=by kernel_rfl
def x82_l1 (panels:(List (Int×Int))) (someq:(List Int)) (one:Int) (before:Bool) (kl1_0:Int→Option Int):Nat→Int→Int→Option Int
 | 0,_,_=>none
 | m+1,s1,s2 =>
   if (decide (s2<(someq.length:Int)))=true then
    gd (0≤s2∧s2<(someq.length:Int)) <|
    gd (0≤(ix someq s2)∧(ix someq s2)<(panels.length:Int)) <|
    gd (0≤one∧one<(panels.length:Int)) <|
    if (decide ((ix panels (ix someq s2)).1≠(ix panels one).1))=true then
     x82_l1 panels someq one before kl1_0 m s1 (w (s2+(1:Int)))
    else
     gd (0≤one∧one<(panels.length:Int)) <|
     if (decide ((ix panels (ix someq s2)).2<(ix panels one).2))=true then
      x82_l1 panels someq one before kl1_0 m s1 (w (s2+(1:Int)))
     else
      if before=true then
       gd (0≤one∧one<(panels.length:Int)) <|
       if (decide ((ix panels one).2<(ix panels (ix someq s2)).2))=true then
        x82_l1 panels someq one before kl1_0 m (w (s1+(1:Int))) (w (s2+(1:Int)))
       else
        gd (0≤s2∧s2<(someq.length:Int)) <|
        if (decide ((ix someq s2)<one))=true then
         x82_l1 panels someq one before kl1_0 m (w (s1+(1:Int))) (w (s2+(1:Int)))
        else
         x82_l1 panels someq one before kl1_0 m s1 (w (s2+(1:Int)))
      else
       x82_l1 panels someq one before kl1_0 m (w (s1+(1:Int))) (w (s2+(1:Int)))
   else
    kl1_0 s1
def x82 (panels:(List (Int×Int))) (someq:(List Int)) (one:Int) (before:Bool):Option Int :=
 x82_l1 panels someq one before (fun z1 =>
   some z1) FU (0:Int) (0:Int)
theorem x82_l1_ok {panels:(List (Int×Int))} {someq:(List Int)} {one:Int} {before:Bool} {kl1_0:Int→Option Int} {s1:Int} {s2:Int} {v:Int} {Q:Ex→List AV→List AObj→Prop}   (hkl1_0:∀ (z1:Int) (u0:AV) (u1:AV) (u2:AV) (u3:AV) (u7:AV) (u8:AV) (u10:AV) (u11:AV) (u12:AV) (u13:AV) (u14:AV) (u15:AV) (u16:AV) (u17:AV) (u18:AV) (u19:AV) (u20:AV) (u21:AV) (u22:AV) (u23:AV) (u24:AV) (u25:AV) (u26:AV) (u27:AV) (u28:AV) (u29:AV) (u30:AV) (u31:AV) (u32:AV) (u33:AV) (u34:AV) (u35:AV) (u36:AV) (u37:AV) (u38:AV) (u39:AV) (u40:AV) (u41:AV) (u42:AV) (u43:AV) (u44:AV) (u45:AV) (u46:AV) (u47:AV) (u48:AV) (u49:AV) (u50:AV) (u51:AV) (u52:AV) (u53:AV) (u54:AV) (u55:AV) (u56:AV) (u57:AV) (u58:AV) (u59:AV) (u60:AV) (u61:AV) (u62:AV) (u63:AV) (u64:AV) (u65:AV) (Yq:List AObj),kl1_0 z1=some v→Q (.exit 0) [u0,u1,u2,u3,J,J,J,u7,u8,(I z1),u10,u11,u12,u13,u14,u15,u16,u17,u18,u19,u20,u21,u22,u23,u24,u25,u26,u27,u28,u29,u30,u31,u32,u33,u34,u35,u36,u37,u38,u39,u40,u41,u42,u43,u44,u45,u46,u47,u48,u49,u50,u51,u52,u53,u54,u55,u56,u57,u58,u59,u60,u61,u62,u63,u64,u65] (Yq)) {T:List AV} (hT:zipKeep [i_,i_,i_,i_,o_,o_,o_,o_,o_,i_,i_,o_,o_,o_,o_,o_,o_,o_,o_,o_,o_,o_,o_,o_,o_,o_,o_,o_,o_,o_,o_,o_,o_,o_,o_,o_,o_,o_,o_,o_,o_,o_,o_,o_,o_,o_,o_,o_,o_,o_,o_,o_,o_,o_,o_,o_,o_,o_,o_,o_,o_,o_,o_,o_,o_,o_] T=slots 66 [(0,(.lst (panels.flatMap pr) panels.length .shared)),(1,(.lst (someq.map I) someq.length .shared)),(2,(I one)),(3,(B before)),(9,(I s1)),(10,(I s2))]) (h:x82_l1 panels someq one before kl1_0 FU s1 s2=some v) :
  wpR Tryz.prog ann82 82 0 none xrc82_1 T [] Q:=by
 unfold xrc82_1
 skip
 refine wp_loop hT ?_
 refine .intro (fun m T H=>∃ (s1:Int) (s2:Int) (Y82_1:List AObj),T=slots 66 [(0,(.lst (panels.flatMap pr) panels.length .shared)),(1,(.lst (someq.map I) someq.length .shared)),(2,(I one)),(3,(B before)),(9,(I s1)),(10,(I s2))]∧H=(Y82_1)∧x82_l1 panels someq one before kl1_0 m s1 s2=some v) FU ⟨s1,s2,[],rfl,rfl,h⟩ ?_
 clear h hT
 rintro m T H ⟨s1,s2,Y82_1,rfl,rfl,h⟩
 cases m
 ·exact none_ne h
 rename_i m
 rw [x82_l1.eq_2] at h
 conv=>whnf
 rcases bt (decide (s2<(someq.length:Int))) with hb1 | hb1
 ·rw [hb1]
  conv=>whnf
  replace h:=it_t hb1 h
  obtain ⟨hb2,h⟩:=gd_some h
  refine ⟨hb2,?_⟩
  rw [drop1 I someq s2 hb2]
  conv=>whnf
  obtain ⟨hb3,h⟩:=gd_some h
  refine ⟨hb3,?_⟩
  rw [dropS pr 2 pr_len panels (ix someq s2) hb3]
  conv=>whnf
  refine nthK_of (x:=AObj.cells [(I (0:Int)),(I (0:Int))]) (by first | with_reducible exact get_concat _ _ | exact get_concat _ _ | exact ga (get_concat _ _) | rfl | (simp [List.getElem?_append,AV.settle];done)) ?_
  conv=>whnf
  rw [set_concat]
  refine nthK_of (x:=AObj.cells [(I (ix panels (ix someq s2)).1),(I (ix panels (ix someq s2)).2)]) (by first | with_reducible exact get_concat _ _ | exact get_concat _ _ | exact ga (get_concat _ _) | rfl | (simp [List.getElem?_append,AV.settle];done)) ?_
  conv=>whnf
  obtain ⟨hb4,h⟩:=gd_some h
  refine ⟨hb4,?_⟩
  rw [dropS pr 2 pr_len panels one hb4]
  conv=>whnf
  rcases bt (decide ((ix panels (ix someq s2)).1≠(ix panels one).1)) with hb5 | hb5
  ·rw [hb5]
   conv=>whnf
   replace h:=it_t hb5 h
   exact ⟨m,Nat.lt_succ_self m,s1,(w (s2+(1:Int))),_,rfl,rfl,h⟩
  ·rw [hb5]
   conv=>whnf
   replace h:=it_f hb5 h
   refine nthK_of (x:=AObj.cells [(I (ix panels (ix someq s2)).1),(I (ix panels (ix someq s2)).2)]) (by first | with_reducible exact get_concat _ _ | exact get_concat _ _ | exact ga (get_concat _ _) | rfl | (simp [List.getElem?_append,AV.settle];done)) ?_
   conv=>whnf
   obtain ⟨hb6,h⟩:=gd_some h
   refine ⟨hb6,?_⟩
   rw [dropS pr 2 pr_len panels one hb6]
   conv=>whnf
   rcases bt (decide ((ix panels (ix someq s2)).2<(ix panels one).2)) with hb7 | hb7
   ·rw [hb7]
    conv=>whnf
    replace h:=it_t hb7 h
    exact ⟨m,Nat.lt_succ_self m,s1,(w (s2+(1:Int))),_,rfl,rfl,h⟩
   ·rw [hb7]
    conv=>whnf
    replace h:=it_f hb7 h
    cases before
    ·conv=>whnf
     replace h:=it_f rfl h
     exact ⟨m,Nat.lt_succ_self m,(w (s1+(1:Int))),(w (s2+(1:Int))),_,rfl,rfl,h⟩
    ·conv=>whnf
     replace h:=it_t rfl h
     refine nthK_of (x:=AObj.cells [(I (ix panels (ix someq s2)).1),(I (ix panels (ix someq s2)).2)]) (by first | with_reducible exact get_concat _ _ | exact get_concat _ _ | exact ga (get_concat _ _) | rfl | (simp [List.getElem?_append,AV.settle];done)) ?_
     conv=>whnf
     obtain ⟨hb8,h⟩:=gd_some h
     refine ⟨hb8,?_⟩
     rw [dropS pr 2 pr_len panels one hb8]
     conv=>whnf
     rcases bt (decide ((ix panels one).2<(ix panels (ix someq s2)).2)) with hb9 | hb9
     ·rw [hb9]
      conv=>whnf
      replace h:=it_t hb9 h
      exact ⟨m,Nat.lt_succ_self m,(w (s1+(1:Int))),(w (s2+(1:Int))),_,rfl,rfl,h⟩
     ·rw [hb9]
      conv=>whnf
      replace h:=it_f hb9 h
      obtain ⟨hb10,h⟩:=gd_some h
      refine ⟨hb10,?_⟩
      rw [drop1 I someq s2 hb10]
      conv=>whnf
      rcases bt (decide ((ix someq s2)<one)) with hb11 | hb11
      ·rw [hb11]
       conv=>whnf
       replace h:=it_t hb11 h
       exact ⟨m,Nat.lt_succ_self m,(w (s1+(1:Int))),(w (s2+(1:Int))),_,rfl,rfl,h⟩
      ·rw [hb11]
       conv=>whnf
       replace h:=it_f hb11 h
       exact ⟨m,Nat.lt_succ_self m,s1,(w (s2+(1:Int))),_,rfl,rfl,h⟩
 ·rw [hb1]
  conv=>whnf
  replace h:=it_f hb1 h
  exact hkl1_0 _ _ _ _ _ _ _ _ _ _ _ _ _ _ _ _ _ _ _ _ _ _ _ _ _ _ _ _ _ _ _ _ _ _ _ _ _ _ _ _ _ _ _ _ _ _ _ _ _ _ _ _ _ _ _ _ _ _ _ _ _ _ _ _ h
theorem x82_ok {panels:(List (Int×Int))} {someq:(List Int)} {one:Int} {before:Bool} {v:Int} (h:x82 panels someq one before=some v):PO 82 [(.lst (panels.flatMap pr) panels.length .shared),(.lst (someq.map I) someq.length .shared),(I one),(B before)] (I v):=by
 refine fn_pureW hmix lxx82 rfl rfl fun Q hQ=>?_
 have hR:∀ T H,RetW [.tmp 8] (I v) .ret T H→Q .ret T H:=fun T H hh=>hQ _ T H hh
 unfold x82 at h
 unfold xrc82
 obtain ⟨c_1,g_1⟩:∃ c,xrc82_1=c:=⟨_,rfl⟩
 rw [g_1]
 conv=>whnf
 subst g_1
 refine x82_l1_ok ?_ (by exact rfl) h
 intro z1 u0 u1 u2 u3 u7 u8 u10 u11 u12 u13 u14 u15 u16 u17 u18 u19 u20 u21 u22 u23 u24 u25 u26 u27 u28 u29 u30 u31 u32 u33 u34 u35 u36 u37 u38 u39 u40 u41 u42 u43 u44 u45 u46 u47 u48 u49 u50 u51 u52 u53 u54 u55 u56 u57 u58 u59 u60 u61 u62 u63 u64 u65 Yq h
 conv=>whnf
 obtain rfl:=Option.some.inj h
 exact hR _ _ ⟨.inr rfl,_,rfl,_,frz_pure rfl,rfl⟩

noncomputable def xrc83_1:RC :=
 .loop (some [i_,o_,o_,i_,i_,o_,o_,o_,o_,o_,o_,o_,o_,o_,o_,o_]) (.seq (.seq (.reg false [I_ 5 [.sl 4] .mv,I_ 6 [.sl 0] .mv,I_ 7 [.tk 6] .lenS,I_ 8 [.tv 5,.tv 7] (.bin
 .lss)]) (.cond (.sl 8) .skip (.exit 0))) (.seq (.block 1 (.reg false [I_ 11 [.tk 3] .mv,I_ 12 [.sl 4] .mv,I_ 13 [.tv 12] (.buildS 1 1 [.int .i64 0] [0]),I_ 14 [.tk 11,.tk 13] (.app 1 8),I_ 3 [.tk 14] .mv])) (.reg false [I_
 9 [.tk 4] .mv,I_ 10 [.tv 9,.cv (.int .i64 1)] (.bin .add),I_ 4 [.tk 10] .mv])))
noncomputable def xrc83:RC :=
 .seq (.reg false [I_ 2 [.cv (.lst [] 0 .full)] (.nil 1)]) (.seq (.reg false [I_ 3 [.cv (.lst [] 0 .full)] (.nil 1)]) (.seq (.seq (.reg false [I_ 4 [.cv (.int .i64 0)] .mv]) (.block 0 xrc83_1)) (.seq (.reg false [I_ 15 [.tk 3]
 .mv,I_ 2 [.tk 15] .mv]) .ret)))
theorem lxx83:linkF Tryz.prog ann83 83=some (xrc83,16,[.tmp 2]):=by kernel_rfl
def x83_l1 (panels:(List (Int×Int))) (kl1_0:(List Int)→Option (List Int)):Nat→(List Int)→Int→Option (List Int)
 | 0,_,_=>none
 | m+1,s1,s2 =>
   if (decide (s2<(panels.length:Int)))=true then
    gd ((s1.length+1)*8≤140737488355328) <|
    x83_l1 panels kl1_0 m (s1++[s2]) (w (s2+(1:Int)))
   else
    kl1_0 s1
def x83 (panels:(List (Int×Int))):Option (List Int) :=
 x83_l1 panels (fun z1 =>
   some z1) FU ([]:List Int) (0:Int)
theorem x83_l1_ok {panels:(List (Int×Int))} {kl1_0:(List Int)→Option (List Int)} {s1:(List Int)} {s2:Int} {v:(List Int)} {Q:Ex→List AV→List AObj→Prop}   (hkl1_0:∀ (z1:(List Int)) (u0:AV) (u2:AV) (u4:AV) (u5:AV) (u6:AV) (u7:AV) (u8:AV) (u9:AV) (u10:AV) (u11:AV) (u12:AV) (u13:AV) (u14:AV) (u15:AV),kl1_0 z1=some v→Q (.exit 0) [u0,J,u2,(.lst (z1.map I) z1.length (.uniq 1)),u4,u5,u6,u7,u8,u9,u10,u11,u12,u13,u14,u15] []) {T:List AV} (hT:zipKeep [i_,o_,o_,i_,i_,o_,o_,o_,o_,o_,o_,o_,o_,o_,o_,o_] T=slots 16 [(0,(.lst (panels.flatMap pr) panels.length .shared)),(3,(.lst (s1.map I) s1.length (.uniq 1))),(4,(I s2))]) (h:x83_l1 panels kl1_0 FU s1 s2=some v) :
  wpR Tryz.prog ann83 83 0 none xrc83_1 T [] Q:=by
 unfold xrc83_1
 skip
 refine wp_loop hT ?_
 refine .intro (fun m T H=>∃ (s1:(List Int)) (s2:Int),T=slots 16 [(0,(.lst (panels.flatMap pr) panels.length .shared)),(3,(.lst (s1.map I) s1.length (.uniq 1))),(4,(I s2))]∧H=[]∧x83_l1 panels kl1_0 m s1 s2=some v) FU ⟨s1,s2,rfl,rfl,h⟩ ?_
 clear h hT
 rintro m T H ⟨s1,s2,rfl,rfl,h⟩
 cases m
 ·exact none_ne h
 rename_i m
 rw [x83_l1.eq_2] at h
 conv=>whnf
 rcases bt (decide (s2<(panels.length:Int))) with hb1 | hb1
 ·rw [hb1]
  conv=>whnf
  replace h:=it_t hb1 h
  obtain ⟨hb2,h⟩:=gd_some h
  refine ⟨by first | rfl | simp,by have:=hb2;omega,rfl,hb2,?_⟩
  erw [apnd1 I s1 s2]
  conv=>whnf
  exact ⟨m,Nat.lt_succ_self m,(s1++[s2]),(w (s2+(1:Int))),rfl,rfl,h⟩
 ·rw [hb1]
  conv=>whnf
  replace h:=it_f hb1 h
  exact hkl1_0 _ _ _ _ _ _ _ _ _ _ _ _ _ _ _ h
theorem x83_ok {panels:(List (Int×Int))} {v:(List Int)} (h:x83 panels=some v):PO 83 [(.lst (panels.flatMap pr) panels.length .shared)] (.lst (v.map I) v.length .shared):=by
 refine fn_pureW hmix lxx83 rfl (pu_map (fun _=>rfl) _ _ _) fun Q hQ=>?_
 have hR:∀ T H,RetW [.tmp 2] (.lst (v.map I) v.length .shared) .ret T H→Q .ret T H:=fun T H hh=>hQ _ T H hh
 unfold x83 at h
 unfold xrc83
 obtain ⟨c_1,g_1⟩:∃ c,xrc83_1=c:=⟨_,rfl⟩
 rw [g_1]
 conv=>whnf
 subst g_1
 refine x83_l1_ok ?_ (by exact rfl) h
 intro z1 u0 u2 u4 u5 u6 u7 u8 u9 u10 u11 u12 u13 u14 u15 h
 conv=>whnf
 obtain rfl:=Option.some.inj h
 exact hR _ _ ⟨.inr rfl,_,rfl,_,frz_pure (pu_map (fun _=>rfl) _ _ _),rfl⟩

noncomputable def xrc39_1:RC :=
 .loop (some [o_,i_,i_,o_,o_,o_,o_,o_,i_,i_,i_,o_,o_,o_,o_,o_,o_,o_,o_,o_,o_,o_,o_,o_,o_,o_,o_,o_,o_,o_,o_,o_,o_,o_,o_,o_,o_,o_,o_,o_,o_,o_,o_,o_,o_,o_,o_,o_,o_,o_,o_,o_,o_,o_,o_,o_,o_,o_,o_,o_,o_,o_,o_,o_]) (.seq (.seq (.reg false [I_ 27 [.sl 10] .mv,I_ 28 [.sl 2] .mv,I_ 29 [.tk 28] .lenS,I_ 30 [.tv 27,.tv 29] (.bin .lss)]) (.cond (.sl 30) .skip (.exit 0))) (.seq (.block 1 (.seq (.reg false [I_ 33 [.sl 1] .mv,I_ 34
 [.sl 2] .mv,I_ 35 [.sl 2] .mv,I_ 36 [.sl 10] .mv,I_ 37 [.tv 35,.tv 36] (.ia 1),I_ 38 [.tv 37] (.ld .one),I_ 39 [.cv (.func 82 [] []),.sl 33,.sl 34,.sl 38,.cv (.bool true)] (.call 3),I_ 11 [.tk 39] .mv]) (.seq (.seq
 (.reg true [I_ 40 [.sl 1] .mv,I_ 41 [.sl 1] .mv,I_ 42 [.cv (.func 83 [] []),.sl 41] (.call 3),I_ 43 [.sl 2] .mv,I_ 44 [.sl 10] .mv,I_ 45 [.tv 43,.tv 44] (.ia 1),I_ 46 [.tv 45] (.ld .one),I_ 47 [.cv (.func 82 [] []),
 .sl 40,.sl 42,.sl 46,.cv (.bool false)] (.call 3),I_ 48 [.tk 11] .mv,I_ 49 [.sl 8] .mv,I_ 50 [.tv 48,.tv 49] (.bin .mul),I_ 51 [.tv 50,.cv (.int .i64 1)] (.bin .add),I_ 52 [.tv 47,.tv 51] (.bin .lss)]) (.cond (.sl
 52) (.seq (.reg false [I_ 6 [.cv (.int .i64 0)] .mv,I_ 7 [.cv (.int .i64 14)] .mv]) .ret) .skip)) (.reg false [I_ 53 [.tk 9] .mv,I_ 54 [.sl 1] .mv,I_ 55 [.sl 2] .mv,I_ 56 [.sl 10] .mv,I_ 57 [.tv 55,.tv 56] (.ia 1),I_ 58
 [.tv 57] (.ld .one),I_ 59 [.tv 54,.tv 58] (.ia 2),I_ 60 [.tv 59] (.fa 1),I_ 61 [.tv 60] (.ld .one),I_ 62 [.tv 53,.tv 61] (.bin .add),I_ 9 [.tk 62] .mv])))) (.reg false [I_ 31 [.tk 10] .mv,I_ 32 [.tv 31,.cv (.int .i64
 1)] (.bin .add),I_ 10 [.tk 32] .mv])))
noncomputable def xrc39:RC :=
 .seq (.reg false [I_ 3 [.tk 0] .box,I_ 6 [.cv (.int .i64 0)] .mv,I_ 7 [.cv (.int .i64 0)] .mv]) (.seq (.seq (.reg false [I_ 12 [.sl 3] (.ld (.str 4)),I_ 13 [.sl 1] .mv,I_ 14 [.cv (.func 66 [] []),.sl 12,.sl 13] (.call 3),
 I_ 15 [.tv 14,.cv (.int .i64 0)] (.bin .neq)]) (.cond (.sl 15) (.seq (.reg false [I_ 16 [.tv 3] (.ld (.str 4)),I_ 17 [.tk 1] .mv,I_ 18 [.cv (.func 66 [] []),.sl 16,.sl 17] (.call 3),I_ 6 [.cv (.int .i64 0)] .mv,I_ 7 [.tk
 18] .mv]) .ret) .skip)) (.seq (.seq (.reg false [I_ 19 [.sl 2] .mv,I_ 20 [.sl 1] .mv,I_ 21 [.tk 20] .lenS,I_ 22 [.cv (.func 62 [] []),.sl 19,.sl 21] (.call 3),I_ 23 [.tv 22] (.un .not)]) (.cond (.sl 23) (.seq (.reg false
 [I_ 6 [.cv (.int .i64 0)] .mv,I_ 7 [.cv (.int .i64 2)] .mv]) .ret) .skip)) (.seq (.reg false [I_ 24 [.tv 3] (.ld (.str 4)),I_ 25 [.cv (.func 51 [] []),.sl 24] (.call 3),I_ 26 [.tk 25] .lenS,I_ 8 [.tk 26] .mv,I_ 9 [.cv
 (.int .i64 0)] .mv]) (.seq (.seq (.reg false [I_ 10 [.cv (.int .i64 0)] .mv]) (.block 0 xrc39_1)) (.seq (.reg false [I_ 63 [.tk 9] .mv,I_ 6 [.tk 63] .mv,I_ 7 [.cv (.int .i64 0)] .mv]) .ret)))))
theorem lxx39:linkF Tryz.prog ann39 39=some (xrc39,64,[.tmp 6,.tmp 7]):=by kernel_rfl
def x39_l1 (panels:(List (Int×Int))) (marks:(List Int)) (r4:(List Int)) (kl1_0:Int→Option (Int×Int)):Nat→Int→Int→Option (Int×Int)
 | 0,_,_=>none
 | m+1,s1,s2 =>
   if (decide (s2<(marks.length:Int)))=true then
    gd (0≤s2∧s2<(marks.length:Int)) <|
    (x82 panels marks (ix marks s2) true).bind fun r5 =>
    (x83 panels).bind fun r6 =>
    gd (0≤s2∧s2<(marks.length:Int)) <|
    (x82 panels r6 (ix marks s2) false).bind fun r7 =>
    if (decide (r7<(w ((w (r5*(r4.length:Int)))+(1:Int)))))=true then
     some ((0:Int),(14:Int))
    else
     gd (0≤s2∧s2<(marks.length:Int)) <|
     gd (0≤(ix marks s2)∧(ix marks s2)<(panels.length:Int)) <|
     x39_l1 panels marks r4 kl1_0 m (w (s1+(ix panels (ix marks s2)).2)) (w (s2+(1:Int)))
   else
    kl1_0 s1
def x39 (b:(Int×(List Int)×Int×Int)) (panels:(List (Int×Int))) (marks:(List Int)):Option (Int×Int) :=
 (x66 b panels).bind fun r1 =>
 if (decide (r1≠(0:Int)))=true then
  (x66 b panels).bind fun r2 =>
  some ((0:Int),r2)
 else
  (x62 marks (panels.length:Int)).bind fun r3 =>
  if r3=true then
   (x51 b).bind fun r4 =>
   x39_l1 panels marks r4 (fun z1 =>
     some (z1,(0:Int))) FU (0:Int) (0:Int)
  else
   some ((0:Int),(2:Int))
theorem x39_l1_ok {panels:(List (Int×Int))} {marks:(List Int)} {r4:(List Int)} {kl1_0:Int→Option (Int×Int)} {s1:Int} {s2:Int} {v:(Int×Int)} {Q:Ex→List AV→List AObj→Prop} {o1:AObj}  (hR:∀ T H,RetW [.tmp 6,.tmp 7] (.tuple [(I v.1),(I v.2)]) .ret T H→Q .ret T H) (hkl1_0:∀ (z1:Int) (u0:AV) (u1:AV) (u2:AV) (u3:AV) (u6:AV) (u7:AV) (u8:AV) (u10:AV) (u11:AV) (u12:AV) (u13:AV) (u14:AV) (u15:AV) (u16:AV) (u17:AV) (u18:AV) (u19:AV) (u20:AV) (u21:AV) (u22:AV) (u23:AV) (u24:AV) (u25:AV) (u26:AV) (u27:AV) (u28:AV) (u29:AV) (u30:AV) (u31:AV) (u32:AV) (u33:AV) (u34:AV) (u35:AV) (u36:AV) (u37:AV) (u38:AV) (u39:AV) (u40:AV) (u41:AV) (u42:AV) (u43:AV) (u44:AV) (u45:AV) (u46:AV) (u47:AV) (u48:AV) (u49:AV) (u50:AV) (u51:AV) (u52:AV) (u53:AV) (u54:AV) (u55:AV) (u56:AV) (u57:AV) (u58:AV) (u59:AV) (u60:AV) (u61:AV) (u62:AV) (u63:AV),kl1_0 z1=some v→Q (.exit 0) [u0,u1,u2,u3,J,J,u6,u7,u8,(I z1),u10,u11,u12,u13,u14,u15,u16,u17,u18,u19,u20,u21,u22,u23,u24,u25,u26,u27,u28,u29,u30,u31,u32,u33,u34,u35,u36,u37,u38,u39,u40,u41,u42,u43,u44,u45,u46,u47,u48,u49,u50,u51,u52,u53,u54,u55,u56,u57,u58,u59,u60,u61,u62,u63] [o1]) {T:List AV} (hT:zipKeep [o_,i_,i_,o_,o_,o_,o_,o_,i_,i_,i_,o_,o_,o_,o_,o_,o_,o_,o_,o_,o_,o_,o_,o_,o_,o_,o_,o_,o_,o_,o_,o_,o_,o_,o_,o_,o_,o_,o_,o_,o_,o_,o_,o_,o_,o_,o_,o_,o_,o_,o_,o_,o_,o_,o_,o_,o_,o_,o_,o_,o_,o_,o_,o_] T=slots 64 [(1,(.lst (panels.flatMap pr) panels.length .shared)),(2,(.lst (marks.map I) marks.length .shared)),(8,(I (r4.length:Int))),(9,(I s1)),(10,(I s2))]) (h:x39_l1 panels marks r4 kl1_0 FU s1 s2=some v) :
  wpR Tryz.prog ann39 39 0 none xrc39_1 T [o1] Q:=by
 unfold xrc39_1
 skip
 refine wp_loop hT ?_
 refine .intro (fun m T H=>∃ (s1:Int) (s2:Int),T=slots 64 [(1,(.lst (panels.flatMap pr) panels.length .shared)),(2,(.lst (marks.map I) marks.length .shared)),(8,(I (r4.length:Int))),(9,(I s1)),(10,(I s2))]∧H=[o1]∧x39_l1 panels marks r4 kl1_0 m s1 s2=some v) FU ⟨s1,s2,rfl,rfl,h⟩ ?_
 clear h hT
 rintro m T H ⟨s1,s2,rfl,rfl,h⟩
 cases m
 ·exact none_ne h
 rename_i m
 rw [x39_l1.eq_2] at h
 conv=>whnf
 rcases bt (decide (s2<(marks.length:Int))) with hb6 | hb6
 ·rw [hb6]
  conv=>whnf
  replace h:=it_t hb6 h
  obtain ⟨hb7,h⟩:=gd_some h
  refine ⟨hb7,?_⟩
  rw [drop1 I marks s2 hb7]
  conv=>whnf
  obtain ⟨r5,hb8,h⟩:=bd_some h
  refine ⟨(allc (pu_flat (fun _=>(allc rfl (allc rfl rfl))) _ _ _) (allc (pu_map (fun _=>rfl) _ _ _) (allc rfl (allc rfl rfl)))),_,x82_ok hb8,?_⟩
  conv=>whnf
  obtain ⟨r6,hb9,h⟩:=bd_some h
  refine ⟨(allc (pu_flat (fun _=>(allc rfl (allc rfl rfl))) _ _ _) rfl),_,x83_ok hb9,acc0,?_⟩
  conv=>whnf
  obtain ⟨hb10,h⟩:=gd_some h
  refine ⟨hb10,?_⟩
  rw [drop1 I marks s2 hb10]
  conv=>whnf
  obtain ⟨r7,hb11,h⟩:=bd_some h
  refine ⟨(allc (pu_flat (fun _=>(allc rfl (allc rfl rfl))) _ _ _) (allc (pu_map (fun _=>rfl) _ _ _) (allc rfl (allc rfl rfl)))),_,x82_ok hb11,accN rfl,?_⟩
  conv=>whnf
  rcases bt (decide (r7<(w ((w (r5*(r4.length:Int)))+(1:Int))))) with hb12 | hb12
  ·rw [hb12]
   conv=>whnf
   replace h:=it_t hb12 h
   obtain rfl:=Option.some.inj h
   exact hR _ _ ⟨.inr rfl,_,rfl,_,frz_pure (pu_tup (allc rfl (allc rfl rfl))),rfl⟩
  ·rw [hb12]
   conv=>whnf
   replace h:=it_f hb12 h
   obtain ⟨hb13,h⟩:=gd_some h
   refine ⟨hb13,?_⟩
   rw [drop1 I marks s2 hb13]
   conv=>whnf
   obtain ⟨hb14,h⟩:=gd_some h
   refine ⟨hb14,?_⟩
   rw [dropS pr 2 pr_len panels (ix marks s2) hb14]
   conv=>whnf
   exact ⟨m,Nat.lt_succ_self m,(w (s1+(ix panels (ix marks s2)).2)),(w (s2+(1:Int))),rfl,rfl,h⟩
 ·rw [hb6]
  conv=>whnf
  replace h:=it_f hb6 h
  exact hkl1_0 _ _ _ _ _ _ _ _ _ _ _ _ _ _ _ _ _ _ _ _ _ _ _ _ _ _ _ _ _ _ _ _ _ _ _ _ _ _ _ _ _ _ _ _ _ _ _ _ _ _ _ _ _ _ _ _ _ _ _ _ _ _ h
theorem x39_ok {b:(Int×(List Int)×Int×Int)} {panels:(List (Int×Int))} {marks:(List Int)} {v:(Int×Int)} (h:x39 b panels marks=some v):PO 39 [(.agg [(I b.1),(.lst (b.2.1.map I) b.2.1.length .shared),(I b.2.2.1),(I b.2.2.2)]),(.lst (panels.flatMap pr) panels.length .shared),(.lst (marks.map I) marks.length .shared)] (.tuple [(I v.1),(I v.2)]):=by
 refine fn_pureW hmix lxx39 rfl (pu_tup (allc rfl (allc rfl rfl))) fun Q hQ=>?_
 have hR:∀ T H,RetW [.tmp 6,.tmp 7] (.tuple [(I v.1),(I v.2)]) .ret T H→Q .ret T H:=fun T H hh=>hQ _ T H hh
 unfold x39 at h
 unfold xrc39
 obtain ⟨c_1,g_1⟩:∃ c,xrc39_1=c:=⟨_,rfl⟩
 rw [g_1]
 conv=>whnf
 obtain ⟨r1,hb1,h⟩:=bd_some h
 refine ⟨(allc (pu_agg (allc rfl (allc (pu_map (fun _=>rfl) _ _ _) (allc rfl (allc rfl rfl))))) (allc (pu_flat (fun _=>(allc rfl (allc rfl rfl))) _ _ _) rfl)),_,x66_ok hb1,?_⟩
 conv=>whnf
 rcases bt (decide (r1≠(0:Int))) with hb2 | hb2
 ·rw [hb2]
  conv=>whnf
  replace h:=it_t hb2 h
  obtain ⟨r2,hb3,h⟩:=bd_some h
  refine ⟨(allc (pu_agg (allc rfl (allc (pu_map (fun _=>rfl) _ _ _) (allc rfl (allc rfl rfl))))) (allc (pu_flat (fun _=>(allc rfl (allc rfl rfl))) _ _ _) rfl)),_,x66_ok hb3,?_⟩
  conv=>whnf
  obtain rfl:=Option.some.inj h
  exact hR _ _ ⟨.inr rfl,_,rfl,_,frz_pure (pu_tup (allc rfl (allc rfl rfl))),rfl⟩
 ·rw [hb2]
  conv=>whnf
  replace h:=it_f hb2 h
  obtain ⟨r3,hb4,h⟩:=bd_some h
  refine ⟨(allc (pu_map (fun _=>rfl) _ _ _) (allc rfl rfl)),_,x62_ok hb4,?_⟩
  conv=>whnf
  cases r3
  ·conv=>whnf
   replace h:=it_f rfl h
   obtain rfl:=Option.some.inj h
   exact hR _ _ ⟨.inr rfl,_,rfl,_,frz_pure (pu_tup (allc rfl (allc rfl rfl))),rfl⟩
  ·conv=>whnf
   replace h:=it_t rfl h
   obtain ⟨r4,hb5,h⟩:=bd_some h
   refine ⟨(allc (pu_agg (allc rfl (allc (pu_map (fun _=>rfl) _ _ _) (allc rfl (allc rfl rfl))))) rfl),_,x51_ok hb5,?_⟩
   conv=>whnf
   subst g_1
   refine x39_l1_ok ?_ ?_ (by exact rfl) h
   ·exact fun T H hh=>hR T H hh
   ·intro z1 u0 u1 u2 u3 u6 u7 u8 u10 u11 u12 u13 u14 u15 u16 u17 u18 u19 u20 u21 u22 u23 u24 u25 u26 u27 u28 u29 u30 u31 u32 u33 u34 u35 u36 u37 u38 u39 u40 u41 u42 u43 u44 u45 u46 u47 u48 u49 u50 u51 u52 u53 u54 u55 u56 u57 u58 u59 u60 u61 u62 u63 h
    conv=>whnf
    obtain rfl:=Option.some.inj h
    exact hR _ _ ⟨.inr rfl,_,rfl,_,frz_pure (pu_tup (allc rfl (allc rfl rfl))),rfl⟩
end Go.Proofs.YtbnbjjgagikobaaGreat.Ab
