
import Derived.Test.YtbnbjjgagikobaaGreatJf5
import Derived.Test.YtbnbjjgagikobaaGreatJf4
import Derived.KernelRfl
import Derived.Test.YtbnbjjgagikobaaGreatJf6
set_option linter.unusedSimpArgs false
set_option linter.unusedVariables false
set_option linter.unusedSectionVars false

namespace Go.Proofs.YtbnbjjgagikobaaGreat.Ab
open Go
set_option maxRecDepth 20000
set_option maxHeartbeats 4000000
theorem s103_ok (l:List Int) (hl:l.length≤1000):Seq Tryz.prog 103 [.lptr [.lst (l.map I) l.length .shared]] (l.map I):=by
 intro L N Pre hlen hL hr Y
 obtain ⟨Z,hZ0,hZ⟩:=seq_states hr Y
 have hE:(l.map I).length=l.length:=by simp
 have hZ':∀ j (h:j<l.length),Sem Tryz.prog (.yield L) [I l[j]] (Pre j++Z j) 0 (.bool true) (Pre (j+1)++Z (j+1)):=fun j hj=>by
  have:=hZ j (by rw [hE];exact hj)
  rw [List.getElem_map] at this
  exact this
 refine ⟨Z l.length,?_⟩
 rw [hE]
 refine fn_semQ hmix lk103 rfl (low0 ?_) fun Q hQ=>?_
 ·have key:∀ j,j≤l.length→(Pre 0++Y).length≤(Pre j++Z j).length:=fun j=>by
   induction j with
   | zero=>intro _;rw [hZ0];exact Nat.le_refl _
   | succ j ih=>intro hj;exact Nat.le_trans (ih (by omega)) (hZ' j (by omega)).1.1
  exact key l.length (Nat.le_refl _)
 unfold rc103
 conv=>whnf
 refine .intro (fun m T H=>∃ j:Nat,j≤l.length∧m=l.length-j∧T=slots 16 [(0,.yield L),(5,.lst (l.map I) l.length .shared),(6,I (l.length:Int)),(7,I (j:Int))]∧H=Pre j++Z j) l.length ⟨0,Nat.zero_le _,rfl,rfl,by rw [hZ0]⟩ ?_
 rintro m T H ⟨j,hj,rfl,rfl,rfl⟩
 conv=>whnf
 refine dcase (fun hc'=>?_) (fun hc'=>?_)
 ·have hlt:j<l.length:=by omega
  have hb:0≤(j:Int)∧(j:Int)<(l.length:Int):=by omega
  conv=>whnf
  refine ⟨hb,?_⟩
  rw [drop1 I l (j:Int) hb]
  conv=>whnf
  rw [ix_nat hlt]
  refine ⟨_,_,call1 (hZ' j hlt),?_⟩
  conv=>whnf
  refine ⟨l.length-(j+1),by omega,j+1,by omega,rfl,?_,rfl⟩
  rw [show ((j+1:Nat):Int)=IntKind.i64.wrap ((j:Int)+1) by rw [wrapI _ (by omega) (by omega)];omega]
  rfl
 ·obtain rfl:j=l.length:=by omega
  conv=>whnf
  exact hQ _ _ _ ⟨.inl rfl,Fgt.refl _,rfl⟩
def sortU (l:List Int):List Int:=(Sort.insertionSort Sort.ltInt l.toArray 0 l.length).toList
theorem insS_len (lt:Int→Int→Bool) (d:Array Int) (a b:Nat):(Sort.insertionSort lt d a b).size=d.size:=by
 have hI:∀ (j:Nat) (d:Array Int),(Sort.insInner lt a j d).size=d.size:=fun j=>by
  induction j with
  | zero=>intro d;rfl
  | succ j ih =>
    intro d
    rw [Sort.insInner]
    split
    ·rw [ih,swp_size]
    ·rfl
 show (Sort.insOuter lt a b (a+1) d).size=d.size
 have:∀ (n i:Nat) (d:Array Int),b-i=n→(Sort.insOuter lt a b i d).size=d.size:=fun n=>by
  induction n with
  | zero=>intro i d h;rw [Sort.insOuter.eq_1,if_neg (by omega)]
  | succ n ih=>intro i d h;rw [Sort.insOuter.eq_1,if_pos (by omega),ih _ _ (by omega),hI]
 exact this _ _ d rfl
def x77 (l:List Int):Option (List Int):=if 0<l.length∧l.length≤12 then some (sortU l) else none
theorem x77_ok {l v:List Int} (h:x77 l=some v):PO 77 [.func 103 [] [.lptr [.lst (l.map I) l.length .shared]]] (.lst (v.map I) v.length .shared):=by
 unfold x77 at h
 split at h
 ·rename_i hc
  obtain rfl:=Option.some.inj h
  have hpl:[AV.lptr [.lst (l.map I) l.length .shared]].all (pureD 7)=true:=allc (pu_lptr (allc (pu_map (fun _=>rfl) _ _ _) rfl)) rfl
  have hcl:=collectS_ok hpl (s103_ok l (by omega)) (by omega)
  have hS:=sort12_sem (lo:=0) (id:=0) (Nat.le_refl 0) l.toArray (by simpa using hc.2) (H:=[Cd l.toArray]) rfl
  obtain ⟨S,hSd⟩:∃ S,S=Sort.insertionSort Sort.ltInt l.toArray 0 l.toArray.size:=⟨_,rfl⟩
  have hv:sortU l=S.toList:=by rw [hSd];unfold sortU;simp
  have hsz:S.size=l.length:=by rw [hSd,insS_len];simp
  rw [←hSd] at hS
  rw [hv]
  have hne:l≠[]:=fun e=>by rw [e] at hc;exact absurd hc.1 (by decide)
  have hcol:colL l=.lst (l.map I) l.length (.uniq 1):=by
   cases l with
   | nil=>exact absurd rfl hne
   | cons a l=>rfl
  rw [hcol] at hcl
  refine fn_pureW hmix lk77 rfl (pu_map (fun _=>rfl) _ _ _) fun Q hQ=>?_
  unfold rc77
  conv=>whnf
  refine ⟨_,_,call0 (allc (pu_fn rfl hpl) rfl) hcl _ _,?_⟩
  conv=>whnf
  refine .inl ⟨by omega,?_⟩
  conv=>whnf
  have e1:AObj.cells (l.map I)=Cd l.toArray:=rfl
  have e2:AV.ref 0 0 l.length none 1=Da 0 l.toArray.size:=by unfold Da;simp
  erw [e1]
  refine ⟨_,_,call1 (by show Sem Tryz.prog (.fn 84) [AV.ref 0 0 l.length none 1] [Cd l.toArray] 0 (.tuple []) [Cd S];rw [e2];exact hS),?_⟩
  conv=>whnf
  have hrow:rowOf [Cd S] (.ref 0 0 l.length none 1)=some (S.toList.map I):=row_full rfl (hsz.symm.trans Array.length_toList.symm) fun _=>rfl
  refine ⟨.lst (S.toList.map I) l.length .shared,[.dead],fun C=>?_,?_⟩
  ·show ((rowOf [Cd S] (.ref 0 0 l.length none 1)).bind fun row=>some (AV.lst row l.length .shared,[AObj.dead]))=_
   rw [hrow];rfl
  conv=>whnf
  rw [show S.toList.length=l.length from Array.length_toList.trans hsz] at hQ
  exact hQ _ _ _ ⟨.inr rfl,_,rfl,_,frz_pure (pu_map (fun _=>rfl) _ _ _),rfl⟩
 ·cases h

noncomputable def xrc78:RC :=
 .seq (.reg false [I_ 1 [.tk 0] .box,I_ 2 [.cv .junk] .mv]) (.seq (.reg false [I_ 3 [.tv 1] (.mkF 103 0 1),I_ 2 [.tk 3] .mv]) .ret)
theorem lxx78:linkF Tryz.prog ann78 78=some (xrc78,4,[.tmp 2]):=by kernel_rfl
def x78 (s:(List Int)):Option Unit :=
 some ()
theorem x78_ok {s:(List Int)} {v:Unit} (h:x78 s=some v):PO 78 [(.lst (s.map I) s.length .shared)] (.func 103 [] [(.lptr [(.lst (s.map I) s.length .shared)])]):=by
 refine fn_pureW hmix lxx78 rfl (pu_fn rfl (allc (pu_lptr (allc (pu_map (fun _=>rfl) _ _ _) rfl)) rfl)) fun Q hQ=>?_
 have hR:∀ T H,RetW [.tmp 2] (.func 103 [] [(.lptr [(.lst (s.map I) s.length .shared)])]) .ret T H→Q .ret T H:=fun T H hh=>hQ _ T H hh
 unfold x78 at h
 unfold xrc78
 skip
 conv=>whnf
 exact hR _ _ ⟨.inr rfl,_,rfl,_,(frz_fn mapO_nil' (mapO_cons' (frz_ptr (l:=[(.lst (s.map I) s.length .shared)]) (by first | with_reducible exact get_concat _ _ | exact get_concat _ _ | exact ga (get_concat _ _) | rfl | (simp [List.getElem?_append,AV.settle];done)) (allc (pu_map (fun _=>rfl) _ _ _) rfl)) mapO_nil')),rfl⟩

noncomputable def xrc37_1:RC :=
 .rng (.sl 36) [37] (rngA Tryz.prog 37 0) (rngB Tryz.prog 37 0)
noncomputable def xrc37_2:RC :=
 .loop (some [o_,o_,o_,o_,o_,o_,i_,o_,i_,o_,o_,o_,o_,o_,o_,o_,o_,o_,o_,o_,o_,o_,i_,i_,i_,o_,o_,o_,o_,o_,o_,o_,o_,o_,o_,o_,o_,o_,o_,o_,o_,o_,o_,o_,o_,o_,o_,o_,o_,o_,o_]) (.seq (.reg false [I_ 25 [.sl 24,.sl 23] (.bin .lss)]) (.seq (.cond (.sl 25) .skip
 (.exit 0)) (.seq (.block 1 (.seq (.reg false [I_ 26 [.sl 22,.sl 24] (.ia 1),I_ 27 [.tv 26] (.ld .one),I_ 10 [.tk 27] .mv]) (.seq (.reg true [I_ 28 [.sl 6] .mv,I_ 29 [.tk 10] .mv,I_ 30 [.cv (.func 76 [] []),.sl 28,.sl 29]
 (.call 3),I_ 31 [.sl 6] .mv,I_ 32 [.tv 31] .nilc,I_ 33 [.tv 32] (.fa 5),I_ 34 [.tv 33] (.ld .one),I_ 35 [.tk 34] .lenS,I_ 36 [.cv (.func 75 [] []),.sl 30,.sl 35] (.call 3)]) (.block 2 xrc37_1)))) (.reg false [I_ 49 [.tv
 24,.cv (.int .i64 1)] (.bin .add),I_ 24 [.tk 49] .mv]))))
noncomputable def xrc37:RC :=
 .seq (.reg false [I_ 2 [.tk 0] .box,I_ 4 [.cv (.lst [] 0 .full)] (.nil 1),I_ 5 [.cv (.int .i64 0)] .mv]) (.seq (.reg false [I_ 13 [.tv 2] (.ld (.str 4)),I_ 14 [.tk 1] .mv,I_ 15 [.cv (.func 69 [] []),.sl 13,.sl 14] (.call
 3),I_ 12 [.tk 15] .mv,I_ 16 [.sl 12] (.ext 0),I_ 17 [.tv 12] (.ext 1),I_ 6 [.tk 16] .mv,I_ 7 [.tk 17] .mv]) (.seq (.seq (.reg false [I_ 18 [.sl 7] .mv,I_ 19 [.tv 18,.cv (.int .i64 0)] (.bin .neq)]) (.cond (.sl 19) (.seq
 (.reg false [I_ 20 [.tk 7] .mv,I_ 4 [.cv (.lst [] 0 .full)] (.nil 1),I_ 5 [.tk 20] .mv]) .ret) .skip)) (.seq (.reg false [I_ 8 [] (.alloc [.lst [] 0 (.own 1)])]) (.seq (.seq (.reg false [I_ 21 [.sl 6] .mv,I_ 22 [.cv (.func
 74 [] []),.sl 21] (.call 3),I_ 23 [.sl 22] .lenS,I_ 24 [.cv (.int .i64 0)] .mv]) (.block 0 xrc37_2)) (.seq (.reg false [I_ 50 [.tv 8] (.ld .one),I_ 4 [.tk 50] .mv,I_ 5 [.cv (.int .i64 0)] .mv]) .ret)))))
noncomputable def xrc37_A0:RC :=
 .reg false [I_ 11 [.tk 37] .mv]
theorem lxx37_A0:linkC Tryz.prog ann37 (rngA Tryz.prog 37 0) 0=some xrc37_A0:=by kernel_rfl
noncomputable def xrc37_B0:RC :=
 .block 3 (.reg true [I_ 38 [.sl 8] (.ld .one),I_ 39 [.sl 8] (.ld .one),I_ 40 [.tk 39] .lenS,I_ 41 [.sl 8] (.ld .one),I_ 42 [.tk 41] .lenS,I_ 43 [.tk 38,.tk 40,.tk 42] (.slS 1 false true true),I_ 44 [.tk 11] .mv,I_ 45
 [.cv (.func 78 [] []),.sl 44] (.call 3),I_ 46 [.cv (.func 77 [] []),.sl 45] (.call 3),I_ 47 [.tv 46] (.buildS 1 1 [.lst [] 0 .full] [0]),I_ 48 [.tk 43,.tk 47] (.app 1 24),⟨none,[.sl 8,.tk 48],none,none,.st 1⟩])
theorem lxx37_B0:linkC Tryz.prog ann37 (rngB Tryz.prog 37 0) 0=some xrc37_B0:=by kernel_rfl
theorem lxx37:linkF Tryz.prog ann37 37=some (xrc37,51,[.tmp 4,.tmp 5]):=by kernel_rfl
def x37_r1  (t1:(List (List Int))) (e1:(List Int)):Option ((List (List Int))) :=
 gd ((t1.length:Int)=(t1.length:Int)∧0≤(t1.length:Int)∧(t1.length:Int)≤(t1.length:Int)) <|
 (x78 e1).bind fun r5 =>
 (x77 e1).bind fun r6 =>
 gd ((1≠0)∧((t1.take (t1.length:Int).toNat).length+1)*24≤140737488355328) <|
 some ((t1.take (t1.length:Int).toNat)++[r6])
def x37_l1 (p1:((Int×(List Int)×Int×Int)×(List (Int×Int))×(List Int)×(List Int))) (r2:(List Int)) (kl1_0:(List (List Int))→Option ((List (List Int))×Int)):Nat→Int→(List (List Int))→Option ((List (List Int))×Int)
 | 0,_,_=>none
 | m+1,s1,s2 =>
   if (decide (s1<(r2.length:Int)))=true then
    gd (0≤s1∧s1<(r2.length:Int)) <|
    (x76 p1 (ix r2 s1)).bind fun r3 =>
    (x75 r3 (p1.2.2.1.length:Int)).bind fun r4 =>
    (s98 r3 (p1.2.2.1.length:Int)).bind fun l1 =>
    (foldO x37_r1 l1 s2).bind fun r7 =>
    x37_l1 p1 r2 kl1_0 m (w (s1+(1:Int))) r7
   else
    kl1_0 s2
def x37 (b:(Int×(List Int)×Int×Int)) (panels:(List (Int×Int))):Option ((List (List Int))×Int) :=
 (x69 b panels).bind fun r1 =>
 match r1 with
 | (none,q1) =>
   if (decide (q1≠(0:Int)))=true then
    some ([],q1)
   else
    none
 | (some p1,q1) =>
   if (decide (q1≠(0:Int)))=true then
    some ([],q1)
   else
    (x74 p1).bind fun r2 =>
    x37_l1 p1 r2 (fun z1 =>
      some (z1,(0:Int))) FU (0:Int) ([]:List (List Int))
theorem x37_r1_ok {t1:(List (List Int))} {e1:(List Int)} {u0:AV} {u1:AV} {u2:AV} {u3:AV} {u4:AV} {u5:AV} {u6:AV} {u7:AV} {u9:AV} {u10:AV} {u11:AV} {u12:AV} {u13:AV} {u14:AV} {u15:AV} {u16:AV} {u17:AV} {u18:AV} {u19:AV} {u20:AV} {u21:AV} {u22:AV} {u23:AV} {u24:AV} {u25:AV} {u26:AV} {u27:AV} {u28:AV} {u29:AV} {u30:AV} {u31:AV} {u32:AV} {u33:AV} {u34:AV} {u35:AV} {u36:AV} {u37:AV} {u38:AV} {u39:AV} {u40:AV} {u41:AV} {u42:AV} {u43:AV} {u44:AV} {u45:AV} {u46:AV} {u47:AV} {u48:AV} {u49:AV} {u50:AV} {o1:AObj} {Y37_1:List AObj} {v_:(List (List Int))} (h:x37_r1  t1 e1=some v_) (Y:List AObj) :
  ∃ Y',Sem Tryz.prog (.yield ((o1::AObj.cells [(.lst (t1.map L1) t1.length (.own 1))]::Y37_1)).length) [(.lst (e1.map I) e1.length .full)] (((o1::AObj.cells [(.lst (t1.map L1) t1.length (.own 1))]::Y37_1)++[AObj.loop .ready none 37 [u0,u1,u2,u3,u4,u5,u6,u7,(.ptr 1 0),u9,u10,u11,u12,u13,u14,u15,u16,u17,u18,u19,u20,u21,u22,u23,u24,u25,u26,u27,u28,u29,u30,u31,u32,u33,u34,u35,u36,u37,u38,u39,u40,u41,u42,u43,u44,u45,u46,u47,u48,u49,u50] [37] (rngA Tryz.prog 37 0) (rngB Tryz.prog 37 0) ann37])++Y) 0 (.bool true) (((o1::AObj.cells [(.lst (v_.map L1) v_.length (.own 1))]::Y37_1)++[AObj.loop .ready none 37 [u0,u1,u2,u3,u4,u5,u6,u7,(.ptr 1 0),u9,u10,u11,u12,u13,u14,u15,u16,u17,u18,u19,u20,u21,u22,u23,u24,u25,u26,u27,u28,u29,u30,u31,u32,u33,u34,u35,u36,u37,u38,u39,u40,u41,u42,u43,u44,u45,u46,u47,u48,u49,u50] [37] (rngA Tryz.prog 37 0) (rngB Tryz.prog 37 0) ann37])++Y'):=by
 unfold x37_r1 at h
 refine ⟨Y,sem_round hmix lxx37_A0 lxx37_B0 (get_mid _ _ _) rfl (low0 (by simp)) ?_⟩
 unfold xrc37_A0
 conv=>whnf
 refine ⟨rfl,get_mid _ _ _,?_⟩
 rw [set_mid]
 unfold xrc37_B0
 conv=>whnf
 obtain ⟨hb9,h⟩:=gd_some h
 refine ⟨hb9,?_⟩
 erw [slHi L1 t1 (t1.length:Int) hb9.2]
 conv=>whnf
 obtain ⟨r5,hb10,h⟩:=bd_some h
 refine ⟨(allc (pu_map (fun _=>rfl) _ _ _) rfl),_,x78_ok hb10,acc0,?_⟩
 conv=>whnf
 obtain ⟨r6,hb11,h⟩:=bd_some h
 refine ⟨(allc (pu_fn rfl (allc (pu_lptr (allc (pu_map (fun _=>rfl) _ _ _) rfl)) rfl)) rfl),_,x77_ok  hb11,accN rfl,?_⟩
 conv=>whnf
 obtain ⟨hb12,h⟩:=gd_some h
 refine ⟨by first | rfl | simp,by have:=hb12.2;omega,hb12.1,hb12.2,by first | rfl | simp,?_⟩
 erw [apnd1 L1 (t1.take (t1.length:Int).toNat) r6]
 conv=>whnf
 obtain rfl:=Option.some.inj h
 show _∧(((o1::AObj.cells [(.lst (((t1.take (t1.length:Int).toNat)++[r6]).map L1) ((t1.take (t1.length:Int).toNat)++[r6]).length (.own 1))]::Y37_1)++[AObj.loop .busy none 37 [u0,u1,u2,u3,u4,u5,u6,u7,(.ptr 1 0),u9,u10,u11,u12,u13,u14,u15,u16,u17,u18,u19,u20,u21,u22,u23,u24,u25,u26,u27,u28,u29,u30,u31,u32,u33,u34,u35,u36,u37,u38,u39,u40,u41,u42,u43,u44,u45,u46,u47,u48,u49,u50] [37] (rngA Tryz.prog 37 0) (rngB Tryz.prog 37 0) ann37])++Y)[((o1::AObj.cells [(.lst (((t1.take (t1.length:Int).toNat)++[r6]).map L1) ((t1.take (t1.length:Int).toNat)++[r6]).length (.own 1))]::Y37_1)).length]?=_∧Fgt ((((o1::AObj.cells [(.lst (((t1.take (t1.length:Int).toNat)++[r6]).map L1) ((t1.take (t1.length:Int).toNat)++[r6]).length (.own 1))]::Y37_1)++[AObj.loop .busy none 37 [u0,u1,u2,u3,u4,u5,u6,u7,(.ptr 1 0),u9,u10,u11,u12,u13,u14,u15,u16,u17,u18,u19,u20,u21,u22,u23,u24,u25,u26,u27,u28,u29,u30,u31,u32,u33,u34,u35,u36,u37,u38,u39,u40,u41,u42,u43,u44,u45,u46,u47,u48,u49,u50] [37] (rngA Tryz.prog 37 0) (rngB Tryz.prog 37 0) ann37])++Y).set ((o1::AObj.cells [(.lst (((t1.take (t1.length:Int).toNat)++[r6]).map L1) ((t1.take (t1.length:Int).toNat)++[r6]).length (.own 1))]::Y37_1)).length _) _
 exact ⟨rfl,get_mid _ _ _,by rw [set_mid];exact Fgt.refl _⟩
theorem x37_l1_ok {p1:((Int×(List Int)×Int×Int)×(List (Int×Int))×(List Int)×(List Int))} {r2:(List Int)} {kl1_0:(List (List Int))→Option ((List (List Int))×Int)} {s1:Int} {s2:(List (List Int))} {v:((List (List Int))×Int)} {Q:Ex→List AV→List AObj→Prop} {o1:AObj}  (hkl1_0:∀ (z1:(List (List Int))) (u0:AV) (u1:AV) (u2:AV) (u4:AV) (u5:AV) (u6:AV) (u7:AV) (u10:AV) (u11:AV) (u12:AV) (u13:AV) (u14:AV) (u15:AV) (u16:AV) (u17:AV) (u18:AV) (u19:AV) (u20:AV) (u21:AV) (u22:AV) (u23:AV) (u24:AV) (u25:AV) (u26:AV) (u27:AV) (u28:AV) (u29:AV) (u30:AV) (u31:AV) (u32:AV) (u33:AV) (u34:AV) (u35:AV) (u36:AV) (u37:AV) (u38:AV) (u39:AV) (u40:AV) (u41:AV) (u42:AV) (u43:AV) (u44:AV) (u45:AV) (u46:AV) (u47:AV) (u48:AV) (u49:AV) (u50:AV) (Yq:List AObj),kl1_0 z1=some v→Q (.exit 0) [u0,u1,u2,J,u4,u5,u6,u7,(.ptr 1 0),J,u10,u11,u12,u13,u14,u15,u16,u17,u18,u19,u20,u21,u22,u23,u24,u25,u26,u27,u28,u29,u30,u31,u32,u33,u34,u35,u36,u37,u38,u39,u40,u41,u42,u43,u44,u45,u46,u47,u48,u49,u50] (o1::AObj.cells [(.lst (z1.map L1) z1.length (.own 1))]::Yq)) {T:List AV} (hT:zipKeep [o_,o_,o_,o_,o_,o_,i_,o_,i_,o_,o_,o_,o_,o_,o_,o_,o_,o_,o_,o_,o_,o_,i_,i_,i_,o_,o_,o_,o_,o_,o_,o_,o_,o_,o_,o_,o_,o_,o_,o_,o_,o_,o_,o_,o_,o_,o_,o_,o_,o_,o_] T=slots 51 [(6,(.lptr ((I p1.1.1)::(.lst (p1.1.2.1.map I) p1.1.2.1.length .shared)::(I p1.1.2.2.1)::(I p1.1.2.2.2)::(.lst (p1.2.1.flatMap pr) p1.2.1.length .shared)::(.lst (p1.2.2.1.map I) p1.2.2.1.length .shared)::(p1.2.2.2.map I)))),(8,(.ptr 1 0)),(22,(.lst (r2.map I) r2.length .shared)),(23,(I (r2.length:Int))),(24,(I s1))]) (h:x37_l1 p1 r2 kl1_0 FU s1 s2=some v) :
  wpR Tryz.prog ann37 37 0 none xrc37_2 T [o1,AObj.cells [(.lst (s2.map L1) s2.length (.own 1))]] Q:=by
 unfold xrc37_2
 obtain ⟨c_1,g_1⟩:∃ c,xrc37_1=c:=⟨_,rfl⟩
 rw [g_1]
 refine wp_loop hT ?_
 refine .intro (fun m T H=>∃ (s1:Int) (s2:(List (List Int))) (Y37_1:List AObj),T=slots 51 [(6,(.lptr ((I p1.1.1)::(.lst (p1.1.2.1.map I) p1.1.2.1.length .shared)::(I p1.1.2.2.1)::(I p1.1.2.2.2)::(.lst (p1.2.1.flatMap pr) p1.2.1.length .shared)::(.lst (p1.2.2.1.map I) p1.2.2.1.length .shared)::(p1.2.2.2.map I)))),(8,(.ptr 1 0)),(22,(.lst (r2.map I) r2.length .shared)),(23,(I (r2.length:Int))),(24,(I s1))]∧H=(o1::AObj.cells [(.lst (s2.map L1) s2.length (.own 1))]::Y37_1)∧x37_l1 p1 r2 kl1_0 m s1 s2=some v) FU ⟨s1,s2,[],rfl,rfl,h⟩ ?_
 clear h hT
 rintro m T H ⟨s1,s2,Y37_1,rfl,rfl,h⟩
 cases m
 ·exact none_ne h
 rename_i m
 rw [x37_l1.eq_2] at h
 conv=>whnf
 rcases bt (decide (s1<(r2.length:Int))) with hb5 | hb5
 ·rw [hb5]
  conv=>whnf
  replace h:=it_t hb5 h
  obtain ⟨hb6,h⟩:=gd_some h
  refine ⟨hb6,?_⟩
  rw [drop1 I r2 s1 hb6]
  conv=>whnf
  obtain ⟨r3,hb7,h⟩:=bd_some h
  refine ⟨(allc (pu_lptr (allc rfl (allc (pu_map (fun _=>rfl) _ _ _) (allc rfl (allc rfl (allc (pu_flat (fun _=>(allc rfl (allc rfl rfl))) _ _ _) (allc (pu_map (fun _=>rfl) _ _ _) (pu_run (fun _=>rfl) _)))))))) (allc rfl rfl)),_,x76_ok hb7,acc0,?_⟩
  conv=>whnf
  obtain ⟨r4,hb8,h⟩:=bd_some h
  refine ⟨(allc (pu_map (fun _=>rfl) _ _ _) (allc rfl rfl)),_,x75_ok hb8,accN rfl,?_⟩
  conv=>whnf
  obtain ⟨l1,hb13,h⟩:=bd_some h
  obtain ⟨r7,hb14,h⟩:=bd_some h
  obtain ⟨F_,hF0,hFn,hF⟩:=foldO_states hb14
  subst g_1
  unfold xrc37_1
  refine rng_wp (f:=fun (e1:(List Int))=>(.lst (e1.map I) e1.length .full)) (s98_ok hb13) (fun i=>(o1::AObj.cells [(.lst ((F_ i).map L1) (F_ i).length (.own 1))]::Y37_1)) (by exact rfl) (by show (o1::AObj.cells [(.lst ((F_ 0).map L1) (F_ 0).length (.own 1))]::Y37_1)=_;first | (rw [hF0];done) | (rw [hF0];rfl)) (fun _=>rfl) ?_ (rl:=none) (by exact rfl) (Hn:=(o1::AObj.cells [(.lst (r7.map L1) r7.length (.own 1))]::Y37_1)) (by show (o1::AObj.cells [(.lst ((F_ l1.length).map L1) (F_ l1.length).length (.own 1))]::Y37_1)=_;first | (rw [hFn];done) | (rw [hFn];rfl)) (fun Yr4=>?_)
  ·intro i hi Y
   exact x37_r1_ok (hF i hi) Y
  conv=>whnf
  exact ⟨m,Nat.lt_succ_self m,(w (s1+(1:Int))),r7,_,rfl,rfl,h⟩
 ·rw [hb5]
  conv=>whnf
  replace h:=it_f hb5 h
  exact hkl1_0 _ _ _ _ _ _ _ _ _ _ _ _ _ _ _ _ _ _ _ _ _ _ _ _ _ _ _ _ _ _ _ _ _ _ _ _ _ _ _ _ _ _ _ _ _ _ _ _ _ _ h
theorem x37_ok {b:(Int×(List Int)×Int×Int)} {panels:(List (Int×Int))} {v:((List (List Int))×Int)} (h:x37 b panels=some v):PO 37 [(.agg [(I b.1),(.lst (b.2.1.map I) b.2.1.length .shared),(I b.2.2.1),(I b.2.2.2)]),(.lst (panels.flatMap pr) panels.length .shared)] (.tuple [(.lst (v.1.map L1) v.1.length .shared),(I v.2)]):=by
 refine fn_pureW hmix lxx37 rfl (pu_tup (allc (pu_map (fun _=>(pu_map (fun _=>rfl) _ _ _)) _ _ _) (allc rfl rfl))) fun Q hQ=>?_
 have hR:∀ T H,RetW [.tmp 4,.tmp 5] (.tuple [(.lst (v.1.map L1) v.1.length .shared),(I v.2)]) .ret T H→Q .ret T H:=fun T H hh=>hQ _ T H hh
 unfold x37 at h
 unfold xrc37
 obtain ⟨c_2,g_2⟩:∃ c,xrc37_2=c:=⟨_,rfl⟩
 rw [g_2]
 conv=>whnf
 obtain ⟨r1,hb1,h⟩:=bd_some h
 rcases r1 with ⟨_ | p1,q1⟩
 ·refine ⟨(allc (pu_agg (allc rfl (allc (pu_map (fun _=>rfl) _ _ _) (allc rfl (allc rfl rfl))))) (allc (pu_flat (fun _=>(allc rfl (allc rfl rfl))) _ _ _) rfl)),_,x69_ok hb1,?_⟩
  conv=>whnf
  rcases bt (decide (q1≠(0:Int))) with hb2 | hb2
  ·rw [hb2]
   conv=>whnf
   replace h:=it_t hb2 h
   obtain rfl:=Option.some.inj h
   exact hR _ _ ⟨.inr rfl,_,rfl,_,frz_pure (pu_tup (allc rfl (allc rfl rfl))),rfl⟩
  ·rw [hb2]
   conv=>whnf
   replace h:=it_f hb2 h
   exact none_ne h
 ·refine ⟨(allc (pu_agg (allc rfl (allc (pu_map (fun _=>rfl) _ _ _) (allc rfl (allc rfl rfl))))) (allc (pu_flat (fun _=>(allc rfl (allc rfl rfl))) _ _ _) rfl)),_,x69_ok hb1,?_⟩
  conv=>whnf
  rcases bt (decide (q1≠(0:Int))) with hb3 | hb3
  ·rw [hb3]
   conv=>whnf
   replace h:=it_t hb3 h
   obtain rfl:=Option.some.inj h
   exact hR _ _ ⟨.inr rfl,_,rfl,_,frz_pure (pu_tup (allc rfl (allc rfl rfl))),rfl⟩
  ·rw [hb3]
   conv=>whnf
   replace h:=it_f hb3 h
   obtain ⟨r2,hb4,h⟩:=bd_some h
   refine ⟨(allc (pu_lptr (allc rfl (allc (pu_map (fun _=>rfl) _ _ _) (allc rfl (allc rfl (allc (pu_flat (fun _=>(allc rfl (allc rfl rfl))) _ _ _) (allc (pu_map (fun _=>rfl) _ _ _) (pu_run (fun _=>rfl) _)))))))) rfl),_,x74_ok hb4,?_⟩
   conv=>whnf
   subst g_2
   refine x37_l1_ok ?_ (by exact rfl) h
   intro z1 u0 u1 u2 u4 u5 u6 u7 u10 u11 u12 u13 u14 u15 u16 u17 u18 u19 u20 u21 u22 u23 u24 u25 u26 u27 u28 u29 u30 u31 u32 u33 u34 u35 u36 u37 u38 u39 u40 u41 u42 u43 u44 u45 u46 u47 u48 u49 u50 Yq h
   conv=>whnf
   obtain rfl:=Option.some.inj h
   exact hR _ _ ⟨.inr rfl,_,rfl,_,frz_pure (pu_tup (allc (pu_map (fun _=>(pu_map (fun _=>rfl) _ _ _)) _ _ _) (allc rfl rfl))),rfl⟩

noncomputable def xrc46:RC :=
 .seq (.reg false [I_ 2 [.tk 0] .box,I_ 4 [.cv (.int .i64 0)] .mv,I_ 5 [.cv (.int .i64 0)] .mv,I_ 6 [.cv (.lst [] 0 .full)] (.nil 1),I_ 7 [.cv (.bool false)] .mv]) (.seq (.reg false [I_ 19 [.sl 2] (.ld (.str 4)),I_ 20 [.sl 1]
 .mv,I_ 21 [.cv (.func 33 [] []),.sl 19,.sl 20] (.call 3),I_ 18 [.tk 21] .mv,I_ 22 [.sl 18] (.ext 0),I_ 23 [.tv 18] (.ext 1),I_ 8 [.tk 22] .mv,I_ 9 [.tk 23] .mv]) (.seq (.reg false [I_ 25 [.sl 2] (.ld (.str 4)),I_ 26
 [.sl 1] .mv,I_ 27 [.cv (.func 35 [] []),.sl 25,.sl 26] (.call 3),I_ 24 [.tk 27] .mv,I_ 28 [.sl 24] (.ext 0),I_ 29 [.tv 24] (.ext 1),I_ 10 [.tk 28] .mv,I_ 11 [.tk 29] .mv]) (.seq (.reg false [I_ 31 [.sl 2] (.ld (.str
 4)),I_ 32 [.sl 1] .mv,I_ 33 [.cv (.func 37 [] []),.sl 31,.sl 32] (.call 3),I_ 30 [.tk 33] .mv,I_ 34 [.sl 30] (.ext 0),I_ 35 [.tv 30] (.ext 1),I_ 12 [.tk 34] .mv,I_ 13 [.tk 35] .mv]) (.seq (.seq (.reg false [I_ 36 [.tk
 9] .mv,I_ 37 [.tv 36,.cv (.int .i64 0)] (.bin .neq),I_ 38 [.tk 37] .mv,⟨some 39,[.tk 11],some (38,false),none,.mv⟩,⟨some 40,[.tv 39,.cv (.int .i64 0)],some (38,false),none,.bin .neq⟩,I_ 41 [.tv 38,.cv (.bool
 true),.tv 40] .pick,I_ 42 [.tk 41] .mv,⟨some 43,[.tk 13],some (42,false),none,.mv⟩,⟨some 44,[.tv 43,.cv (.int .i64 0)],some (42,false),none,.bin .neq⟩,I_ 45 [.tv 42,.cv (.bool true),.tv 44] .pick,I_ 46 [.tk
 45] .mv,⟨some 47,[.sl 12],some (46,false),none,.mv⟩,⟨some 48,[.cv (.func 25 [] []),.sl 47],some (46,false),none,.call 3⟩,I_ 49 [.tv 46,.cv (.bool true),.tv 48] .pick]) (.cond (.sl 49) (.seq (.reg false [I_ 4
 [.cv (.int .i64 0)] .mv,I_ 5 [.cv (.int .i64 0)] .mv,I_ 6 [.cv (.lst [] 0 .full)] (.nil 1),I_ 7 [.cv (.bool false)] .mv]) .ret) .skip)) (.seq (.reg false [I_ 51 [.sl 2] (.ld (.str 4)),I_ 52 [.sl 1] .mv,I_ 53 [.sl 12] .mv,
 I_ 54 [.cv (.func 26 [] []),.sl 51,.sl 52,.sl 53] (.call 3),I_ 50 [.tk 54] .mv,I_ 55 [.sl 50] (.ext 0),I_ 56 [.sl 50] (.ext 1),I_ 57 [.tv 50] (.ext 2),I_ 14 [.tk 55] .mv,I_ 15 [.tk 56] .mv,I_ 9 [.tk 57] .mv]) (.seq
 (.reg false [I_ 59 [.tv 2] (.ld (.str 4)),I_ 60 [.tk 1] .mv,I_ 61 [.sl 12] .mv,I_ 62 [.cv (.func 27 [] []),.sl 59,.sl 60,.sl 61] (.call 3),I_ 58 [.tk 62] .mv,I_ 63 [.sl 58] (.ext 0),I_ 64 [.sl 58] (.ext 1),I_ 65 [.tv
 58] (.ext 2),I_ 16 [.tk 63] .mv,I_ 17 [.tk 64] .mv,I_ 11 [.tk 65] .mv]) (.seq (.reg false [I_ 66 [.sl 8] .mv,I_ 67 [.sl 10] .mv,I_ 68 [.tk 12] .mv,I_ 69 [.tk 9] .mv,I_ 70 [.tv 69,.cv (.int .i64 0)] (.bin .eql),I_ 71
 [.tk 70] .mv,⟨some 72,[.tk 11],some (71,true),none,.mv⟩,⟨some 73,[.tv 72,.cv (.int .i64 0)],some (71,true),none,.bin .eql⟩,I_ 74 [.tv 71,.tv 73,.cv (.bool false)] .pick,I_ 75 [.tk 74] .mv,⟨some 76,[.tk 14],
 some (75,true),none,.mv⟩,⟨some 77,[.sl 8],some (75,true),none,.mv⟩,⟨some 78,[.tv 76,.tv 77],some (75,true),none,.bin .eql⟩,I_ 79 [.tv 75,.tv 78,.cv (.bool false)] .pick,I_ 80 [.tk 79] .mv,⟨some 81,[.tk
 16],some (80,true),none,.mv⟩,⟨some 82,[.tk 8],some (80,true),none,.mv⟩,⟨some 83,[.tv 81,.tv 82],some (80,true),none,.bin .eql⟩,I_ 84 [.tv 80,.tv 83,.cv (.bool false)] .pick,I_ 85 [.tk 84] .mv,⟨some 86,
 [.tk 15],some (85,true),none,.mv⟩,⟨some 87,[.sl 10],some (85,true),none,.mv⟩,⟨some 88,[.tv 86,.tv 87],some (85,true),none,.bin .eql⟩,I_ 89 [.tv 85,.tv 88,.cv (.bool false)] .pick,I_ 90 [.tk 89] .mv,⟨some
 91,[.tk 17],some (90,true),none,.mv⟩,⟨some 92,[.tk 10],some (90,true),none,.mv⟩,⟨some 93,[.tv 91,.tv 92],some (90,true),none,.bin .eql⟩,I_ 94 [.tv 90,.tv 93,.cv (.bool false)] .pick,I_ 4 [.tk 66] .mv,I_ 5
 [.tk 67] .mv,I_ 6 [.tk 68] .mv,I_ 7 [.tk 94] .mv]) .ret)))))))
theorem lxx46:linkF Tryz.prog ann46 46=some (xrc46,95,[.tmp 4,.tmp 5,.tmp 6,.tmp 7]):=by kernel_rfl
def x46 (b:(Int×(List Int)×Int×Int)) (panels:(List (Int×Int))):Option (Int×Int×(List (List Int))×Bool) :=
 (x33 b panels).bind fun r1 =>
 (x35 b panels).bind fun r2 =>
 (x37 b panels).bind fun r3 =>
 if (decide (r1.2≠(0:Int)))=true then
  some ((0:Int),(0:Int),[],false)
 else
  if (decide (r2.2≠(0:Int)))=true then
   some ((0:Int),(0:Int),[],false)
  else
   if (decide (r3.2≠(0:Int)))=true then
    some ((0:Int),(0:Int),[],false)
   else
    (x25 r3.1).bind fun r4 =>
    if r4=true then
     some ((0:Int),(0:Int),[],false)
    else
     (x26 b panels r3.1).bind fun r5 =>
     (x27 b panels r3.1).bind fun r6 =>
     if (decide (r5.2.2=(0:Int)))=true then
      if (decide (r6.2.2=(0:Int)))=true then
       if (decide (r5.1=r1.1))=true then
        if (decide (r6.1=r1.1))=true then
         if (decide (r5.2.1=r2.1))=true then
          some (r1.1,r2.1,r3.1,(decide (r6.2.1=r2.1)))
         else
          some (r1.1,r2.1,r3.1,false)
        else
         some (r1.1,r2.1,r3.1,false)
       else
        some (r1.1,r2.1,r3.1,false)
      else
       some (r1.1,r2.1,r3.1,false)
     else
      some (r1.1,r2.1,r3.1,false)
theorem x46_ok {b:(Int×(List Int)×Int×Int)} {panels:(List (Int×Int))} {v:(Int×Int×(List (List Int))×Bool)} (h:x46 b panels=some v):PO 46 [(.agg [(I b.1),(.lst (b.2.1.map I) b.2.1.length .shared),(I b.2.2.1),(I b.2.2.2)]),(.lst (panels.flatMap pr) panels.length .shared)] (.tuple [(I v.1),(I v.2.1),(.lst (v.2.2.1.map L1) v.2.2.1.length .shared),(B v.2.2.2)]):=by
 refine fn_pureW hmix lxx46 rfl (pu_tup (allc rfl (allc rfl (allc (pu_map (fun _=>(pu_map (fun _=>rfl) _ _ _)) _ _ _) (allc rfl rfl))))) fun Q hQ=>?_
 have hR:∀ T H,RetW [.tmp 4,.tmp 5,.tmp 6,.tmp 7] (.tuple [(I v.1),(I v.2.1),(.lst (v.2.2.1.map L1) v.2.2.1.length .shared),(B v.2.2.2)]) .ret T H→Q .ret T H:=fun T H hh=>hQ _ T H hh
 unfold x46 at h
 unfold xrc46
 skip
 conv=>whnf
 obtain ⟨r1,hb1,h⟩:=bd_some h
 refine ⟨(allc (pu_agg (allc rfl (allc (pu_map (fun _=>rfl) _ _ _) (allc rfl (allc rfl rfl))))) (allc (pu_flat (fun _=>(allc rfl (allc rfl rfl))) _ _ _) rfl)),_,x33_ok hb1,?_⟩
 conv=>whnf
 obtain ⟨r2,hb2,h⟩:=bd_some h
 refine ⟨(allc (pu_agg (allc rfl (allc (pu_map (fun _=>rfl) _ _ _) (allc rfl (allc rfl rfl))))) (allc (pu_flat (fun _=>(allc rfl (allc rfl rfl))) _ _ _) rfl)),_,x35_ok hb2,?_⟩
 conv=>whnf
 obtain ⟨r3,hb3,h⟩:=bd_some h
 refine ⟨(allc (pu_agg (allc rfl (allc (pu_map (fun _=>rfl) _ _ _) (allc rfl (allc rfl rfl))))) (allc (pu_flat (fun _=>(allc rfl (allc rfl rfl))) _ _ _) rfl)),_,x37_ok hb3,?_⟩
 conv=>whnf
 rcases bt (decide (r1.2≠(0:Int))) with hb4 | hb4
 ·rw [hb4]
  conv=>whnf
  replace h:=it_t hb4 h
  obtain rfl:=Option.some.inj h
  exact hR _ _ ⟨.inr rfl,_,rfl,_,frz_pure (pu_tup (allc rfl (allc rfl (allc rfl (allc rfl rfl))))),rfl⟩
 ·rw [hb4]
  conv=>whnf
  replace h:=it_f hb4 h
  rcases bt (decide (r2.2≠(0:Int))) with hb5 | hb5
  ·rw [hb5]
   conv=>whnf
   replace h:=it_t hb5 h
   obtain rfl:=Option.some.inj h
   exact hR _ _ ⟨.inr rfl,_,rfl,_,frz_pure (pu_tup (allc rfl (allc rfl (allc rfl (allc rfl rfl))))),rfl⟩
  ·rw [hb5]
   conv=>whnf
   replace h:=it_f hb5 h
   rcases bt (decide (r3.2≠(0:Int))) with hb6 | hb6
   ·rw [hb6]
    conv=>whnf
    replace h:=it_t hb6 h
    obtain rfl:=Option.some.inj h
    exact hR _ _ ⟨.inr rfl,_,rfl,_,frz_pure (pu_tup (allc rfl (allc rfl (allc rfl (allc rfl rfl))))),rfl⟩
   ·rw [hb6]
    conv=>whnf
    replace h:=it_f hb6 h
    obtain ⟨r4,hb7,h⟩:=bd_some h
    refine ⟨(allc (pu_map (fun _=>(pu_map (fun _=>rfl) _ _ _)) _ _ _) rfl),_,x25_ok hb7,?_⟩
    conv=>whnf
    cases r4
    ·conv=>whnf
     replace h:=it_f rfl h
     obtain ⟨r5,hb8,h⟩:=bd_some h
     refine ⟨(allc (pu_agg (allc rfl (allc (pu_map (fun _=>rfl) _ _ _) (allc rfl (allc rfl rfl))))) (allc (pu_flat (fun _=>(allc rfl (allc rfl rfl))) _ _ _) (allc (pu_map (fun _=>(pu_map (fun _=>rfl) _ _ _)) _ _ _) rfl))),_,x26_ok hb8,?_⟩
     conv=>whnf
     obtain ⟨r6,hb9,h⟩:=bd_some h
     refine ⟨(allc (pu_agg (allc rfl (allc (pu_map (fun _=>rfl) _ _ _) (allc rfl (allc rfl rfl))))) (allc (pu_flat (fun _=>(allc rfl (allc rfl rfl))) _ _ _) (allc (pu_map (fun _=>(pu_map (fun _=>rfl) _ _ _)) _ _ _) rfl))),_,x27_ok hb9,?_⟩
     conv=>whnf
     rcases bt (decide (r5.2.2=(0:Int))) with hb10 | hb10
     ·rw [hb10]
      conv=>whnf
      replace h:=it_t hb10 h
      rcases bt (decide (r6.2.2=(0:Int))) with hb11 | hb11
      ·rw [hb11]
       conv=>whnf
       replace h:=it_t hb11 h
       rcases bt (decide (r5.1=r1.1)) with hb12 | hb12
       ·rw [hb12]
        conv=>whnf
        replace h:=it_t hb12 h
        rcases bt (decide (r6.1=r1.1)) with hb13 | hb13
        ·rw [hb13]
         conv=>whnf
         replace h:=it_t hb13 h
         rcases bt (decide (r5.2.1=r2.1)) with hb14 | hb14
         ·rw [hb14]
          conv=>whnf
          replace h:=it_t hb14 h
          obtain rfl:=Option.some.inj h
          exact hR _ _ ⟨.inr rfl,_,rfl,_,frz_pure (pu_tup (allc rfl (allc rfl (allc (pu_map (fun _=>(pu_map (fun _=>rfl) _ _ _)) _ _ _) (allc rfl rfl))))),rfl⟩
         ·rw [hb14]
          conv=>whnf
          replace h:=it_f hb14 h
          obtain rfl:=Option.some.inj h
          exact hR _ _ ⟨.inr rfl,_,rfl,_,frz_pure (pu_tup (allc rfl (allc rfl (allc (pu_map (fun _=>(pu_map (fun _=>rfl) _ _ _)) _ _ _) (allc rfl rfl))))),rfl⟩
        ·rw [hb13]
         conv=>whnf
         replace h:=it_f hb13 h
         obtain rfl:=Option.some.inj h
         exact hR _ _ ⟨.inr rfl,_,rfl,_,frz_pure (pu_tup (allc rfl (allc rfl (allc (pu_map (fun _=>(pu_map (fun _=>rfl) _ _ _)) _ _ _) (allc rfl rfl))))),rfl⟩
       ·rw [hb12]
        conv=>whnf
        replace h:=it_f hb12 h
        obtain rfl:=Option.some.inj h
        exact hR _ _ ⟨.inr rfl,_,rfl,_,frz_pure (pu_tup (allc rfl (allc rfl (allc (pu_map (fun _=>(pu_map (fun _=>rfl) _ _ _)) _ _ _) (allc rfl rfl))))),rfl⟩
      ·rw [hb11]
       conv=>whnf
       replace h:=it_f hb11 h
       obtain rfl:=Option.some.inj h
       exact hR _ _ ⟨.inr rfl,_,rfl,_,frz_pure (pu_tup (allc rfl (allc rfl (allc (pu_map (fun _=>(pu_map (fun _=>rfl) _ _ _)) _ _ _) (allc rfl rfl))))),rfl⟩
     ·rw [hb10]
      conv=>whnf
      replace h:=it_f hb10 h
      obtain rfl:=Option.some.inj h
      exact hR _ _ ⟨.inr rfl,_,rfl,_,frz_pure (pu_tup (allc rfl (allc rfl (allc (pu_map (fun _=>(pu_map (fun _=>rfl) _ _ _)) _ _ _) (allc rfl rfl))))),rfl⟩
    ·conv=>whnf
     replace h:=it_t rfl h
     obtain rfl:=Option.some.inj h
     exact hR _ _ ⟨.inr rfl,_,rfl,_,frz_pure (pu_tup (allc rfl (allc rfl (allc rfl (allc rfl rfl))))),rfl⟩

def x5 (b:(Int×(List Int)×Int×Int)) (panels:(List (Int×Int))):Option Bool :=
 (x16 b panels).bind fun r1 =>
 if r1=true then
  (x17).bind fun r2 =>
  some r2
 else
  (x33 b panels).bind fun r3 =>
  (x34 b panels).bind fun r4 =>
  (x35 b panels).bind fun r5 =>
  (x36 b panels).bind fun r6 =>
  (x37 b panels).bind fun r7 =>
  if (decide (r3.1≠r4.1))=true then
   some false
  else
   if (decide (r3.2≠r4.2))=true then
    some false
   else
    if (decide (r5.1≠r6.1))=true then
     some false
    else
     if (decide (r5.2≠r6.2))=true then
      some false
     else
      if (decide (r7.2≠r4.2))=true then
       some false
      else
       (x25 r7.1).bind fun r8 =>
       if r8=true then
        some false
       else
        if (decide (r4.2≠(0:Int)))=true then
         if (decide ((r7.1.length:Int)=(0:Int)))=true then
          (x17).bind fun r9 =>
          some r9
         else
          some false
        else
         (x27 b panels r7.1).bind fun r10 =>
         if (decide (r10.2.2=(0:Int)))=true then
          if (decide (r10.1=r4.1))=true then
           if (decide (r10.2.1=r6.1))=true then
            (x17).bind fun r11 =>
            some r11
           else
            some false
          else
           some false
         else
          some false

theorem swo_up:Sort.SWO Sort.ltInt:=by
 constructor <;> intros <;> simp_all [Sort.ltInt] <;> omega
theorem sortU_perm (l:List Int):(sortU l).Perm l:=by
 obtain ⟨⟨h1,_,h3⟩,_⟩:=Sort.insertionSort_holds (lt:=Sort.ltInt) swo_up l.toArray 0 l.length (Nat.zero_le _) (by simp)
 unfold sortU
 generalize Sort.insertionSort Sort.ltInt l.toArray 0 l.length=d at h1 h3
 have e1:(d.extract 0 l.length).toList=d.toList:=by
  have:l.length=d.size:=by rw [h1];simp
  rw [this];simp
 have e2:(l.toArray.extract 0 l.length).toList=l:=by simp
 rwa [e1,e2] at h3
theorem sortU_len (l:List Int):(sortU l).length=l.length:=(sortU_perm l).length_eq
theorem sortU_mem (l:List Int) (x:Int):x∈sortU l↔x∈l:=(sortU_perm l).mem_iff
theorem sortU_up {l:List Int} (hn:l.Nodup):(sortU l).Pairwise (·<·):=by
 have hn2:(sortU l).Nodup:=(sortU_perm l).nodup_iff.2 hn
 obtain ⟨⟨h1,_,_⟩,h4⟩:=Sort.insertionSort_holds (lt:=Sort.ltInt) swo_up l.toArray 0 l.length (Nat.zero_le _) (by simp)
 rw [List.pairwise_iff_getElem]
 intro i j hi hj hij
 have hl:=sortU_len l
 have hs:(Sort.insertionSort Sort.ltInt l.toArray 0 l.length).size=l.length:=by rw [h1];simp
 have h5:=h4 i j (Nat.zero_le _) (by omega) (by omega)
 rw [getElem!_pos _ i (by omega),getElem!_pos _ j (by omega)] at h5
 have h6:(sortU l)[i]≤(sortU l)[j]:=by
  have g:∀ k (hk:k<(sortU l).length),(sortU l)[k]=(Sort.insertionSort Sort.ltInt l.toArray 0 l.length)[k]'(by omega):=fun k hk=>rfl
  rw [g i hi,g j hj]
  simp only [Sort.ltInt,decide_eq_false_iff_not] at h5
  omega
 have h7:=List.pairwise_iff_getElem.1 hn2 i j hi hj hij
 omega
theorem chunks_take (n:Nat) (l:List Int):∀ c,((List.range c).map fun j=>(l.drop (j*n)).take n).flatten=l.take (c*n)
 | 0=>by simp
 | c+1=>by
   rw [List.range_succ,List.map_append,List.flatten_append,chunks_take n l c,Nat.succ_mul,List.take_add];simp
theorem chunks_flat {n:Nat} (hn:0<n) (l:List Int):(chunks n l).flatten=l:=by
 unfold chunks
 rw [chunks_take]
 refine List.take_of_length_le ?_
 rcases Nat.lt_or_ge ((l.length+n-1) / n*n) l.length with h | h
 ·have:=(chunks_lt (k:=l.length) hn (j:=(l.length+n-1) / n)).2 h
  omega
 ·exact h
theorem map_flat_perm (f:List Int→List Int) (hf:∀ l,(f l).Perm l):∀ L:List (List Int),(L.map f).flatten.Perm L.flatten
 | []=>.refl _
 | e::L=>by rw [List.map_cons,List.flatten_cons,List.flatten_cons];exact (hf e).append (map_flat_perm f hf L)
theorem chunk_eq {n:Nat} {l e:List Int} (h:e∈chunks n l):∃ j,e=(l.drop (j*n)).take n:=by
 obtain ⟨j,_,rfl⟩:=List.mem_map.1 h
 exact ⟨j,rfl⟩
theorem chunk_sub {n:Nat} {l e:List Int} (h:e∈chunks n l):e.Sublist l:=by
 obtain ⟨j,rfl⟩:=chunk_eq h
 exact (List.take_sublist _ _).trans (List.drop_sublist _ _)
theorem ofL_perm (ps:List (Int×Int)) (h:Int):(ofL ps h).Perm (idxs ps h):=by
 have hS:Sort.SWO (longer ps):=by
  constructor <;> intros <;> simp_all [longer] <;> omega
 obtain ⟨⟨h1,_,h3⟩,_⟩:=Sort.insertionSort_holds (lt:=longer ps) hS (idxs ps h).toArray 0 (idxs ps h).length (Nat.zero_le _) (by simp)
 unfold ofL
 generalize Sort.insertionSort (longer ps) (idxs ps h).toArray 0 (idxs ps h).length=d at h1 h3
 have e1:(d.extract 0 (idxs ps h).length).toList=d.toList:=by
  have:(idxs ps h).length=d.size:=by rw [h1];simp
  rw [this];simp
 have e2:((idxs ps h).toArray.extract 0 (idxs ps h).length).toList=idxs ps h:=by simp
 rwa [e1,e2] at h3
theorem idxs_mem {ps:List (Int×Int)} {h x:Int}:x∈idxs ps h↔(0≤x∧x<(ps.length:Int))∧(ix ps x).1=h:=by
 unfold idxs wants
 rw [List.mem_map]
 constructor
 ·rintro ⟨i,hi,rfl⟩
  obtain ⟨h1,h2⟩:=List.mem_filter.1 hi
  have h1:=List.mem_range.1 h1
  exact ⟨by omega,of_decide_eq_true h2⟩
 ·rintro ⟨h1,h2⟩
  have e:((x.toNat:Nat):Int)=x:=by omega
  exact ⟨x.toNat,List.mem_filter.2 ⟨List.mem_range.2 (by omega),by rw [e];exact decide_eq_true h2⟩,e⟩
theorem idxs_nodup (ps:List (Int×Int)) (h:Int):(idxs ps h).Nodup:=by
 unfold idxs
 rw [List.nodup_iff_pairwise_ne,List.pairwise_map]
 exact (List.nodup_range.filter _).imp fun h e=>h (by omega)
theorem ofL_mem {ps:List (Int×Int)} {h x:Int}:x∈ofL ps h↔(0≤x∧x<(ps.length:Int))∧(ix ps x).1=h:=by
 rw [(ofL_perm ps h).mem_iff,idxs_mem]
theorem ofL_nodup (ps:List (Int×Int)) (h:Int):(ofL ps h).Nodup:=(ofL_perm ps h).nodup_iff.2 (idxs_nodup ps h)
def turnsOf (n:Nat) (ps:List (Int×Int)) (h:Int):List (List Int):=(chunks n (ofL ps h)).map sortU
def turnsL (n:Nat) (ps:List (Int×Int)) (l:List Int):List (List Int):=(l.map (turnsOf n ps)).flatten
theorem turnsL_cons (n:Nat) (ps:List (Int×Int)) (h:Int) (l:List Int):turnsL n ps (h::l)=turnsOf n ps h++turnsL n ps l:=rfl
theorem turnsOf_len {n:Nat} (hn:0<n) (ps:List (Int×Int)) (h:Int):(turnsOf n ps h).length≤ps.length:=by
 unfold turnsOf
 rw [List.length_map]
 have h1:=chunks_cnt hn (ofL ps h)
 have h2:=idxs_len ps h
 rw [ofL_len] at h1
 omega
theorem mem_turnsL {n:Nat} {ps:List (Int×Int)} {l t:List Int} (h:t∈turnsL n ps l):∃ he∈l,∃ e∈chunks n (ofL ps he),t=sortU e:=by
 obtain ⟨L,hL,ht⟩:=List.mem_flatten.1 h
 obtain ⟨he,h1,rfl⟩:=List.mem_map.1 hL
 obtain ⟨e,h2,rfl⟩:=List.mem_map.1 ht
 exact ⟨he,h1,e,h2,rfl⟩
theorem turnsL_flat {n:Nat} (hn:0<n) (ps:List (Int×Int)):∀ l:List Int,(turnsL n ps l).flatten.Perm (l.map (idxs ps)).flatten
 | []=>.refl _
 | h::l=>by
   rw [turnsL_cons,List.flatten_append,List.map_cons,List.flatten_cons]
   refine .append ?_ (turnsL_flat hn ps l)
   refine (map_flat_perm sortU sortU_perm _).trans ?_
   rw [chunks_flat hn]
   exact ofL_perm ps h
theorem chunk_heat {n:Nat} {ps:List (Int×Int)} {h:Int} {e:List Int} (he:e∈chunks n (ofL ps h)):∀ x∈sortU e,(0≤x∧x<(ps.length:Int))∧(ix ps x).1=h:=fun x hx =>
 ofL_mem.1 (chunk_mem he x ((sortU_mem e x).1 hx))
theorem turn_heat {n:Nat} (hn:0<n) {ps:List (Int×Int)} {h:Int} {e:List Int} (he:e∈chunks n (ofL ps h)):0<(sortU e).length∧heatT ps (sortU e)=h:=by
 have h0:0<(sortU e).length:=by
  rw [sortU_len];exact List.length_pos_iff.2 (chunk_ne hn he)
 exact ⟨h0,(chunk_heat he _ (ix0_mem h0)).2⟩
theorem turnsL_ok {n:Nat} (hn:0<n) {ps:List (Int×Int)} (hp:PsOk ps) (h:Int):TOk n ps [] (turnsL n ps (ordP h ps)):=by
 have hflat:=turnsL_flat hn ps (ordP h ps)
 refine ⟨fun t ht=>?_,fun t ht x hx=>?_,fun t ht=>?_,fun t ht=>?_,fun t ht x hx=>?_,?_,?_⟩
 ·obtain ⟨he,_,e,h2,rfl⟩:=mem_turnsL ht
  exact (turn_heat hn h2).1
 ·obtain ⟨he,_,e,h2,rfl⟩:=mem_turnsL ht
  exact (chunk_heat h2 x hx).1
 ·obtain ⟨he,_,e,h2,rfl⟩:=mem_turnsL ht
  exact sortU_up ((chunk_sub h2).nodup (ofL_nodup ps he))
 ·obtain ⟨he,_,e,h2,rfl⟩:=mem_turnsL ht
  obtain ⟨j,rfl⟩:=chunk_eq h2
  rw [sortU_len,List.length_take];omega
 ·obtain ⟨he,_,e,h2,rfl⟩:=mem_turnsL ht
  rw [(turn_heat hn h2).2];exact (chunk_heat h2 x hx).2
 ·rw [List.nil_append,hflat.nodup_iff]
  refine List.pairwise_flatten.2 ⟨fun l hl=>?_,?_⟩
  ·obtain ⟨he,_,rfl⟩:=List.mem_map.1 hl
   exact idxs_nodup ps he
  ·rw [List.pairwise_map]
   exact (ordP_nodup h ps).imp fun hne x hx y hy e=>hne (by rw [←(idxs_mem.1 hx).2,←(idxs_mem.1 hy).2,e])
 ·rw [List.nil_append,hflat.length_eq]
  have:=pig ((List.range ps.length).map fun (i:Nat)=>(i:Int)) ((ordP h ps).map (idxs ps)).flatten (nodup_cast _) fun x hx=>by
   obtain ⟨i,hi,rfl⟩:=List.mem_map.1 hx
   have hi:=List.mem_range.1 hi
   have hr:0≤(i:Int)∧(i:Int)<(ps.length:Int):=by omega
   exact List.mem_flatten.2 ⟨_,List.mem_map.2 ⟨(ix ps (i:Int)).1,(ordP_mem hp.heat _).2 (List.mem_map.2 ⟨_,ixps_mem hr,rfl⟩),rfl⟩,idxs_mem.2 ⟨hr,rfl⟩⟩
  simpa using this
theorem hourT_set {ps:List (Int×Int)} {t e:List Int} (h:∀ x,x∈t↔x∈e):hourT ps t=hourT ps e:=by
 unfold hourT
 refine maxL_set (fun x=>?_) 0
 rw [List.mem_map,List.mem_map]
 exact ⟨fun ⟨y,hy,e⟩=>⟨y,(h y).1 hy,e⟩,fun ⟨y,hy,e⟩=>⟨y,(h y).2 hy,e⟩⟩
theorem maxL_head {a:Int} {r:List Int} (ha:0≤a) (h:∀ x∈r,x≤a):maxL 0 (a::r)=a:=by
 have s:=maxL_spec (a::r) 0
 refine Int.le_antisymm ?_ (s.2.1 a (by simp))
 rcases s.2.2 with h1 | h1
 ·omega
 ·rcases List.mem_cons.1 h1 with h2 | h2
  ·omega
  ·exact h _ h2
theorem chunk_hour {n:Nat} (hn:0<n) {ps:List (Int×Int)} (hp:hrsOk ps) {h:Int} {e:List Int} (he:e∈chunks n (ofL ps h)):hourT ps (sortU e)=(ix ps (e.headD 0)).2:=by
 rw [hourT_set (sortU_mem e)]
 have hs:(e.map fun x=>(ix ps x).2).Pairwise (fun a b=>b≤a):=by
  have h1:((ofL ps h).map fun x=>(ix ps x).2).Pairwise (fun a b=>b≤a):=by
   rw [ofL_hrs];exact down_sorted fun x hx=>(hrs_in hp h x hx).1
  exact h1.sublist ((chunk_sub he).map _)
 have hne:=chunk_ne hn he
 have hm:=chunk_mem he
 cases e with
 | nil=>exact absurd rfl hne
 | cons a r =>
   have ha:=(ofL_mem.1 (hm a (by simp))).1
   have:=hp _ (ixps_mem ha)
   exact maxL_head this.1 (List.pairwise_cons.1 hs).1
theorem tHours_app (ps:List (Int×Int)) (a b:List (List Int)):tHours ps (a++b)=tHours ps a+tHours ps b:=by
 unfold tHours;rw [List.map_append,List.sum_append]
theorem turnsOf_hours {n:Nat} (hn:0<n) {ps:List (Int×Int)} (hp:hrsOk ps) (h:Int):tHours ps (turnsOf n ps h)=hH n (hrs ps h):=by
 rw [←sum_heads n hn ps h]
 unfold tHours turnsOf
 rw [List.map_map]
 congr 1
 exact List.map_congr_left fun e he=>chunk_hour hn hp he
theorem turnsL_sum {n:Nat} (hn:0<n) {ps:List (Int×Int)} (hp:hrsOk ps):∀ l:List Int,tHours ps (turnsL n ps l)=(l.map fun h=>hH n (hrs ps h)).sum
 | []=>rfl
 | h::l=>by rw [turnsL_cons,tHours_app,turnsOf_hours hn hp,turnsL_sum hn hp l,List.map_cons,List.sum_cons]
theorem sum_filter0 {f:Nat→Int} {p:Nat→Bool}:∀ l:List Nat,(∀ x∈l,p x=false→f x=0)→((l.filter p).map f).sum=(l.map f).sum
 | [],_=>rfl
 | a::l,h=>by
   have ih:=sum_filter0 l fun x hx=>h x (by simp [hx])
   cases hp:p a with
   | true=>rw [List.filter_cons_of_pos hp,List.map_cons,List.map_cons,List.sum_cons,List.sum_cons,ih]
   | false=>rw [List.filter_cons_of_neg (by simp [hp]),List.map_cons,List.sum_cons,ih,h a (by simp) hp,Int.zero_add]
theorem turnsL_hours {n:Nat} (hn:0<n) {ps:List (Int×Int)} (hp:PsOk ps) (h:Int):tHours ps (turnsL n ps (ordP h ps))=hSum n ps 21:=by
 rw [turnsL_sum hn hp.hrs]
 have h1:((upTo (wantL ps) 21).map fun h=>hH n (hrs ps h)).sum=hSum n ps 21:=by
  unfold upTo hSum
  rw [List.map_map]
  refine sum_filter0 _ fun x hx hf=>?_
  have hx:=List.mem_range.1 hx
  have h2:(x:Int) ∉ ps.map (·.1):=fun hm=>by
   obtain ⟨j,_,h3,h4⟩:=mem_upTo.1 ((want_mem hp.heat _).2 hm)
   rw [←h4] at h3
   exact absurd (decide_eq_true h3) (by rw [hf];decide)
  show hH n (hrs ps (x:Int))=0
  have h3:hrs ps (x:Int)=[]:=by
   unfold hrs
   rw [List.map_eq_nil_iff,List.filter_eq_nil_iff]
   intro p hp e
   exact h2 (List.mem_map.2 ⟨p,hp,of_decide_eq_true e⟩)
  rw [h3,hH_nil n hn]
 unfold ordP
 split
 ·rw [←h1]
  exact perm_sum ((List.reverse_perm _).map _)
 ·exact h1
theorem walk_rep (h:Int) (l:List Int):∀ c,walk h (List.replicate c h++l)=walk h l
 | 0=>rfl
 | c+1=>by rw [List.replicate_succ,List.cons_append,walk,walk_rep h l c];omega
theorem turnsL_walk {n:Nat} (hn:0<n) {ps:List (Int×Int)}:∀ (l:List Int) (s:Int),(∀ h∈l,h∈ps.map (·.1))→walk s ((turnsL n ps l).map (heatT ps))=walk s l
 | [],_,_=>rfl
 | h::l,s,hl=>by
   have ih:=turnsL_walk hn l h fun x hx=>hl x (by simp [hx])
   have e1:(turnsOf n ps h).map (heatT ps)=List.replicate (turnsOf n ps h).length h:=by
    rw [List.eq_replicate_iff]
    refine ⟨by simp,fun b hb=>?_⟩
    obtain ⟨t,ht,rfl⟩:=List.mem_map.1 hb
    obtain ⟨e,he,rfl⟩:=List.mem_map.1 ht
    exact (turn_heat hn he).2
   obtain ⟨p,hp,e2⟩:=List.mem_map.1 (hl h (by simp))
   obtain ⟨i,hi,e3⟩:=List.mem_iff_getElem.1 hp
   have hm:(i:Int)∈ofL ps h:=ofL_mem.2 ⟨by omega,by rw [ix_nat hi,e3];exact e2⟩
   have hpos:0<(turnsOf n ps h).length:=by
    unfold turnsOf
    rw [List.length_map]
    rcases Nat.eq_zero_or_pos (chunks n (ofL ps h)).length with h0 | h0
    ·have:=chunks_flat hn (ofL ps h)
     rw [List.eq_nil_of_length_eq_zero h0] at this
     rw [←this] at hm;cases hm
    ·exact h0
   rw [turnsL_cons,List.map_append,e1]
   obtain ⟨c,hc⟩:∃ c,(turnsOf n ps h).length=c+1:=⟨(turnsOf n ps h).length-1,by omega⟩
   rw [hc,List.replicate_succ,List.cons_append,walk,walk_rep,ih,walk]
theorem turnsL_way {n:Nat} (hn:0<n) {ps:List (Int×Int)} (hp:PsOk ps) {h:Int} (hh:0≤h∧h≤20):walk h ((turnsL n ps (ordP h ps)).map (heatT ps))=wayM h (ps.map (·.1)):=by
 rw [turnsL_walk hn _ h fun x hx=>(ordP_mem hp.heat x).1 hx,ordP_way hh hp.heat]
theorem fold37:∀ (L:List (List Int)) (t:List (List Int)),(∀ e∈L,0<e.length∧e.length≤12)→t.length+L.length≤1000→foldO x37_r1 L t=some (t++L.map sortU)
 | [],t,_,_=>by simp [foldO]
 | e::L,t,h,hl=>by
   have h1:=h e (by simp)
   rw [List.length_cons] at hl
   have e1:x37_r1 t e=some (t++[sortU e]):=by
    have e77:x77 e=some (sortU e):=if_pos h1
    have et:t.take (t.length:Int).toNat=t:=by rw [Int.toNat_natCast,List.take_length]
    rw [x37_r1,gd_pos ⟨rfl,by omega,Int.le_refl _⟩,et]
    show (x78 e).bind _=_
    rw [x78,Option.bind_some,e77,Option.bind_some,gd_pos ⟨by decide,by omega⟩]
   rw [foldO,e1,Option.bind_some,fold37 L _ (fun e he=>h e (by simp [he])) (by rw [List.length_append];simp;omega),List.append_assoc];rfl
theorem x37_l1_eq {p1:Bench} {ps:List (Int×Int)} (hp1:p1.2.1=ps) (hp:ps.length≤12) (hn:1≤p1.2.2.1.length∧p1.2.2.1.length≤10) {r2:List Int} (hr:r2.length≤21) {k:List (List Int)→Option (List (List Int)×Int)}:∀ (m i:Nat) (z:Int) (s:List (List Int)),z=i→i≤r2.length→r2.length-i<m→s.length≤12*i→x37_l1 p1 r2 k m z s=k (s++turnsL p1.2.2.1.length ps (r2.drop i))
 | 0,i,_,_,_,_,h,_=>absurd h (by omega)
 | m+1,i,_,s,rfl,hi,hm,hs=>by
   rw [x37_l1]
   by_cases h:i<r2.length
   ·have h1:=turnsOf_len (n:=p1.2.2.1.length) (by omega) ps r2[i]
    have hol:(ofL ps r2[i]).length≤ps.length:=by rw [ofL_len];exact idxs_len ps _
    have hcl:(chunks p1.2.2.1.length (ofL ps r2[i])).length≤ps.length:=by unfold turnsOf at h1;rwa [List.length_map] at h1
    have e1:x76 p1 r2[i]=some (ofL ps r2[i]):=by rw [x76,hp1,if_pos (by omega)]
    have e2:x75 (ofL ps r2[i]) (p1.2.2.1.length:Int)=some ():=if_neg (by rw [decide_eq_true_eq];omega)
    have e3:s98 (ofL ps r2[i]) (p1.2.2.1.length:Int)=some (chunks p1.2.2.1.length (ofL ps r2[i])):=by
     unfold s98;rw [if_pos ⟨by omega,by omega,by omega⟩,Int.toNat_natCast]
    have e4:=fold37 (chunks p1.2.2.1.length (ofL ps r2[i])) s (fun e he=>⟨List.length_pos_iff.2 (chunk_ne (by omega) he),by have:=(chunk_sub he).length_le;omega⟩) (by omega)
    rw [iflt h,gdi h,ix_nat h,e1,Option.bind_some,e2,Option.bind_some,e3,Option.bind_some,e4,Option.bind_some,w_succ i (by omega)]
    have ih:=x37_l1_eq hp1 hp hn hr (k:=k) m (i+1) _ (s++turnsOf p1.2.2.1.length ps r2[i]) rfl (by omega) (by omega) (by rw [List.length_append];omega)
    rw [List.drop_eq_getElem_cons h,turnsL_cons,←List.append_assoc]
    exact ih
   ·obtain rfl:i=r2.length:=by omega
    rw [ifge h,List.drop_length]
    show k s=k (s++[])
    rw [List.append_nil]
def bestT (b:Bed) (ps:List (Int×Int)):List (List Int):=turnsL (wn b) ps (ordP b.2.2.1 ps)
theorem x37_eq {b:Bed} (hb:bErr b=0) (hl:b.2.1.length≤20) {ps:List (Int×Int)} (hp:PsOk ps):x37 b ps=some (bestT b ps,0):=by
 have hB:=bedOk hb
 have hw:=wn_pos hB
 have h1:=ordP_len b.2.2.1 ps
 have:=x37_l1_eq (p1:=(b,ps,wholeL b.1.toNat b.2.1,wantL ps)) rfl hp.len hw h1 (k:=fun z1=>some (z1,(0:Int))) FU 0 0 [] rfl (Nat.zero_le _) (FU_lt (by omega)) (by simp)
 rw [List.drop_zero,List.nil_append] at this
 rw [x37,x69_eq hb hl hp,Option.bind_some]
 show (if (decide ((0:Int)≠(0:Int)))=true then _ else _)=_
 rw [if_neg (by decide),x74_eq hp.heat,Option.bind_some]
 exact this
theorem x25_l1_eq {l:List (List Int)} (hl:l.length≤1000) (ht:∀ t∈l,t.length≤1000000000000000) {k:Int→Option Bool}:∀ (m i:Nat) (z:Int) (s:Nat),z=i→i≤l.length→l.length-i<m→s≤1000000000000000*i→x25_l1 l k m (s:Int) z=k (((s+((l.drop i).map List.length).sum:Nat)):Int)
 | 0,i,_,_,_,_,h,_=>absurd h (by omega)
 | m+1,i,_,s,rfl,hi,hm,hs=>by
   rw [x25_l1]
   by_cases h:i<l.length
   ·have h1:=ht _ (List.getElem_mem h)
    have e:w ((s:Int)+(l[i].length:Int))=((s+l[i].length:Nat):Int):=by rw [w_id (by omega)];omega
    rw [iflt h,gdi h,ix_nat h,e,w_succ i (by omega),x25_l1_eq hl ht m (i+1) _ _ rfl (by omega) (by omega) (by omega),List.drop_eq_getElem_cons h,List.map_cons,List.sum_cons,Nat.add_assoc]
   ·rw [ifge h,List.drop_eq_nil_of_le (by omega)]
    show k (s:Int)=k ((s+0:Nat):Int)
    rfl
theorem x25_eq {l:List (List Int)} (ht:∀ t∈l,t.length≤1000000000000000):x25 l=some (decide (20<l.length) || decide (40<(l.map List.length).sum)):=by
 rw [x25]
 by_cases h:20<l.length
 ·rw [if_pos (decide_eq_true (by omega)),decide_eq_true h];rfl
 ·rw [if_neg (by rw [decide_eq_true_eq];omega),decide_eq_false h,Bool.false_or]
  have:=x25_l1_eq (l:=l) (by omega) ht (k:=fun z1=>some (decide ((40:Int)<z1))) FU 0 0 0 rfl (Nat.zero_le _) (FU_lt (by omega)) (by omega)
  rw [List.drop_zero,Nat.zero_add] at this
  refine this.trans ?_
  congr 1
  rw [Bool.eq_iff_iff,decide_eq_true_eq,decide_eq_true_eq];omega
theorem len_flat:∀ L:List (List Int),L.flatten.length=(L.map List.length).sum
 | []=>rfl
 | e::L=>by rw [List.flatten_cons,List.length_append,len_flat L,List.map_cons,List.sum_cons]
theorem cnt_flat:∀ L:List (List Int),(∀ t∈L,0<t.length)→L.length≤L.flatten.length
 | [],_=>Nat.le_refl _
 | e::L,h=>by
   have h1:=(List.forall_mem_cons.1 h).1
   have h2:=cnt_flat L (List.forall_mem_cons.1 h).2
   rw [List.flatten_cons,List.length_append,List.length_cons];omega
theorem len_of_flat {L:List (List Int)} {t:List Int} (h:t∈L):t.length≤L.flatten.length:=by
 rw [len_flat]
 induction L with
 | nil=>cases h
 | cons e L ih =>
   rw [List.map_cons,List.sum_cons]
   rcases List.mem_cons.1 h with rfl | h
   ·omega
   ·have:=ih h;omega
theorem TOk.flat {n:Nat} {ps:List (Int×Int)} {ts:List (List Int)} (h:TOk n ps [] ts):ts.flatten.length=ps.length:=by
 have h1:=h.all
 have h2:=h.nd
 rw [List.nil_append] at h1 h2
 refine Nat.le_antisymm ?_ h1
 have:=pig ts.flatten ((List.range ps.length).map fun (i:Nat)=>(i:Int)) h2 fun x hx=>by
  obtain ⟨t,ht,hxt⟩:=List.mem_flatten.1 hx
  have:=h.rng t ht x hxt
  exact List.mem_map.2 ⟨x.toNat,List.mem_range.2 (by omega),by omega⟩
 simpa using this
theorem TOk.cnt {n:Nat} {ps:List (Int×Int)} {ts:List (List Int)} (h:TOk n ps [] ts):ts.length≤ps.length:=by
 have:=cnt_flat ts h.ne;rw [h.flat] at this;exact this
theorem TOk.one {n:Nat} {ps:List (Int×Int)} {ts:List (List Int)} (h:TOk n ps [] ts):∀ t∈ts,t.length≤ps.length:=fun t ht=>by
 have:=len_of_flat ht;rw [h.flat] at this;exact this
theorem bestT_ok {b:Bed} (hb:bErr b=0) {ps:List (Int×Int)} (hp:PsOk ps):TOk (wn b) ps [] (bestT b ps):=turnsL_ok (by have:=wn_pos (bedOk hb);omega) hp _
theorem x25_short {n:Nat} {ps:List (Int×Int)} (hp:ps.length≤12) {ts:List (List Int)} (h:TOk n ps [] ts):x25 ts=some false:=by
 have h1:=h.flat
 have h2:=h.cnt
 rw [x25_eq fun t ht=>by have:=h.one t ht;omega,←len_flat,h1,decide_eq_false (by omega),decide_eq_false (by omega)];rfl
theorem tAns_best {b:Bed} (hb:bErr b=0) {ps:List (Int×Int)} (hp:PsOk ps):tAns b ps (bestT b ps)=(hSum (wn b) ps 21,wayM b.2.2.1 (ps.map (·.1)),0):=by
 have hB:=bedOk hb
 have hw:=wn_pos hB
 have hT:=(tErr_iff _ [] nil_nodup).2 (bestT_ok hb hp)
 unfold tAns
 rw [if_pos (eB_of hb hp),if_pos hT]
 unfold bestT
 rw [turnsL_hours (by omega) hp,turnsL_way (by omega) hp hB.h0]
theorem x46_eq {b:Bed} {ps:List (Int×Int)} (hf:FineOk b ps):x46 b ps=some (hSum (wn b) ps 21,wayM b.2.2.1 (ps.map (·.1)),bestT b ps,true):=by
 obtain ⟨hl,hb,hp⟩:=hf
 have hpl:=hp.len
 have hO:=bestT_ok hb hp
 have h1:(bestT b ps).length≤1000:=by have:=hO.cnt;omega
 have h2:∀ t∈bestT b ps,t.length≤9223372036854775807:=fun t ht=>by have:=hO.one t ht;omega
 rw [x46,x33_eq hb hl hp,Option.bind_some,x35_eq hb hl hp,Option.bind_some,x37_eq hb hl hp,Option.bind_some]
 simp only [ne_eq,not_true_eq_false,decide_false,Bool.false_eq_true,if_false]
 rw [x25_short hpl hO,Option.bind_some,if_neg (by decide),x26_eq hl h1 h2,Option.bind_some,x27_eq hl h1 h2,Option.bind_some,tAns_best hb hp]
 simp only [decide_true,if_true]

end Go.Proofs.YtbnbjjgagikobaaGreat.Ab


namespace Go.Proofs.YtbnbjjgagikobaaGreat.Ab
open Go
set_option maxRecDepth 20000
set_option maxHeartbeats 4000000

end Go.Proofs.YtbnbjjgagikobaaGreat.Ab


namespace Go.Proofs.YtbnbjjgagikobaaGreat.Ab
open Go
set_option maxRecDepth 20000
set_option maxHeartbeats 4000000
noncomputable def xrc13_3:RC :=
 .cond (.sl 35) (.seq (.reg false [I_ 36 [.cv (.func 17 [] [])] (.call 3),I_ 8 [.tk 36] .mv]) .ret) .skip
noncomputable def xrc13_6:RC :=
 .cond (.sl 46) (.seq (.reg false [I_ 8 [.cv (.bool false)] .mv]) .ret) .skip
noncomputable def xrc13_15:RC :=
 .reg false [I_ 84 [.tk 17] .mv,I_ 85 [.sl 19] (.fa 0),I_ 86 [.tv 85] (.ld .one),I_ 87 [.cv (.int .i64 20),.tv 86] (.bin .sub),I_ 88 [.tv 19] (.fa 1),I_ 89 [.tv 88] (.ld .one),I_ 90 [.tv 87,.tv 89] (.build [.int .i64 0,
 .int .i64 0] [(0,1),(1,1)]),I_ 91 [.tv 90] (.buildS 1 2 [.int .i64 0,.int .i64 0] [0]),I_ 92 [.tk 84,.tk 91] (.app 2 16),I_ 17 [.tk 92] .mv]
noncomputable def xrc13_14:RC :=
 .seq (.reg false [I_ 74 [.tk 16] .mv,I_ 75 [.sl 19] (.fa 0),I_ 76 [.tv 75] (.ld .one),I_ 77 [.sl 14] .mv,I_ 78 [.tv 76,.tv 77] (.bin .add),I_ 79 [.sl 19] (.fa 1),I_ 80 [.tv 79] (.ld .one),I_ 81 [.tv 78,.tv 80] (.build
 [.int .i64 0,.int .i64 0] [(0,1),(1,1)]),I_ 82 [.tv 81] (.buildS 1 2 [.int .i64 0,.int .i64 0] [0]),I_ 83 [.tk 74,.tk 82] (.app 2 16),I_ 16 [.tk 83] .mv]) xrc13_15
noncomputable def xrc13_13:RC :=
 .seq (.reg false [I_ 64 [.tk 15] .mv,I_ 65 [.sl 19] (.fa 0),I_ 66 [.tv 65] (.ld .one),I_ 67 [.sl 13] .mv,I_ 68 [.sl 19] (.fa 1),I_ 69 [.tv 68] (.ld .one),I_ 70 [.tv 67,.tv 69] (.bin .mul),I_ 71 [.tv 66,.tv 70] (.build
 [.int .i64 0,.int .i64 0] [(0,1),(1,1)]),I_ 72 [.tv 71] (.buildS 1 2 [.int .i64 0,.int .i64 0] [0]),I_ 73 [.tk 64,.tk 72] (.app 2 16),I_ 15 [.tk 73] .mv]) xrc13_14
noncomputable def xrc13_12:RC :=
 .reg false [I_ 58 [.tk 18] .mv,I_ 59 [.tv 58,.cv (.int .i64 1)] (.bin .add),I_ 18 [.tk 59] .mv]
noncomputable def xrc13_11:RC :=
 .seq (.block 1 (.seq (.reg false [I_ 60 [.sl 1] .mv,I_ 61 [.sl 18] .mv,I_ 62 [.tv 60,.tv 61] (.ia 2),I_ 63 [.tv 62] (.ld (.str 2)),I_ 19 [] (.alloc [.int .i64 0,.int .i64 0]),⟨none,[.sl 19,.tk 63],none,none,.st 2⟩])
 xrc13_13)) xrc13_12
noncomputable def xrc13_16:RC :=
 .loop (some [o_,i_,o_,o_,i_,o_,o_,o_,o_,i_,i_,o_,o_,i_,i_,i_,i_,i_,i_,o_,o_,o_,o_,o_,o_,o_,o_,o_,o_,o_,o_,o_,o_,o_,o_,o_,o_,o_,o_,o_,o_,o_,o_,o_,o_,o_,o_,o_,o_,o_,o_,o_,o_,o_,o_,o_,o_,o_,o_,o_,o_,o_,o_,o_,o_,o_,o_,o_,o_,o_,o_,o_,o_,o_,o_,o_,o_,o_,o_,o_,o_,o_,o_,o_,o_,o_,o_,o_,o_,o_,o_,o_,o_,o_,o_,o_,o_,o_,o_,o_,o_,o_,o_,o_,o_,o_,o_,o_,o_,o_,o_,o_,o_,o_,o_,o_,o_,o_,o_,o_,o_,o_,o_,o_,o_,o_,o_,o_,o_,o_,o_,o_,o_,o_,o_,o_,o_,o_,o_,o_,o_,o_,o_,o_,o_,o_,o_,o_,o_,o_,o_,o_,o_,o_,o_,o_,o_,o_,o_,o_,o_,o_,o_,o_,o_,o_,o_,o_,o_,o_,o_,o_,o_,o_,o_,o_,o_,o_,o_,o_,o_,o_,o_]) (.seq (.seq (.reg false [I_ 54 [.sl 18] .mv,I_ 55 [.sl 1] .mv,
 I_ 56 [.tk 55] .lenS,I_ 57 [.tv 54,.tv 56] (.bin .lss)]) (.cond (.sl 57) .skip (.exit 0))) xrc13_11)
noncomputable def xrc13_10:RC :=
 .block 0 xrc13_16
noncomputable def xrc13_19:RC :=
 .cond (.sl 117) (.seq (.reg false [I_ 8 [.cv (.bool false)] .mv]) .ret) .skip
noncomputable def xrc13_18:RC :=
 .seq (.reg false [I_ 104 [.tk 23] .mv,I_ 105 [.tv 104] (.un .not),I_ 106 [.tk 105] .mv,⟨some 107,[.tk 20],some (106,false),none,.mv⟩,⟨some 108,[.tk 13],some (106,false),none,.mv⟩,⟨some 109,[.sl 9],some (106,
 false),none,.mv⟩,⟨some 110,[.tv 108,.tv 109],some (106,false),none,.bin .mul⟩,⟨some 111,[.tv 107,.tv 110],some (106,false),none,.bin .neq⟩,I_ 112 [.tv 106,.cv (.bool true),.tv 111] .pick,I_ 113 [.tk 112]
 .mv,⟨some 114,[.tk 21],some (113,false),none,.mv⟩,⟨some 115,[.sl 10],some (113,false),none,.mv⟩,⟨some 116,[.tv 114,.tv 115],some (113,false),none,.bin .neq⟩,I_ 117 [.tv 113,.cv (.bool true),.tv 116]
 .pick]) xrc13_19
noncomputable def xrc13_17:RC :=
 .cond (.sl 95) (.seq (.reg false [I_ 97 [.sl 4] (.ld (.str 4)),I_ 98 [.tk 15] .mv,I_ 99 [.cv (.func 46 [] []),.sl 97,.sl 98] (.call 3),I_ 96 [.tk 99] .mv,I_ 100 [.sl 96] (.ext 0),I_ 101 [.sl 96] (.ext 1),I_ 102 [.sl 96]
 (.ext 2),I_ 103 [.tv 96] (.ext 3),I_ 20 [.tk 100] .mv,I_ 21 [.tk 101] .mv,I_ 22 [.tk 102] .mv,I_ 23 [.tk 103] .mv]) xrc13_18) .skip
noncomputable def xrc13_23:RC :=
 .cond (.sl 151) (.seq (.reg false [I_ 8 [.cv (.bool false)] .mv]) .ret) .skip
noncomputable def xrc13_22:RC :=
 .seq (.reg false [I_ 140 [.tk 28] .mv,I_ 141 [.tv 140] (.un .not),I_ 142 [.tk 141] .mv,⟨some 143,[.tk 25],some (142,false),none,.mv⟩,⟨some 144,[.sl 9],some (142,false),none,.mv⟩,⟨some 145,[.tv 143,.tv 144],some
 (142,false),none,.bin .neq⟩,I_ 146 [.tv 142,.cv (.bool true),.tv 145] .pick,I_ 147 [.tk 146] .mv,⟨some 148,[.tk 26],some (147,false),none,.mv⟩,⟨some 149,[.sl 10],some (147,false),none,.mv⟩,⟨some 150,[.tv
 148,.tv 149],some (147,false),none,.bin .neq⟩,I_ 151 [.tv 147,.cv (.bool true),.tv 150] .pick]) xrc13_23
noncomputable def xrc13_21:RC :=
 .cond (.sl 131) (.seq (.reg false [I_ 133 [.tv 24] (.ld (.str 4)),I_ 134 [.tk 16] .mv,I_ 135 [.cv (.func 46 [] []),.sl 133,.sl 134] (.call 3),I_ 132 [.tk 135] .mv,I_ 136 [.sl 132] (.ext 0),I_ 137 [.sl 132] (.ext 1),I_ 138
 [.sl 132] (.ext 2),I_ 139 [.tv 132] (.ext 3),I_ 25 [.tk 136] .mv,I_ 26 [.tk 137] .mv,I_ 27 [.tk 138] .mv,I_ 28 [.tk 139] .mv]) xrc13_22) .skip
noncomputable def xrc13_24:RC :=
 .seq (.reg false [I_ 169 [.tk 12] .mv,I_ 170 [.tk 169] .mv,⟨some 171,[.tk 29],some (170,true),none,.mv⟩,⟨some 172,[.tk 9],some (170,true),none,.mv⟩,⟨some 173,[.tv 171,.tv 172],some (170,true),none,.bin .eql⟩,
 I_ 174 [.tv 170,.tv 173,.cv (.bool false)] .pick,I_ 175 [.tk 174] .mv,⟨some 176,[.tk 30],some (175,true),none,.mv⟩,⟨some 177,[.tk 10],some (175,true),none,.mv⟩,⟨some 178,[.tv 176,.tv 177],some (175,true),
 none,.bin .eql⟩,I_ 179 [.tv 175,.tv 178,.cv (.bool false)] .pick,I_ 180 [.tk 179] .mv,⟨some 181,[.cv (.func 17 [] [])],some (180,true),none,.call 3⟩,I_ 182 [.tv 180,.tv 181,.cv (.bool false)] .pick,I_ 8 [.tk 182]
 .mv]) .ret
noncomputable def xrc13_25:RC :=
 .seq (.reg false [I_ 153 [.sl 4] (.fa 0),I_ 154 [.tv 153] (.ld .one),I_ 155 [.sl 4] (.fa 2),I_ 156 [.tv 155] (.ld .one),I_ 157 [.cv (.int .i64 20),.tv 156] (.bin .sub),I_ 158 [.sl 4] (.fa 3),I_ 159 [.tv 158] (.ld .one),I_
 160 [.tv 4] (.fa 1),I_ 161 [.tv 160] (.ld .one),I_ 162 [.cv (.func 49 [] []),.sl 154,.sl 157,.sl 159,.sl 161] (.call 3),I_ 163 [.tk 17] .mv,I_ 164 [.cv (.func 46 [] []),.sl 162,.sl 163] (.call 3),I_ 152 [.tk 164]
 .mv,I_ 165 [.sl 152] (.ext 0),I_ 166 [.sl 152] (.ext 1),I_ 167 [.sl 152] (.ext 2),I_ 168 [.tv 152] (.ext 3),I_ 29 [.tk 165] .mv,I_ 30 [.tk 166] .mv,I_ 31 [.tk 167] .mv,I_ 12 [.tk 168] .mv]) xrc13_24
noncomputable def xrc13_20:RC :=
 .seq (.seq (.reg false [I_ 129 [.sl 24] (.ld (.str 4)),I_ 130 [.sl 16] .mv,I_ 131 [.cv (.func 45 [] []),.sl 129,.sl 130] (.call 3)]) xrc13_21) xrc13_25
noncomputable def xrc13_26:RC :=
 .seq (.reg false [I_ 118 [.sl 4] (.fa 0),I_ 119 [.tv 118] (.ld .one),I_ 120 [.sl 4] (.fa 2),I_ 121 [.tv 120] (.ld .one),I_ 122 [.tk 14] .mv,I_ 123 [.tv 121,.tv 122] (.bin .add),I_ 124 [.sl 4] (.fa 3),I_ 125 [.tv 124] (.ld
 .one),I_ 126 [.sl 4] (.fa 1),I_ 127 [.tv 126] (.ld .one),I_ 128 [.cv (.func 49 [] []),.sl 119,.sl 123,.sl 125,.sl 127] (.call 3),I_ 24 [] (.alloc [.int .i64 0,.lst [] 0 .full,.int .i64 0,.int .i64 0]),⟨none,[.sl
 24,.tk 128],none,none,.st 4⟩]) xrc13_20
noncomputable def xrc13_9:RC :=
 .seq (.seq (.reg false [I_ 93 [.sl 4] (.ld (.str 4)),I_ 94 [.sl 15] .mv,I_ 95 [.cv (.func 45 [] []),.sl 93,.sl 94] (.call 3)]) xrc13_17) xrc13_26
noncomputable def xrc13_8:RC :=
 .seq (.seq (.reg false [I_ 18 [.cv (.int .i64 0)] .mv]) xrc13_10) xrc13_9
noncomputable def xrc13_7:RC :=
 .seq (.reg false [I_ 15 [.cv (.lst [] 0 .full)] (.nil 2),I_ 16 [.cv (.lst [] 0 .full)] (.nil 2),I_ 17 [.cv (.lst [] 0 .full)] (.nil 2)]) xrc13_8
noncomputable def xrc13_5:RC :=
 .seq (.reg false [I_ 47 [.tk 2] .mv,I_ 48 [.tv 47,.cv (.int .u8 4)] (.bin .rem),I_ 49 [.tv 48] (.conv .i64),I_ 50 [.cv (.int .i64 1),.tv 49] (.bin .add),I_ 51 [.tk 3] .mv,I_ 52 [.tv 51,.cv (.int .u8 8)] (.bin .rem),I_ 53
 [.tv 52] (.conv .i64),I_ 13 [.tk 50] .mv,I_ 14 [.tk 53] .mv]) xrc13_7
noncomputable def xrc13_4:RC :=
 .seq (.seq (.reg false [I_ 45 [.tk 12] .mv,I_ 46 [.tv 45] (.un .not)]) xrc13_6) xrc13_5
noncomputable def xrc13_2:RC :=
 .seq (.reg false [I_ 38 [.sl 4] (.ld (.str 4)),I_ 39 [.sl 1] .mv,I_ 40 [.cv (.func 46 [] []),.sl 38,.sl 39] (.call 3),I_ 37 [.tk 40] .mv,I_ 41 [.sl 37] (.ext 0),I_ 42 [.sl 37] (.ext 1),I_ 43 [.sl 37] (.ext 2),I_ 44 [.tv
 37] (.ext 3),I_ 9 [.tk 41] .mv,I_ 10 [.tk 42] .mv,I_ 11 [.tk 43] .mv,I_ 12 [.tk 44] .mv]) xrc13_4
noncomputable def xrc13_1:RC :=
 .seq (.seq (.reg false [I_ 32 [.sl 4] (.ld (.str 4)),I_ 33 [.sl 1] .mv,I_ 34 [.cv (.func 45 [] []),.sl 32,.sl 33] (.call 3),I_ 35 [.tv 34] (.un .not)]) xrc13_3) xrc13_2
noncomputable def xrc13:RC :=
 .seq (.reg false [I_ 4 [.tk 0] .box,I_ 8 [.cv (.bool false)] .mv]) xrc13_1
theorem lxx13:linkF Tryz.prog ann13 13=some (xrc13,183,[.tmp 8]):=by kernel_rfl
def x13_l1 (panels:(List (Int×Int))) (times:Int) (more:Int) (kl1_0:(List (Int×Int))→(List (Int×Int))→(List (Int×Int))→Option Bool):Nat→(List (Int×Int))→(List (Int×Int))→(List (Int×Int))→Int→Option Bool
 | 0,_,_,_,_=>none
 | m+1,s1,s2,s3,s4 =>
   if (decide (s4<(panels.length:Int)))=true then
    gd (0≤s4∧s4<(panels.length:Int)) <|
    gd ((s1.length+1)*16≤140737488355328) <|
    gd ((s2.length+1)*16≤140737488355328) <|
    gd ((s3.length+1)*16≤140737488355328) <|
    x13_l1 panels times more kl1_0 m (s1++[((ix panels s4).1,(w ((w ((1:Int)+(w (times.tmod (4:Int)))))*(ix panels s4).2)))]) (s2++[((w ((ix panels s4).1+(w (more.tmod (8:Int))))),(ix panels s4).2)]) (s3++[((w ((20:Int)-(ix panels s4).1)),(ix panels s4).2)]) (w (s4+(1:Int)))
   else
    kl1_0 s1 s2 s3
def x13_j3 (b:(Int×(List Int)×Int×Int)) (r2:(Int×Int×(List (List Int))×Bool)) (z3:(List (Int×Int)))  : Option Bool :=
 (x49 b.1 (w ((20:Int)-b.2.2.1)) b.2.2.2 b.2.1).bind fun r8 =>
 (x46 r8 z3).bind fun r9 =>
 if r9.2.2.2=true then
  if (decide (r9.1=r2.1))=true then
   if (decide (r9.2.1=r2.2.1))=true then
    (x17).bind fun r10 =>
    some r10
   else
    some false
  else
   some false
 else
  some false
def x13_j2 (b:(Int×(List Int)×Int×Int)) (more:Int) (r2:(Int×Int×(List (List Int))×Bool)) (z2:(List (Int×Int))) (z3:(List (Int×Int)))  : Option Bool :=
 (x49 b.1 (w (b.2.2.1+(w (more.tmod (8:Int))))) b.2.2.2 b.2.1).bind fun r5 =>
 (x45 r5 z2).bind fun r6 =>
 if r6=true then
  (x46 r5 z2).bind fun r7 =>
  if r7.2.2.2=true then
   if (decide (r7.1≠r2.1))=true then
    some false
   else
    if (decide (r7.2.1≠r2.2.1))=true then
     some false
    else
     x13_j3 b r2 z3
  else
   some false
 else
  x13_j3 b r2 z3
def x13 (b:(Int×(List Int)×Int×Int)) (panels:(List (Int×Int))) (times:Int) (more:Int):Option Bool :=
 (x45 b panels).bind fun r1 =>
 if r1=true then
  (x46 b panels).bind fun r2 =>
  if r2.2.2.2=true then
   gd ((4:Int)≠0) <|
   gd ((8:Int)≠0) <|
   x13_l1 panels times more (fun z1 z2 z3 =>
     (x45 b z1).bind fun r3 =>
     if r3=true then
      (x46 b z1).bind fun r4 =>
      if r4.2.2.2=true then
       if (decide (r4.1≠(w ((w ((1:Int)+(w (times.tmod (4:Int)))))*r2.1))))=true then
        some false
       else
        if (decide (r4.2.1≠r2.2.1))=true then
         some false
        else
         x13_j2 b more r2 z2 z3
      else
       some false
     else
      x13_j2 b more r2 z2 z3) FU ([]:List (Int×Int)) ([]:List (Int×Int)) ([]:List (Int×Int)) (0:Int)
  else
   some false
 else
  (x17).bind fun r11 =>
  some r11
theorem x13_l1_ok {panels:(List (Int×Int))} {times:Int} {more:Int} {kl1_0:(List (Int×Int))→(List (Int×Int))→(List (Int×Int))→Option Bool} {s1:(List (Int×Int))} {s2:(List (Int×Int))} {s3:(List (Int×Int))} {s4:Int} {b:(Int×(List Int)×Int×Int)} {r2:(Int×Int×(List (List Int))×Bool)} {v:Bool} {Q:Ex→List AV→List AObj→Prop}   (hkl1_0:∀ (z1:(List (Int×Int))) (z2:(List (Int×Int))) (z3:(List (Int×Int))) (u0:AV) (u1:AV) (u2:AV) (u3:AV) (u7:AV) (u8:AV) (u11:AV) (u12:AV) (u18:AV) (u19:AV) (u20:AV) (u21:AV) (u22:AV) (u23:AV) (u24:AV) (u25:AV) (u26:AV) (u27:AV) (u28:AV) (u29:AV) (u30:AV) (u31:AV) (u32:AV) (u33:AV) (u34:AV) (u35:AV) (u36:AV) (u37:AV) (u38:AV) (u39:AV) (u40:AV) (u41:AV) (u42:AV) (u43:AV) (u44:AV) (u45:AV) (u46:AV) (u47:AV) (u48:AV) (u49:AV) (u50:AV) (u51:AV) (u52:AV) (u53:AV) (u54:AV) (u55:AV) (u56:AV) (u57:AV) (u58:AV) (u59:AV) (u60:AV) (u61:AV) (u62:AV) (u63:AV) (u64:AV) (u65:AV) (u66:AV) (u67:AV) (u68:AV) (u69:AV) (u70:AV) (u71:AV) (u72:AV) (u73:AV) (u74:AV) (u75:AV) (u76:AV) (u77:AV) (u78:AV) (u79:AV) (u80:AV) (u81:AV) (u82:AV) (u83:AV) (u84:AV) (u85:AV) (u86:AV) (u87:AV) (u88:AV) (u89:AV) (u90:AV) (u91:AV) (u92:AV) (u93:AV) (u94:AV) (u95:AV) (u96:AV) (u97:AV) (u98:AV) (u99:AV) (u100:AV) (u101:AV) (u102:AV) (u103:AV) (u104:AV) (u105:AV) (u106:AV) (u107:AV) (u108:AV) (u109:AV) (u110:AV) (u111:AV) (u112:AV) (u113:AV) (u114:AV) (u115:AV) (u116:AV) (u117:AV) (u118:AV) (u119:AV) (u120:AV) (u121:AV) (u122:AV) (u123:AV) (u124:AV) (u125:AV) (u126:AV) (u127:AV) (u128:AV) (u129:AV) (u130:AV) (u131:AV) (u132:AV) (u133:AV) (u134:AV) (u135:AV) (u136:AV) (u137:AV) (u138:AV) (u139:AV) (u140:AV) (u141:AV) (u142:AV) (u143:AV) (u144:AV) (u145:AV) (u146:AV) (u147:AV) (u148:AV) (u149:AV) (u150:AV) (u151:AV) (u152:AV) (u153:AV) (u154:AV) (u155:AV) (u156:AV) (u157:AV) (u158:AV) (u159:AV) (u160:AV) (u161:AV) (u162:AV) (u163:AV) (u164:AV) (u165:AV) (u166:AV) (u167:AV) (u168:AV) (u169:AV) (u170:AV) (u171:AV) (u172:AV) (u173:AV) (u174:AV) (u175:AV) (u176:AV) (u177:AV) (u178:AV) (u179:AV) (u180:AV) (u181:AV) (u182:AV) (Yq:List AObj),kl1_0 z1 z2 z3=some v→Q (.exit 0) [u0,u1,u2,u3,(.ptr 0 0),J,J,u7,u8,(I r2.1),(I r2.2.1),u11,u12,(I (w ((1:Int)+(w (times.tmod (4:Int)))))),(I (w (more.tmod (8:Int)))),(.lst (z1.flatMap pr) z1.length (.uniq 2)),(.lst (z2.flatMap pr) z2.length (.uniq 2)),(.lst (z3.flatMap pr) z3.length (.uniq 2)),u18,u19,u20,u21,u22,u23,u24,u25,u26,u27,u28,u29,u30,u31,u32,u33,u34,u35,u36,u37,u38,u39,u40,u41,u42,u43,u44,u45,u46,u47,u48,u49,u50,u51,u52,u53,u54,u55,u56,u57,u58,u59,u60,u61,u62,u63,u64,u65,u66,u67,u68,u69,u70,u71,u72,u73,u74,u75,u76,u77,u78,u79,u80,u81,u82,u83,u84,u85,u86,u87,u88,u89,u90,u91,u92,u93,u94,u95,u96,u97,u98,u99,u100,u101,u102,u103,u104,u105,u106,u107,u108,u109,u110,u111,u112,u113,u114,u115,u116,u117,u118,u119,u120,u121,u122,u123,u124,u125,u126,u127,u128,u129,u130,u131,u132,u133,u134,u135,u136,u137,u138,u139,u140,u141,u142,u143,u144,u145,u146,u147,u148,u149,u150,u151,u152,u153,u154,u155,u156,u157,u158,u159,u160,u161,u162,u163,u164,u165,u166,u167,u168,u169,u170,u171,u172,u173,u174,u175,u176,u177,u178,u179,u180,u181,u182] (AObj.cells [(I b.1),(.lst (b.2.1.map I) b.2.1.length .shared),(I b.2.2.1),(I b.2.2.2)]::Yq)) {T:List AV} (hT:zipKeep [o_,i_,o_,o_,i_,o_,o_,o_,o_,i_,i_,o_,o_,i_,i_,i_,i_,i_,i_,o_,o_,o_,o_,o_,o_,o_,o_,o_,o_,o_,o_,o_,o_,o_,o_,o_,o_,o_,o_,o_,o_,o_,o_,o_,o_,o_,o_,o_,o_,o_,o_,o_,o_,o_,o_,o_,o_,o_,o_,o_,o_,o_,o_,o_,o_,o_,o_,o_,o_,o_,o_,o_,o_,o_,o_,o_,o_,o_,o_,o_,o_,o_,o_,o_,o_,o_,o_,o_,o_,o_,o_,o_,o_,o_,o_,o_,o_,o_,o_,o_,o_,o_,o_,o_,o_,o_,o_,o_,o_,o_,o_,o_,o_,o_,o_,o_,o_,o_,o_,o_,o_,o_,o_,o_,o_,o_,o_,o_,o_,o_,o_,o_,o_,o_,o_,o_,o_,o_,o_,o_,o_,o_,o_,o_,o_,o_,o_,o_,o_,o_,o_,o_,o_,o_,o_,o_,o_,o_,o_,o_,o_,o_,o_,o_,o_,o_,o_,o_,o_,o_,o_,o_,o_,o_,o_,o_,o_,o_,o_,o_,o_,o_,o_] T=slots 183 [(1,(.lst (panels.flatMap pr) panels.length .shared)),(4,(.ptr 0 0)),(9,(I r2.1)),(10,(I r2.2.1)),(13,(I (w ((1:Int)+(w (times.tmod (4:Int))))))),(14,(I (w (more.tmod (8:Int))))),(15,(.lst (s1.flatMap pr) s1.length (.uniq 2))),(16,(.lst (s2.flatMap pr) s2.length (.uniq 2))),(17,(.lst (s3.flatMap pr) s3.length (.uniq 2))),(18,(I s4))]) (h:x13_l1 panels times more kl1_0 FU s1 s2 s3 s4=some v) :
  wpR Tryz.prog ann13 13 0 none xrc13_16 T [AObj.cells [(I b.1),(.lst (b.2.1.map I) b.2.1.length .shared),(I b.2.2.1),(I b.2.2.2)]] Q:=by
 unfold xrc13_16
 obtain ⟨c_11,g_11⟩:∃ c,xrc13_11=c:=⟨_,rfl⟩
 rw [g_11]
 refine wp_loop hT ?_
 refine .intro (fun m T H=>∃ (s1:(List (Int×Int))) (s2:(List (Int×Int))) (s3:(List (Int×Int))) (s4:Int) (Y13_1:List AObj),T=slots 183 [(1,(.lst (panels.flatMap pr) panels.length .shared)),(4,(.ptr 0 0)),(9,(I r2.1)),(10,(I r2.2.1)),(13,(I (w ((1:Int)+(w (times.tmod (4:Int))))))),(14,(I (w (more.tmod (8:Int))))),(15,(.lst (s1.flatMap pr) s1.length (.uniq 2))),(16,(.lst (s2.flatMap pr) s2.length (.uniq 2))),(17,(.lst (s3.flatMap pr) s3.length (.uniq 2))),(18,(I s4))]∧H=(AObj.cells [(I b.1),(.lst (b.2.1.map I) b.2.1.length .shared),(I b.2.2.1),(I b.2.2.2)]::Y13_1)∧x13_l1 panels times more kl1_0 m s1 s2 s3 s4=some v) FU ⟨s1,s2,s3,s4,[],rfl,rfl,h⟩ ?_
 clear h hT
 rintro m T H ⟨s1,s2,s3,s4,Y13_1,rfl,rfl,h⟩
 cases m
 ·exact none_ne h
 rename_i m
 rw [x13_l1.eq_2] at h
 conv=>whnf
 rcases bt (decide (s4<(panels.length:Int))) with hb6 | hb6
 ·rw [hb6]
  conv=>whnf
  replace h:=it_t hb6 h
  subst g_11
  unfold xrc13_11
  obtain ⟨c_12,g_12⟩:∃ c,xrc13_12=c:=⟨_,rfl⟩
  rw [g_12]
  obtain ⟨c_13,g_13⟩:∃ c,xrc13_13=c:=⟨_,rfl⟩
  rw [g_13]
  conv=>whnf
  obtain ⟨hb7,h⟩:=gd_some h
  refine ⟨hb7,?_⟩
  rw [dropS pr 2 pr_len panels s4 hb7]
  conv=>whnf
  refine nthK_of (x:=AObj.cells [(I (0:Int)),(I (0:Int))]) (by first | with_reducible exact get_concat _ _ | exact get_concat _ _ | exact ga (get_concat _ _) | rfl | (simp [List.getElem?_append,AV.settle];done)) ?_
  conv=>whnf
  rw [set_concat]
  subst g_13
  unfold xrc13_13
  obtain ⟨c_14,g_14⟩:∃ c,xrc13_14=c:=⟨_,rfl⟩
  rw [g_14]
  conv=>whnf
  refine nthK_of (x:=AObj.cells [(I (ix panels s4).1),(I (ix panels s4).2)]) (by first | with_reducible exact get_concat _ _ | exact get_concat _ _ | exact ga (get_concat _ _) | rfl | (simp [List.getElem?_append,AV.settle];done)) ?_
  conv=>whnf
  refine nthK_of (x:=AObj.cells [(I (ix panels s4).1),(I (ix panels s4).2)]) (by first | with_reducible exact get_concat _ _ | exact get_concat _ _ | exact ga (get_concat _ _) | rfl | (simp [List.getElem?_append,AV.settle];done)) ?_
  conv=>whnf
  obtain ⟨hb8,h⟩:=gd_some h
  refine ⟨by first | rfl | (simp;done) | exact flatLen pr _ pr_len _,by have:=hb8;omega,rfl,hb8,?_⟩
  erw [apndS pr s1 ((ix panels s4).1,(w ((w ((1:Int)+(w (times.tmod (4:Int)))))*(ix panels s4).2)))]
  conv=>whnf
  subst g_14
  unfold xrc13_14
  obtain ⟨c_15,g_15⟩:∃ c,xrc13_15=c:=⟨_,rfl⟩
  rw [g_15]
  conv=>whnf
  refine nthK_of (x:=AObj.cells [(I (ix panels s4).1),(I (ix panels s4).2)]) (by first | with_reducible exact get_concat _ _ | exact get_concat _ _ | exact ga (get_concat _ _) | rfl | (simp [List.getElem?_append,AV.settle];done)) ?_
  conv=>whnf
  refine nthK_of (x:=AObj.cells [(I (ix panels s4).1),(I (ix panels s4).2)]) (by first | with_reducible exact get_concat _ _ | exact get_concat _ _ | exact ga (get_concat _ _) | rfl | (simp [List.getElem?_append,AV.settle];done)) ?_
  conv=>whnf
  obtain ⟨hb9,h⟩:=gd_some h
  refine ⟨by first | rfl | (simp;done) | exact flatLen pr _ pr_len _,by have:=hb9;omega,rfl,hb9,?_⟩
  erw [apndS pr s2 ((w ((ix panels s4).1+(w (more.tmod (8:Int))))),(ix panels s4).2)]
  conv=>whnf
  subst g_15
  unfold xrc13_15
  skip
  conv=>whnf
  refine nthK_of (x:=AObj.cells [(I (ix panels s4).1),(I (ix panels s4).2)]) (by first | with_reducible exact get_concat _ _ | exact get_concat _ _ | exact ga (get_concat _ _) | rfl | (simp [List.getElem?_append,AV.settle];done)) ?_
  conv=>whnf
  refine nthK_of (x:=AObj.cells [(I (ix panels s4).1),(I (ix panels s4).2)]) (by first | with_reducible exact get_concat _ _ | exact get_concat _ _ | exact ga (get_concat _ _) | rfl | (simp [List.getElem?_append,AV.settle];done)) ?_
  conv=>whnf
  obtain ⟨hb10,h⟩:=gd_some h
  refine ⟨by first | rfl | (simp;done) | exact flatLen pr _ pr_len _,by have:=hb10;omega,rfl,hb10,?_⟩
  erw [apndS pr s3 ((w ((20:Int)-(ix panels s4).1)),(ix panels s4).2)]
  conv=>whnf
  subst g_12
  unfold xrc13_12
  skip
  conv=>whnf
  exact ⟨m,Nat.lt_succ_self m,(s1++[((ix panels s4).1,(w ((w ((1:Int)+(w (times.tmod (4:Int)))))*(ix panels s4).2)))]),(s2++[((w ((ix panels s4).1+(w (more.tmod (8:Int))))),(ix panels s4).2)]),(s3++[((w ((20:Int)-(ix panels s4).1)),(ix panels s4).2)]),(w (s4+(1:Int))),_,rfl,rfl,h⟩
 ·rw [hb6]
  conv=>whnf
  replace h:=it_f hb6 h
  exact hkl1_0 _ _ _ _ _ _ _ _ _ _ _ _ _ _ _ _ _ _ _ _ _ _ _ _ _ _ _ _ _ _ _ _ _ _ _ _ _ _ _ _ _ _ _ _ _ _ _ _ _ _ _ _ _ _ _ _ _ _ _ _ _ _ _ _ _ _ _ _ _ _ _ _ _ _ _ _ _ _ _ _ _ _ _ _ _ _ _ _ _ _ _ _ _ _ _ _ _ _ _ _ _ _ _ _ _ _ _ _ _ _ _ _ _ _ _ _ _ _ _ _ _ _ _ _ _ _ _ _ _ _ _ _ _ _ _ _ _ _ _ _ _ _ _ _ _ _ _ _ _ _ _ _ _ _ _ _ _ _ _ _ _ _ _ _ _ _ _ _ _ _ _ _ _ _ _ _ _ h
theorem x13_j3_ok {b:(Int×(List Int)×Int×Int)} {r2:(Int×Int×(List (List Int))×Bool)} {z3:(List (Int×Int))} {v:Bool} {Q:Ex→List AV→List AObj→Prop} {u0:AV} {u1:AV} {u2:AV} {u3:AV} {u7:AV} {u8:AV} {u11:AV} {u12:AV} {u13:AV} {u14:AV} {u15:AV} {u16:AV} {u18:AV} {u19:AV} {u20:AV} {u21:AV} {u22:AV} {u23:AV} {u24:AV} {u25:AV} {u26:AV} {u27:AV} {u28:AV} {u29:AV} {u30:AV} {u31:AV} {u32:AV} {u33:AV} {u34:AV} {u35:AV} {u36:AV} {u37:AV} {u38:AV} {u39:AV} {u40:AV} {u41:AV} {u42:AV} {u43:AV} {u44:AV} {u45:AV} {u46:AV} {u47:AV} {u48:AV} {u49:AV} {u50:AV} {u51:AV} {u52:AV} {u53:AV} {u54:AV} {u55:AV} {u56:AV} {u57:AV} {u58:AV} {u59:AV} {u60:AV} {u61:AV} {u62:AV} {u63:AV} {u64:AV} {u65:AV} {u66:AV} {u67:AV} {u68:AV} {u69:AV} {u70:AV} {u71:AV} {u72:AV} {u73:AV} {u74:AV} {u75:AV} {u76:AV} {u77:AV} {u78:AV} {u79:AV} {u80:AV} {u81:AV} {u82:AV} {u83:AV} {u84:AV} {u85:AV} {u86:AV} {u87:AV} {u88:AV} {u89:AV} {u90:AV} {u91:AV} {u92:AV} {u93:AV} {u94:AV} {u95:AV} {u96:AV} {u97:AV} {u98:AV} {u99:AV} {u100:AV} {u101:AV} {u102:AV} {u103:AV} {u104:AV} {u105:AV} {u106:AV} {u107:AV} {u108:AV} {u109:AV} {u110:AV} {u111:AV} {u112:AV} {u113:AV} {u114:AV} {u115:AV} {u116:AV} {u117:AV} {u118:AV} {u119:AV} {u120:AV} {u121:AV} {u122:AV} {u123:AV} {u124:AV} {u125:AV} {u126:AV} {u127:AV} {u128:AV} {u129:AV} {u130:AV} {u131:AV} {u132:AV} {u133:AV} {u134:AV} {u135:AV} {u136:AV} {u137:AV} {u138:AV} {u139:AV} {u140:AV} {u141:AV} {u142:AV} {u143:AV} {u144:AV} {u145:AV} {u146:AV} {u147:AV} {u148:AV} {u149:AV} {u150:AV} {u151:AV} {u152:AV} {u153:AV} {u154:AV} {u155:AV} {u156:AV} {u157:AV} {u158:AV} {u159:AV} {u160:AV} {u161:AV} {u162:AV} {u163:AV} {u164:AV} {u165:AV} {u166:AV} {u167:AV} {u168:AV} {u169:AV} {u170:AV} {u171:AV} {u172:AV} {u173:AV} {u174:AV} {u175:AV} {u176:AV} {u177:AV} {u178:AV} {u179:AV} {u180:AV} {u181:AV} {u182:AV} {Yq:List AObj} {o3:AObj}  (hR:∀ T H,RetW [.tmp 8] (B v) .ret T H→Q .ret T H) (h:x13_j3 b r2 z3  = some v) :
  wpR Tryz.prog ann13 13 0 none xrc13_25 [u0,u1,u2,u3,(.ptr 0 0),J,J,u7,u8,(I r2.1),(I r2.2.1),u11,u12,u13,u14,u15,u16,(.lst (z3.flatMap pr) z3.length (.uniq 2)),u18,u19,u20,u21,u22,u23,u24,u25,u26,u27,u28,u29,u30,u31,u32,u33,u34,u35,u36,u37,u38,u39,u40,u41,u42,u43,u44,u45,u46,u47,u48,u49,u50,u51,u52,u53,u54,u55,u56,u57,u58,u59,u60,u61,u62,u63,u64,u65,u66,u67,u68,u69,u70,u71,u72,u73,u74,u75,u76,u77,u78,u79,u80,u81,u82,u83,u84,u85,u86,u87,u88,u89,u90,u91,u92,u93,u94,u95,u96,u97,u98,u99,u100,u101,u102,u103,u104,u105,u106,u107,u108,u109,u110,u111,u112,u113,u114,u115,u116,u117,u118,u119,u120,u121,u122,u123,u124,u125,u126,u127,u128,u129,u130,u131,u132,u133,u134,u135,u136,u137,u138,u139,u140,u141,u142,u143,u144,u145,u146,u147,u148,u149,u150,u151,u152,u153,u154,u155,u156,u157,u158,u159,u160,u161,u162,u163,u164,u165,u166,u167,u168,u169,u170,u171,u172,u173,u174,u175,u176,u177,u178,u179,u180,u181,u182] ((AObj.cells [(I b.1),(.lst (b.2.1.map I) b.2.1.length .shared),(I b.2.2.1),(I b.2.2.2)]::Yq)++[o3]) Q:=by
 unfold x13_j3 at h
 unfold xrc13_25
 obtain ⟨c_24,g_24⟩:∃ c,xrc13_24=c:=⟨_,rfl⟩
 rw [g_24]
 conv=>whnf
 obtain ⟨r8,hb22,h⟩:=bd_some h
 refine ⟨(allc rfl (allc rfl (allc rfl (allc (pu_map (fun _=>rfl) _ _ _) rfl)))),_,x49_ok hb22,?_⟩
 conv=>whnf
 obtain ⟨r9,hb23,h⟩:=bd_some h
 refine ⟨(allc (pu_agg (allc rfl (allc (pu_map (fun _=>rfl) _ _ _) (allc rfl (allc rfl rfl))))) (allc (pu_flat (fun _=>(allc rfl (allc rfl rfl))) _ _ _) rfl)),_,x46_ok hb23,?_⟩
 conv=>whnf
 subst g_24
 unfold xrc13_24
 skip
 conv=>whnf
 rcases bt r9.2.2.2 with hb24 | hb24
 ·rw [hb24]
  conv=>whnf
  replace h:=it_t hb24 h
  rcases bt (decide (r9.1=r2.1)) with hb25 | hb25
  ·rw [hb25]
   conv=>whnf
   replace h:=it_t hb25 h
   rcases bt (decide (r9.2.1=r2.2.1)) with hb26 | hb26
   ·rw [hb26]
    conv=>whnf
    replace h:=it_t hb26 h
    obtain ⟨r10,hb27,h⟩:=bd_some h
    refine ⟨rfl,_,x17_ok hb27,?_⟩
    conv=>whnf
    obtain rfl:=Option.some.inj h
    exact hR _ _ ⟨.inr rfl,_,rfl,_,frz_pure rfl,rfl⟩
   ·rw [hb26]
    conv=>whnf
    replace h:=it_f hb26 h
    obtain rfl:=Option.some.inj h
    exact hR _ _ ⟨.inr rfl,_,rfl,_,frz_pure rfl,rfl⟩
  ·rw [hb25]
   conv=>whnf
   replace h:=it_f hb25 h
   obtain rfl:=Option.some.inj h
   exact hR _ _ ⟨.inr rfl,_,rfl,_,frz_pure rfl,rfl⟩
 ·rw [hb24]
  conv=>whnf
  replace h:=it_f hb24 h
  obtain rfl:=Option.some.inj h
  exact hR _ _ ⟨.inr rfl,_,rfl,_,frz_pure rfl,rfl⟩
theorem x13_j2_ok {b:(Int×(List Int)×Int×Int)} {more:Int} {r2:(Int×Int×(List (List Int))×Bool)} {z2:(List (Int×Int))} {z3:(List (Int×Int))} {v:Bool} {Q:Ex→List AV→List AObj→Prop} {u0:AV} {u1:AV} {u2:AV} {u3:AV} {u7:AV} {u8:AV} {u11:AV} {u12:AV} {u13:AV} {u15:AV} {u18:AV} {u19:AV} {u20:AV} {u21:AV} {u22:AV} {u23:AV} {u24:AV} {u25:AV} {u26:AV} {u27:AV} {u28:AV} {u29:AV} {u30:AV} {u31:AV} {u32:AV} {u33:AV} {u34:AV} {u35:AV} {u36:AV} {u37:AV} {u38:AV} {u39:AV} {u40:AV} {u41:AV} {u42:AV} {u43:AV} {u44:AV} {u45:AV} {u46:AV} {u47:AV} {u48:AV} {u49:AV} {u50:AV} {u51:AV} {u52:AV} {u53:AV} {u54:AV} {u55:AV} {u56:AV} {u57:AV} {u58:AV} {u59:AV} {u60:AV} {u61:AV} {u62:AV} {u63:AV} {u64:AV} {u65:AV} {u66:AV} {u67:AV} {u68:AV} {u69:AV} {u70:AV} {u71:AV} {u72:AV} {u73:AV} {u74:AV} {u75:AV} {u76:AV} {u77:AV} {u78:AV} {u79:AV} {u80:AV} {u81:AV} {u82:AV} {u83:AV} {u84:AV} {u85:AV} {u86:AV} {u87:AV} {u88:AV} {u89:AV} {u90:AV} {u91:AV} {u92:AV} {u93:AV} {u94:AV} {u95:AV} {u96:AV} {u97:AV} {u98:AV} {u99:AV} {u100:AV} {u101:AV} {u102:AV} {u103:AV} {u104:AV} {u105:AV} {u106:AV} {u107:AV} {u108:AV} {u109:AV} {u110:AV} {u111:AV} {u112:AV} {u113:AV} {u114:AV} {u115:AV} {u116:AV} {u117:AV} {u118:AV} {u119:AV} {u120:AV} {u121:AV} {u122:AV} {u123:AV} {u124:AV} {u125:AV} {u126:AV} {u127:AV} {u128:AV} {u129:AV} {u130:AV} {u131:AV} {u132:AV} {u133:AV} {u134:AV} {u135:AV} {u136:AV} {u137:AV} {u138:AV} {u139:AV} {u140:AV} {u141:AV} {u142:AV} {u143:AV} {u144:AV} {u145:AV} {u146:AV} {u147:AV} {u148:AV} {u149:AV} {u150:AV} {u151:AV} {u152:AV} {u153:AV} {u154:AV} {u155:AV} {u156:AV} {u157:AV} {u158:AV} {u159:AV} {u160:AV} {u161:AV} {u162:AV} {u163:AV} {u164:AV} {u165:AV} {u166:AV} {u167:AV} {u168:AV} {u169:AV} {u170:AV} {u171:AV} {u172:AV} {u173:AV} {u174:AV} {u175:AV} {u176:AV} {u177:AV} {u178:AV} {u179:AV} {u180:AV} {u181:AV} {u182:AV} {Yq:List AObj}  (hR:∀ T H,RetW [.tmp 8] (B v) .ret T H→Q .ret T H) (h:x13_j2 b more r2 z2 z3  = some v) :
  wpR Tryz.prog ann13 13 0 none xrc13_26 [u0,u1,u2,u3,(.ptr 0 0),J,J,u7,u8,(I r2.1),(I r2.2.1),u11,u12,u13,(I (w (more.tmod (8:Int)))),u15,(.lst (z2.flatMap pr) z2.length (.uniq 2)),(.lst (z3.flatMap pr) z3.length (.uniq 2)),u18,u19,u20,u21,u22,u23,u24,u25,u26,u27,u28,u29,u30,u31,u32,u33,u34,u35,u36,u37,u38,u39,u40,u41,u42,u43,u44,u45,u46,u47,u48,u49,u50,u51,u52,u53,u54,u55,u56,u57,u58,u59,u60,u61,u62,u63,u64,u65,u66,u67,u68,u69,u70,u71,u72,u73,u74,u75,u76,u77,u78,u79,u80,u81,u82,u83,u84,u85,u86,u87,u88,u89,u90,u91,u92,u93,u94,u95,u96,u97,u98,u99,u100,u101,u102,u103,u104,u105,u106,u107,u108,u109,u110,u111,u112,u113,u114,u115,u116,u117,u118,u119,u120,u121,u122,u123,u124,u125,u126,u127,u128,u129,u130,u131,u132,u133,u134,u135,u136,u137,u138,u139,u140,u141,u142,u143,u144,u145,u146,u147,u148,u149,u150,u151,u152,u153,u154,u155,u156,u157,u158,u159,u160,u161,u162,u163,u164,u165,u166,u167,u168,u169,u170,u171,u172,u173,u174,u175,u176,u177,u178,u179,u180,u181,u182] (AObj.cells [(I b.1),(.lst (b.2.1.map I) b.2.1.length .shared),(I b.2.2.1),(I b.2.2.2)]::Yq) Q:=by
 unfold x13_j2 at h
 unfold xrc13_26
 obtain ⟨c_20,g_20⟩:∃ c,xrc13_20=c:=⟨_,rfl⟩
 rw [g_20]
 conv=>whnf
 obtain ⟨r5,hb16,h⟩:=bd_some h
 refine ⟨(allc rfl (allc rfl (allc rfl (allc (pu_map (fun _=>rfl) _ _ _) rfl)))),_,x49_ok hb16,?_⟩
 conv=>whnf
 refine nthK_of (x:=AObj.cells [(I (0:Int)),(.lst [] 0 .full),(I (0:Int)),(I (0:Int))]) (by first | with_reducible exact get_concat _ _ | exact get_concat _ _ | exact ga (get_concat _ _) | rfl | (simp [List.getElem?_append,AV.settle];done)) ?_
 conv=>whnf
 rw [set_concat]
 subst g_20
 unfold xrc13_20
 obtain ⟨c_21,g_21⟩:∃ c,xrc13_21=c:=⟨_,rfl⟩
 rw [g_21]
 obtain ⟨c_25,g_25⟩:∃ c,xrc13_25=c:=⟨_,rfl⟩
 rw [g_25]
 conv=>whnf
 refine nthK_of (x:=AObj.cells [(I r5.1),(.lst (r5.2.1.map I) r5.2.1.length .shared),(I r5.2.2.1),(I r5.2.2.2)]) (by first | with_reducible exact get_concat _ _ | exact get_concat _ _ | exact ga (get_concat _ _) | rfl | (simp [List.getElem?_append,AV.settle];done)) ?_
 conv=>whnf
 obtain ⟨r6,hb17,h⟩:=bd_some h
 refine ⟨(allc (pu_agg (allc rfl (allc (pu_map (fun _=>rfl) _ _ _) (allc rfl (allc rfl rfl))))) (allc (pu_flat (fun _=>(allc rfl (allc rfl rfl))) _ _ _) rfl)),_,x45_ok hb17,?_⟩
 conv=>whnf
 subst g_21
 unfold xrc13_21
 obtain ⟨c_22,g_22⟩:∃ c,xrc13_22=c:=⟨_,rfl⟩
 rw [g_22]
 conv=>whnf
 cases r6
 ·conv=>whnf
  replace h:=it_f rfl h
  subst g_25
  refine x13_j3_ok ?_ h
  exact fun T H hh=>hR T H hh
 ·conv=>whnf
  replace h:=it_t rfl h
  refine nthK_of (x:=AObj.cells [(I r5.1),(.lst (r5.2.1.map I) r5.2.1.length .shared),(I r5.2.2.1),(I r5.2.2.2)]) (by first | with_reducible exact get_concat _ _ | exact get_concat _ _ | exact ga (get_concat _ _) | rfl | (simp [List.getElem?_append,AV.settle];done)) ?_
  conv=>whnf
  obtain ⟨r7,hb18,h⟩:=bd_some h
  refine ⟨(allc (pu_agg (allc rfl (allc (pu_map (fun _=>rfl) _ _ _) (allc rfl (allc rfl rfl))))) (allc (pu_flat (fun _=>(allc rfl (allc rfl rfl))) _ _ _) rfl)),_,x46_ok hb18,?_⟩
  conv=>whnf
  subst g_22
  unfold xrc13_22
  obtain ⟨c_23,g_23⟩:∃ c,xrc13_23=c:=⟨_,rfl⟩
  rw [g_23]
  conv=>whnf
  rcases bt r7.2.2.2 with hb19 | hb19
  ·rw [hb19]
   conv=>whnf
   replace h:=it_t hb19 h
   rcases bt (decide (r7.1≠r2.1)) with hb20 | hb20
   ·rw [hb20]
    conv=>whnf
    replace h:=it_t hb20 h
    subst g_23
    unfold xrc13_23
    skip
    conv=>whnf
    obtain rfl:=Option.some.inj h
    exact hR _ _ ⟨.inr rfl,_,rfl,_,frz_pure rfl,rfl⟩
   ·rw [hb20]
    conv=>whnf
    replace h:=it_f hb20 h
    subst g_23
    unfold xrc13_23
    skip
    conv=>whnf
    rcases bt (decide (r7.2.1≠r2.2.1)) with hb21 | hb21
    ·rw [hb21]
     conv=>whnf
     replace h:=it_t hb21 h
     obtain rfl:=Option.some.inj h
     exact hR _ _ ⟨.inr rfl,_,rfl,_,frz_pure rfl,rfl⟩
    ·rw [hb21]
     conv=>whnf
     replace h:=it_f hb21 h
     subst g_25
     refine x13_j3_ok ?_ h
     exact fun T H hh=>hR T H hh
  ·rw [hb19]
   conv=>whnf
   replace h:=it_f hb19 h
   subst g_23
   unfold xrc13_23
   skip
   conv=>whnf
   obtain rfl:=Option.some.inj h
   exact hR _ _ ⟨.inr rfl,_,rfl,_,frz_pure rfl,rfl⟩
theorem x13_ok {b:(Int×(List Int)×Int×Int)} {panels:(List (Int×Int))} {times:Int} {more:Int} {v:Bool} (h:x13 b panels times more=some v):PO 13 [(.agg [(I b.1),(.lst (b.2.1.map I) b.2.1.length .shared),(I b.2.2.1),(I b.2.2.2)]),(.lst (panels.flatMap pr) panels.length .shared),(U8 times),(U8 more)] (B v):=by
 refine fn_pureW hmix lxx13 rfl rfl fun Q hQ=>?_
 have hR:∀ T H,RetW [.tmp 8] (B v) .ret T H→Q .ret T H:=fun T H hh=>hQ _ T H hh
 unfold x13 at h
 unfold xrc13
 obtain ⟨c_1,g_1⟩:∃ c,xrc13_1=c:=⟨_,rfl⟩
 rw [g_1]
 conv=>whnf
 subst g_1
 unfold xrc13_1
 obtain ⟨c_2,g_2⟩:∃ c,xrc13_2=c:=⟨_,rfl⟩
 rw [g_2]
 obtain ⟨c_3,g_3⟩:∃ c,xrc13_3=c:=⟨_,rfl⟩
 rw [g_3]
 conv=>whnf
 obtain ⟨r1,hb1,h⟩:=bd_some h
 refine ⟨(allc (pu_agg (allc rfl (allc (pu_map (fun _=>rfl) _ _ _) (allc rfl (allc rfl rfl))))) (allc (pu_flat (fun _=>(allc rfl (allc rfl rfl))) _ _ _) rfl)),_,x45_ok hb1,?_⟩
 conv=>whnf
 subst g_3
 unfold xrc13_3
 skip
 conv=>whnf
 cases r1
 ·conv=>whnf
  replace h:=it_f rfl h
  obtain ⟨r11,hb28,h⟩:=bd_some h
  refine ⟨rfl,_,x17_ok hb28,?_⟩
  conv=>whnf
  obtain rfl:=Option.some.inj h
  exact hR _ _ ⟨.inr rfl,_,rfl,_,frz_pure rfl,rfl⟩
 ·conv=>whnf
  replace h:=it_t rfl h
  subst g_2
  unfold xrc13_2
  obtain ⟨c_4,g_4⟩:∃ c,xrc13_4=c:=⟨_,rfl⟩
  rw [g_4]
  conv=>whnf
  obtain ⟨r2,hb2,h⟩:=bd_some h
  refine ⟨(allc (pu_agg (allc rfl (allc (pu_map (fun _=>rfl) _ _ _) (allc rfl (allc rfl rfl))))) (allc (pu_flat (fun _=>(allc rfl (allc rfl rfl))) _ _ _) rfl)),_,x46_ok hb2,?_⟩
  conv=>whnf
  subst g_4
  unfold xrc13_4
  obtain ⟨c_5,g_5⟩:∃ c,xrc13_5=c:=⟨_,rfl⟩
  rw [g_5]
  obtain ⟨c_6,g_6⟩:∃ c,xrc13_6=c:=⟨_,rfl⟩
  rw [g_6]
  conv=>whnf
  subst g_6
  unfold xrc13_6
  skip
  conv=>whnf
  rcases bt r2.2.2.2 with hb3 | hb3
  ·rw [hb3]
   conv=>whnf
   replace h:=it_t hb3 h
   subst g_5
   unfold xrc13_5
   obtain ⟨c_7,g_7⟩:∃ c,xrc13_7=c:=⟨_,rfl⟩
   rw [g_7]
   conv=>whnf
   obtain ⟨hb4,h⟩:=gd_some h
   refine ⟨hb4,?_⟩
   conv=>whnf
   obtain ⟨hb5,h⟩:=gd_some h
   refine ⟨hb5,?_⟩
   conv=>whnf
   subst g_7
   unfold xrc13_7
   obtain ⟨c_8,g_8⟩:∃ c,xrc13_8=c:=⟨_,rfl⟩
   rw [g_8]
   conv=>whnf
   subst g_8
   unfold xrc13_8
   obtain ⟨c_9,g_9⟩:∃ c,xrc13_9=c:=⟨_,rfl⟩
   rw [g_9]
   obtain ⟨c_10,g_10⟩:∃ c,xrc13_10=c:=⟨_,rfl⟩
   rw [g_10]
   conv=>whnf
   subst g_10
   unfold xrc13_10
   obtain ⟨c_16,g_16⟩:∃ c,xrc13_16=c:=⟨_,rfl⟩
   rw [g_16]
   conv=>whnf
   subst g_16
   refine x13_l1_ok ?_ (by exact rfl) h
   intro z1 z2 z3 u0 u1 u2 u3 u7 u8 u11 u12 u18 u19 u20 u21 u22 u23 u24 u25 u26 u27 u28 u29 u30 u31 u32 u33 u34 u35 u36 u37 u38 u39 u40 u41 u42 u43 u44 u45 u46 u47 u48 u49 u50 u51 u52 u53 u54 u55 u56 u57 u58 u59 u60 u61 u62 u63 u64 u65 u66 u67 u68 u69 u70 u71 u72 u73 u74 u75 u76 u77 u78 u79 u80 u81 u82 u83 u84 u85 u86 u87 u88 u89 u90 u91 u92 u93 u94 u95 u96 u97 u98 u99 u100 u101 u102 u103 u104 u105 u106 u107 u108 u109 u110 u111 u112 u113 u114 u115 u116 u117 u118 u119 u120 u121 u122 u123 u124 u125 u126 u127 u128 u129 u130 u131 u132 u133 u134 u135 u136 u137 u138 u139 u140 u141 u142 u143 u144 u145 u146 u147 u148 u149 u150 u151 u152 u153 u154 u155 u156 u157 u158 u159 u160 u161 u162 u163 u164 u165 u166 u167 u168 u169 u170 u171 u172 u173 u174 u175 u176 u177 u178 u179 u180 u181 u182 Yq h
   conv=>whnf
   subst g_9
   unfold xrc13_9
   obtain ⟨c_17,g_17⟩:∃ c,xrc13_17=c:=⟨_,rfl⟩
   rw [g_17]
   obtain ⟨c_26,g_26⟩:∃ c,xrc13_26=c:=⟨_,rfl⟩
   rw [g_26]
   conv=>whnf
   obtain ⟨r3,hb11,h⟩:=bd_some h
   refine ⟨(allc (pu_agg (allc rfl (allc (pu_map (fun _=>rfl) _ _ _) (allc rfl (allc rfl rfl))))) (allc (pu_flat (fun _=>(allc rfl (allc rfl rfl))) _ _ _) rfl)),_,x45_ok hb11,?_⟩
   conv=>whnf
   subst g_17
   unfold xrc13_17
   obtain ⟨c_18,g_18⟩:∃ c,xrc13_18=c:=⟨_,rfl⟩
   rw [g_18]
   conv=>whnf
   cases r3
   ·conv=>whnf
    replace h:=it_f rfl h
    subst g_26
    refine x13_j2_ok ?_ h
    exact fun T H hh=>hR T H hh
   ·conv=>whnf
    replace h:=it_t rfl h
    obtain ⟨r4,hb12,h⟩:=bd_some h
    refine ⟨(allc (pu_agg (allc rfl (allc (pu_map (fun _=>rfl) _ _ _) (allc rfl (allc rfl rfl))))) (allc (pu_flat (fun _=>(allc rfl (allc rfl rfl))) _ _ _) rfl)),_,x46_ok hb12,?_⟩
    conv=>whnf
    subst g_18
    unfold xrc13_18
    obtain ⟨c_19,g_19⟩:∃ c,xrc13_19=c:=⟨_,rfl⟩
    rw [g_19]
    conv=>whnf
    rcases bt r4.2.2.2 with hb13 | hb13
    ·rw [hb13]
     conv=>whnf
     replace h:=it_t hb13 h
     rcases bt (decide (r4.1≠(w ((w ((1:Int)+(w (times.tmod (4:Int)))))*r2.1)))) with hb14 | hb14
     ·rw [hb14]
      conv=>whnf
      replace h:=it_t hb14 h
      subst g_19
      unfold xrc13_19
      skip
      conv=>whnf
      obtain rfl:=Option.some.inj h
      exact hR _ _ ⟨.inr rfl,_,rfl,_,frz_pure rfl,rfl⟩
     ·rw [hb14]
      conv=>whnf
      replace h:=it_f hb14 h
      subst g_19
      unfold xrc13_19
      skip
      conv=>whnf
      rcases bt (decide (r4.2.1≠r2.2.1)) with hb15 | hb15
      ·rw [hb15]
       conv=>whnf
       replace h:=it_t hb15 h
       obtain rfl:=Option.some.inj h
       exact hR _ _ ⟨.inr rfl,_,rfl,_,frz_pure rfl,rfl⟩
      ·rw [hb15]
       conv=>whnf
       replace h:=it_f hb15 h
       subst g_26
       refine x13_j2_ok ?_ h
       exact fun T H hh=>hR T H hh
    ·rw [hb13]
     conv=>whnf
     replace h:=it_f hb13 h
     subst g_19
     unfold xrc13_19
     skip
     conv=>whnf
     obtain rfl:=Option.some.inj h
     exact hR _ _ ⟨.inr rfl,_,rfl,_,frz_pure rfl,rfl⟩
  ·rw [hb3]
   conv=>whnf
   replace h:=it_f hb3 h
   obtain rfl:=Option.some.inj h
   exact hR _ _ ⟨.inr rfl,_,rfl,_,frz_pure rfl,rfl⟩

abbrev hts (ps:List (Int×Int)):List Int:=ps.map (·.1)
def Nd (b:Bed) (ps:List (Int×Int)) (T:Int) (r:Int×Int):Prop :=
 (∃ z:Nat,r=((z:Int),0)∧1≤z∧z≤max 1 ps.length∧hSum z ps 21+b.2.2.2*wayM b.2.2.1 (hts ps)≤T∧∀ j:Nat,1≤j→j<z→T<hSum j ps 21+b.2.2.2*wayM b.2.2.1 (hts ps)) ∨
 (r=(0,5)∧∀ j:Nat,1≤j→j≤max 1 ps.length→T<hSum j ps 21+b.2.2.2*wayM b.2.2.1 (hts ps))
theorem Nd.uniq {b:Bed} {ps:List (Int×Int)} {T:Int} {r r':Int×Int} (h:Nd b ps T r) (h':Nd b ps T r'):r=r':=by
 rcases h with ⟨z,rfl,h1,h2,h3,h4⟩ | ⟨rfl,h4⟩ <;> rcases h' with ⟨z',rfl,g1,g2,g3,g4⟩ | ⟨rfl,g4⟩
 ·have:z=z':=by
   rcases Nat.lt_trichotomy z z' with h | h | h
   ·have:=g4 z h1 h;omega
   ·exact h
   ·have:=h4 z' g1 h;omega
  rw [this]
 ·have:=g4 z h1 h2;omega
 ·have:=h4 z' g1 g2;omega
 ·rfl

theorem sumR_split (f:Nat→Int) (a:Nat):∀ b,sumR (a+b) f=sumR a f+sumR b (fun i=>f (a+i))
 | 0=>by rw [sumR_zero,Nat.add_zero,Int.add_zero]
 | b+1=>by rw [←Nat.add_assoc,sumR_succ,sumR_succ,sumR_split f a b,Int.add_assoc]
theorem sumR_none {f:Nat→Int} {n:Nat} (h:∀ i,i<n→f i=0):sumR n f=0:=by rw [sumR_congr h,sumR_const0]
theorem sumR_rev (f:Nat→Int):∀ n,sumR n (fun i=>f (n-1-i))=sumR n f
 | 0=>rfl
 | n+1=>by
   have e:=sumR_split (fun i=>f (n+1-1-i)) 1 n
   rw [show 1+n=n+1 by omega] at e
   have e1:sumR 1 (fun i=>f (n+1-1-i))=f n:=by
    rw [show 1=0+1 from rfl,sumR_succ,sumR_zero,Int.zero_add];rfl
   have e2:sumR n (fun i=>f (n+1-1-(1+i)))=sumR n f:=by
    rw [←sumR_rev f n]
    exact sumR_congr fun i _=>by rw [show n+1-1-(1+i)=n-1-i by omega]
   rw [e,e1,e2,sumR_succ];omega
def fA (A:Int) (p:Int×Int):Int×Int:=(p.1,A*p.2)
def fD (D:Int) (p:Int×Int):Int×Int:=(p.1+D,p.2)
def fR (p:Int×Int):Int×Int:=(20-p.1,p.2)
theorem hrs_map (f:Int×Int→Int×Int) (g:Int→Int) (h h':Int) (hf:∀ p,(f p).1=h↔p.1=h') (hg:∀ p,(f p).2=g p.2) (ps:List (Int×Int)):hrs (ps.map f) h=(hrs ps h').map g:=by
 unfold hrs
 induction ps with
 | nil=>rfl
 | cons p ps ih =>
   rw [List.map_cons,List.filter_cons,List.filter_cons]
   by_cases hp:p.1=h'
   ·rw [if_pos (decide_eq_true ((hf p).2 hp)),if_pos (decide_eq_true hp),List.map_cons,List.map_cons,List.map_cons,ih,hg]
   ·rw [if_neg (by simpa using fun e=>hp ((hf p).1 e)),if_neg (by simpa using hp),ih]
theorem down_mul {A:Int} (hA:0<A) (l:List Int):down (l.map (A*·))=(down l).map (A*·):=by
 have hlt:∀ x y:Int,(fun x y:Int=>decide (y<x)) x y=(fun x y:Int=>decide (y<x)) (A*x) (A*y):=fun x y=>by
  dsimp only
  rw [Bool.eq_iff_iff,decide_eq_true_eq,decide_eq_true_eq]
  exact ⟨fun h=>Int.mul_lt_mul_of_pos_left h hA,fun h=>Int.lt_of_mul_lt_mul_left h (Int.le_of_lt hA)⟩
 have e:=congrArg Array.toList (map_ins (lt:=fun x y:Int=>decide (y<x)) (lt':=fun x y:Int=>decide (y<x)) (f:=(A*·)) hlt l.toArray 0 l.length (by simp))
 rw [Array.toList_map] at e
 unfold down
 rw [e]
 simp
theorem sum_mul (A:Int):∀ l:List Int,(l.map (A*·)).sum=A*l.sum
 | []=>by simp
 | a::l=>by rw [List.map_cons,List.sum_cons,List.sum_cons,sum_mul A l,Int.mul_add]
theorem hH_mul {n:Nat} {A:Int} (hA:0<A) (l:List Int):hH n (l.map (A*·))=A*hH n l:=by
 unfold hH heads
 rw [down_mul hA,chunks_map,←sum_mul,List.map_map,List.map_map]
 congr 1
 apply List.map_congr_left
 intro e _
 cases e with
 | nil=>show (0:Int)=A*0;simp
 | cons a r=>rfl
theorem hSum_mul {n:Nat} {A:Int} (hA:0<A) (ps:List (Int×Int)):∀ i,hSum n (ps.map (fA A)) i=A*hSum n ps i
 | 0=>by show (0:Int)=A*0;simp
 | i+1=>by rw [hSum_succ,hSum_succ,hSum_mul hA ps i,hrs_map (fA A) (A*·) _ _ (fun _=>Iff.rfl) (fun _=>rfl),hH_mul hA,Int.mul_add]
theorem hrs_none {ps:List (Int×Int)} {h:Int} (hp:∀ p∈ps,p.1≠h):hrs ps h=[]:=by
 unfold hrs
 rw [List.map_eq_nil_iff,List.filter_eq_nil_iff]
 exact fun p hm e=>hp p hm (of_decide_eq_true e)
theorem hH_none {n:Nat} (hn:0<n) {ps:List (Int×Int)} {h:Int} (hp:∀ p∈ps,p.1≠h):hH n (hrs ps h)=0:=by rw [hrs_none hp,hH_nil n hn]
theorem hSum_shift {n:Nat} (hn:0<n) {ps:List (Int×Int)} {d:Nat} (hd:d≤20) (h1:∀ p∈ps,0≤p.1) (h2:∀ p∈ps,p.1+(d:Int)≤20):hSum n (ps.map (fD (d:Int))) 21=hSum n ps 21:=by
 have e0:hSum n (ps.map (fD (d:Int))) 21=sumR 21 fun i=>hH n (hrs ps ((i:Int)-(d:Int))):=by
  show sumR 21 (fun i=>hH n (hrs (ps.map (fD (d:Int))) (i:Int)))=_
  exact sumR_congr fun i _=>by
   rw [hrs_map (fD (d:Int)) (fun x=>x) _ ((i:Int)-(d:Int)) (fun p=>by show p.1+(d:Int)=_↔_;omega) (fun _=>rfl),List.map_id']
 have e1:hSum n ps 21=sumR 21 fun i=>hH n (hrs ps (i:Int)):=rfl
 have s1:=sumR_split (fun i=>hH n (hrs ps ((i:Int)-(d:Int)))) d (21-d)
 have s2:=sumR_split (fun i=>hH n (hrs ps (i:Int))) (21-d) d
 rw [show d+(21-d)=21 by omega] at s1
 rw [show 21-d+d=21 by omega] at s2
 rw [e0,e1,s1,s2,sumR_none (n:=d) fun i hi=>hH_none hn fun p hp=>by have:=h1 p hp;omega,sumR_none (n:=d) fun i hi=>hH_none hn fun p hp=>by have:=h2 p hp;omega,Int.zero_add,Int.add_zero]
 exact sumR_congr fun i _=>by rw [show ((d+i:Nat):Int)-(d:Int)=(i:Int) by omega]
theorem hSum_turn {n:Nat} (ps:List (Int×Int)):hSum n (ps.map fR) 21=hSum n ps 21:=by
 have e0:hSum n (ps.map fR) 21=sumR 21 fun i=>(fun j:Nat=>hH n (hrs ps (j:Int))) (21-1-i):=by
  show sumR 21 (fun i=>hH n (hrs (ps.map fR) (i:Int)))=_
  exact sumR_congr fun i hi=>by
   rw [hrs_map fR (fun x=>x) _ (20-(i:Int)) (fun p=>by show 20-p.1=_↔_;omega) (fun _=>rfl),List.map_id']
   show _=hH n (hrs ps ((21-1-i:Nat):Int))
   rw [show ((21-1-i:Nat):Int)=20-(i:Int) by omega]
 rw [e0]
 exact sumR_rev (fun j:Nat=>hH n (hrs ps (j:Int))) 21
theorem minL_add (D:Int):∀ (l:List Int) (s:Int),minL (s+D) (l.map (·+D))=minL s l+D
 | [],_=>rfl
 | a::l,s=>by
   show minL (min (s+D) (a+D)) (l.map (·+D))=minL (min s a) l+D
   rw [←minL_add D l,show min (s+D) (a+D)=min s a+D by omega]
theorem maxL_add (D:Int):∀ (l:List Int) (s:Int),maxL (s+D) (l.map (·+D))=maxL s l+D
 | [],_=>rfl
 | a::l,s=>by
   show maxL (max (s+D) (a+D)) (l.map (·+D))=maxL (max s a) l+D
   rw [←maxL_add D l,show max (s+D) (a+D)=max s a+D by omega]
theorem minL_turn:∀ (l:List Int) (s:Int),minL (20-s) (l.map (20-·))=20-maxL s l
 | [],_=>rfl
 | a::l,s=>by
   show minL (min (20-s) (20-a)) (l.map (20-·))=20-maxL (max s a) l
   rw [←minL_turn l,show min (20-s) (20-a)=20-max s a by omega]
theorem maxL_turn:∀ (l:List Int) (s:Int),maxL (20-s) (l.map (20-·))=20-minL s l
 | [],_=>rfl
 | a::l,s=>by
   show maxL (max (20-s) (20-a)) (l.map (20-·))=20-minL (min s a) l
   rw [←maxL_turn l,show max (20-s) (20-a)=20-min s a by omega]
theorem wayM_add (D h:Int) (l:List Int):wayM (h+D) (l.map (·+D))=wayM h l:=by
 unfold wayM;rw [minL_add,maxL_add];omega
theorem wayM_turn (h:Int) (l:List Int):wayM (20-h) (l.map (20-·))=wayM h l:=by
 unfold wayM;rw [minL_turn,maxL_turn];omega
theorem bErr_heat {b:Bed} (hb:bErr b=0) {h:Int} (hh:0≤h∧h≤20):bErr (b.1,b.2.1,h,b.2.2.2)=0:=by
 have hB:=bedOk hb
 obtain ⟨o,br,he,c⟩:=b
 have hc:=hB.c0
 simp only [bErr,bedErr] at hb ⊢
 dsimp only at hc
 split at hb
 ·cases hb
 rename_i h1
 split at hb
 ·cases hb
 rename_i h2
 split at hb
 ·cases hb
 rename_i h3
 rw [if_neg h1,if_neg h2,if_neg h3,if_neg]
 rw [outOf_false.2 hh,outOf_false.2 hc];decide
theorem mul_in {a h:Int} (ha:0≤a∧a≤4) (hh:0≤h∧h≤288):0≤a*h∧a*h≤1152:=by
 refine ⟨Int.mul_nonneg ha.1 hh.1,?_⟩
 have:=Int.mul_le_mul ha.2 hh.2 hh.1 (by omega)
 omega
theorem x13_l1_eq {ps:List (Int×Int)} (hp:PsOk ps) {times more A D:Int} (hA:w (1+w (times.tmod 4))=A) (hD:w (more.tmod 8)=D) (hA2:0≤A∧A≤4) (hD2:0≤D∧D≤7) {k:List (Int×Int)→List (Int×Int)→List (Int×Int)→Option Bool}:∀ (m i:Nat) (z:Int),z=i→i≤ps.length→ps.length-i<m→x13_l1 ps times more k m ((ps.take i).map (fA A)) ((ps.take i).map (fD D)) ((ps.take i).map fR) z=k (ps.map (fA A)) (ps.map (fD D)) (ps.map fR)
 | 0,i,_,_,_,h=>absurd h (by omega)
 | m+1,i,_,rfl,hi,hm=>by
   have hl:=hp.len
   rw [x13_l1]
   by_cases h:i<ps.length
   ·have h1:=hp.heat _ (List.getElem_mem h)
    have h2:=hp.hour _ (List.getElem_mem h)
    have h3:=mul_in hA2 (h:=ps[i].2) (by omega)
    have hlt:(ps.take i).length=i:=by rw [List.length_take];omega
    have ih:=x13_l1_eq hp hA hD hA2 hD2 (k:=k) m (i+1) _ rfl (by omega) (by omega)
    rw [take_snoc h,List.map_append,List.map_append,List.map_append] at ih
    rw [iflt h,gdi h,ix_nat h,gd_pos (by rw [List.length_map];omega),gd_pos (by rw [List.length_map];omega),gd_pos (by rw [List.length_map];omega),hA,hD,w_id (n:=A*_) (by omega),w_id (n:=ps[i].1+D) (by omega),w_id (n:=20-ps[i].1) (by omega),w_succ i (by omega)]
    exact ih
   ·obtain rfl:i=ps.length:=by omega
    rw [ifge h,List.take_length]
theorem x13_j3_eq {b:Bed} {ps:List (Int×Int)} (hf:FineOk b ps) (T:List (List Int)):x13_j3 b (hSum (wn b) ps 21,wayM b.2.2.1 (hts ps),T,true) (ps.map fR)=some true:=by
 obtain ⟨hl,hb,hp⟩:=hf
 have hB:=bedOk hb
 have hh:=hB.h0
 have hq:PsOk (ps.map fR):=by
  refine ⟨by rw [List.length_map];exact hp.len,fun p hm=>?_,fun p hm=>?_⟩
  ·obtain ⟨q,hq,rfl⟩:=List.mem_map.1 hm
   have:=hp.heat q hq;show 0≤20-q.1∧20-q.1≤20;omega
  ·obtain ⟨q,hq,rfl⟩:=List.mem_map.1 hm
   exact hp.hour q hq
 have hF:FineOk (b.1,b.2.1,20-b.2.2.1,b.2.2.2) (ps.map fR):=⟨hl,bErr_heat hb (by omega),hq⟩
 have ew:wayM (20-b.2.2.1) (hts (ps.map fR))=wayM b.2.2.1 (hts ps):=by
  rw [←wayM_turn b.2.2.1]
  show wayM _ ((ps.map fR).map (·.1))=wayM _ ((ps.map (·.1)).map (20-·))
  rw [List.map_map,List.map_map];rfl
 have e46:=x46_eq hF
 rw [x13_j3,x49,w_id (n:=20-b.2.2.1) (by omega),Option.bind_some,e46,Option.bind_some,if_pos rfl]
 have e1:hSum (wn (b.1,b.2.1,20-b.2.2.1,b.2.2.2)) (ps.map fR) 21=hSum (wn b) ps 21:=hSum_turn ps
 rw [e1,if_pos (decide_eq_true rfl)]
 show (if (decide (wayM (20-b.2.2.1) (hts (ps.map fR))=wayM b.2.2.1 (hts ps)))=true then _ else _)=_
 rw [ew,if_pos (decide_eq_true rfl)];rfl
theorem x13_j2_eq {b:Bed} {ps:List (Int×Int)} (hf:FineOk b ps) (T:List (List Int)) {more D:Int} (hD:w (more.tmod 8)=D) (hD2:0≤D∧D≤7):x13_j2 b more (hSum (wn b) ps 21,wayM b.2.2.1 (hts ps),T,true) (ps.map (fD D)) (ps.map fR)=some true:=by
 obtain ⟨hl,hb,hp⟩:=hf
 have hB:=bedOk hb
 have hh:=hB.h0
 have hwn:=wn_pos hB
 rw [x13_j2,x49,hD,w_id (n:=b.2.2.1+D) (by omega),Option.bind_some]
 obtain ⟨r,hr,hfr⟩:=x45_eq (b.1,b.2.1,b.2.2.1+D,b.2.2.2) (ps.map (fD D))
 rw [hr,Option.bind_some]
 cases r with
 | false=>rw [if_neg (by decide)];exact x13_j3_eq ⟨hl,hb,hp⟩ T
 | true =>
   have hF:=hfr rfl
   have e46:=x46_eq hF
   have ew:wayM (b.2.2.1+D) (hts (ps.map (fD D)))=wayM b.2.2.1 (hts ps):=by
    rw [←wayM_add D b.2.2.1]
    show wayM _ ((ps.map (fD D)).map (·.1))=wayM _ ((ps.map (·.1)).map (·+D))
    rw [List.map_map,List.map_map];rfl
   have e1:hSum (wn (b.1,b.2.1,b.2.2.1+D,b.2.2.2)) (ps.map (fD D)) 21=hSum (wn b) ps 21:=by
    have hd:D=((D.toNat:Nat):Int):=by omega
    rw [hd]
    show hSum (wn b) (ps.map (fD _)) 21=_
    refine hSum_shift (by omega) (by omega) (fun p hm=>(hp.heat p hm).1) fun p hm=>?_
    have:=(hF.2.2.heat (fD D p) (List.mem_map.2 ⟨p,hm,rfl⟩)).2
    have e:(fD D p).1=p.1+D:=rfl
    omega
   rw [if_pos rfl,e46,Option.bind_some,if_pos rfl,e1,if_neg (by simp)]
   show (if (decide (wayM (b.2.2.1+D) (hts (ps.map (fD D)))≠wayM b.2.2.1 (hts ps)))=true then _ else _)=_
   rw [ew,if_neg (by simp)]
   exact x13_j3_eq ⟨hl,hb,hp⟩ T
theorem x13_eq (b:Bed) (ps:List (Int×Int)) {times more:Int} (ht:0≤times∧times≤255) (hm:0≤more∧more≤255):x13 b ps times more=some true:=by
 rw [x13]
 obtain ⟨r,hr,hf⟩:=x45_eq b ps
 rw [hr,Option.bind_some]
 cases r with
 | false=>rw [if_neg (by decide)];rfl
 | true =>
   have hF:=hf rfl
   obtain ⟨hl,hb,hp⟩:=hf rfl
   have hB:=bedOk hb
   have hwn:=wn_pos hB
   have hpl:=hp.len
   obtain ⟨A,hA⟩:∃ A,A=w (1+w (times.tmod 4)):=⟨_,rfl⟩
   obtain ⟨D,hD⟩:∃ D,D=w (more.tmod 8):=⟨_,rfl⟩
   have hA2:1≤A∧A≤4:=by
    rw [hA,Int.tmod_eq_emod_of_nonneg ht.1,w_id (n:=times % 4) (by omega),w_id (by omega)];omega
   have hD2:0≤D∧D≤7:=by
    rw [hD,Int.tmod_eq_emod_of_nonneg hm.1,w_id (by omega)];omega
   have e1:=fun k=>x13_l1_eq hp hA.symm hD.symm (by omega) hD2 (k:=k) FU 0 0 rfl (Nat.zero_le _) (FU_lt (by omega))
   rw [if_pos rfl,x46_eq hF,Option.bind_some,if_pos rfl,gd_pos (by decide),gd_pos (by decide)]
   refine (e1 _).trans ?_
   obtain ⟨r1,hr1,hf1⟩:=x45_eq b (ps.map (fA A))
   rw [hr1,Option.bind_some]
   cases r1 with
   | false=>rw [if_neg (by decide)];exact x13_j2_eq hF _ hD.symm hD2
   | true =>
     have hF1:=hf1 rfl
     have ew:(ps.map (fA A)).map (·.1)=ps.map (·.1):=by rw [List.map_map];rfl
     have hs:=hSum_in (n:=wn b) (by omega) hp 21
     have hm:=mul_in (a:=A) (by omega) hs
     rw [if_pos rfl,x46_eq hF1,Option.bind_some,if_pos rfl,ew,hSum_mul (by omega),←hA]
     dsimp only
     rw [w_id (n:=A*_) (by omega),if_neg (by simp),if_neg (by simp)]
     exact x13_j2_eq hF _ hD.symm hD2
theorem pressScaled_ok (b:Bed) (ps:List (Int×Int)) (times more:Int) {P1 P2:Prop} (_:P1) (_:P2) (ht:0≤times∧times≤255) (hm:0≤more∧more≤255) :
  PO 13 [.agg [I b.1,L1 b.2.1,I b.2.2.1,I b.2.2.2],PL ps,.int .u8 times,.int .u8 more] (B true):=x13_ok (x13_eq b ps ht hm)
end Go.Proofs.YtbnbjjgagikobaaGreat.Ab
