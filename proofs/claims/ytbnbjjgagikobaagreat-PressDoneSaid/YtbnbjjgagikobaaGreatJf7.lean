
import Derived.Test.YtbnbjjgagikobaaGreatJf4
import Derived.Test.YtbnbjjgagikobaaGreatJf6
import Derived.KernelRfl
import Derived.Test.YtbnbjjgagikobaaGreatJf5
set_option linter.unusedSimpArgs false
set_option linter.unusedVariables false
set_option linter.unusedSectionVars false

namespace Go.Proofs.YtbnbjjgagikobaaGreat.Ab
open Go
set_option maxRecDepth 20000
set_option maxHeartbeats 4000000
noncomputable def xrc30_4:RC :=
 .cond (.sl 25) (.seq (.reg false [I_ 26 [.tk 10] .mv,I_ 6 [.cv (.lst [] 0 .full)] (.nil 1),I_ 7 [.tk 26] .mv]) .ret) .skip
noncomputable def xrc30_16:RC :=
 .reg false [I_ 44 [.sl 11] .mv,I_ 45 [.tk 15] .mv,I_ 46 [.sl 8] .mv,I_ 47 [.tv 46] .nilc,I_ 48 [.tv 47] (.fa 5),I_ 49 [.tv 48] (.ld .one),I_ 50 [.tk 14] .mv,I_ 51 [.tv 49,.tv 50] (.ia 1),I_ 52 [.tv 51] (.ld .one),I_ 53
 [.tv 44,.tv 45] (.ia 1),⟨none,[.tk 53,.tk 52],none,none,.st 1⟩]
noncomputable def xrc30_15:RC :=
 .reg false [I_ 54 [.tv 39,.cv (.int .i64 1)] (.bin .add),I_ 39 [.tk 54] .mv]
noncomputable def xrc30_14:RC :=
 .seq (.block 3 (.seq (.reg false [I_ 41 [.sl 39] .mv,I_ 42 [.sl 37,.sl 39] (.ia 1),I_ 43 [.tv 42] (.ld .one),I_ 14 [.tk 41] .mv,I_ 15 [.tk 43] .mv]) xrc30_16)) xrc30_15
noncomputable def xrc30_13:RC :=
 .seq (.cond (.sl 40) .skip (.exit 2)) xrc30_14
noncomputable def xrc30_17:RC :=
 .loop (some [o_,o_,o_,o_,o_,o_,o_,o_,i_,o_,o_,i_,o_,o_,o_,o_,o_,o_,o_,o_,o_,o_,o_,o_,o_,o_,o_,o_,o_,o_,i_,i_,i_,o_,o_,o_,o_,i_,i_,i_,o_,o_,o_,o_,o_,o_,o_,o_,o_,o_,o_,o_,o_,o_,o_,o_,o_]) (.seq (.reg false [I_ 40 [.sl 39,.sl 38] (.bin
 .lss)]) xrc30_13)
noncomputable def xrc30_12:RC :=
 .block 2 xrc30_17
noncomputable def xrc30_11:RC :=
 .seq (.reg false [I_ 36 [.tv 13] (.fa 0),I_ 37 [.tv 36] (.ld .one),I_ 38 [.sl 37] .lenS,I_ 39 [.cv (.int .i64 0)] .mv]) xrc30_12
noncomputable def xrc30_10:RC :=
 .reg false [I_ 55 [.tv 32,.cv (.int .i64 1)] (.bin .add),I_ 32 [.tk 55] .mv]
noncomputable def xrc30_9:RC :=
 .seq (.block 1 (.seq (.reg false [I_ 34 [.sl 30,.sl 32] (.ia 3),I_ 35 [.tv 34] (.ld (.str 3)),I_ 13 [] (.alloc [.lst [] 0 .full,.int .i64 0,.int .i64 0]),⟨none,[.sl 13,.tk 35],none,none,.st 3⟩]) xrc30_11)) xrc30_10
noncomputable def xrc30_8:RC :=
 .seq (.cond (.sl 33) .skip (.exit 0)) xrc30_9
noncomputable def xrc30_18:RC :=
 .loop (some [o_,o_,o_,o_,o_,o_,o_,o_,i_,o_,o_,i_,o_,o_,o_,o_,o_,o_,o_,o_,o_,o_,o_,o_,o_,o_,o_,o_,o_,o_,i_,i_,i_,o_,o_,o_,o_,o_,o_,o_,o_,o_,o_,o_,o_,o_,o_,o_,o_,o_,o_,o_,o_,o_,o_,o_,o_]) (.seq (.reg false [I_ 33 [.sl 32,.sl 31]
 (.bin .lss)]) xrc30_8)
noncomputable def xrc30_7:RC :=
 .block 0 xrc30_18
noncomputable def xrc30_6:RC :=
 .seq (.reg false [I_ 56 [.tk 11] .mv,I_ 6 [.tk 56] .mv,I_ 7 [.cv (.int .i64 0)] .mv]) .ret
noncomputable def xrc30_5:RC :=
 .seq (.seq (.reg false [I_ 30 [.tk 9] .mv,I_ 31 [.sl 30] .lenS,I_ 32 [.cv (.int .i64 0)] .mv]) xrc30_7) xrc30_6
noncomputable def xrc30_3:RC :=
 .seq (.reg false [I_ 27 [.tk 1] .mv,I_ 28 [.tk 27] .lenS,I_ 29 [.sl 28,.tv 28] (.mkS [.int .i64 0] 1 8),I_ 11 [.tk 29] .mv]) xrc30_5
noncomputable def xrc30_2:RC :=
 .seq (.seq (.reg false [I_ 24 [.sl 10] .mv,I_ 25 [.tv 24,.cv (.int .i64 0)] (.bin .neq)]) xrc30_4) xrc30_3
noncomputable def xrc30_1:RC :=
 .seq (.reg false [I_ 17 [.tv 3] (.ld (.str 4)),I_ 18 [.sl 1] .mv,I_ 19 [.tk 2] .mv,I_ 20 [.cv (.func 65 [] []),.sl 17,.sl 18,.sl 19] (.call 3),I_ 16 [.tk 20] .mv,I_ 21 [.sl 16] (.ext 0),I_ 22 [.sl 16] (.ext 1),I_ 23
 [.tv 16] (.ext 2),I_ 8 [.tk 21] .mv,I_ 9 [.tk 22] .mv,I_ 10 [.tk 23] .mv]) xrc30_2
noncomputable def xrc30:RC :=
 .seq (.reg false [I_ 3 [.tk 0] .box,I_ 6 [.cv (.lst [] 0 .full)] (.nil 1),I_ 7 [.cv (.int .i64 0)] .mv]) xrc30_1
theorem lxx30:linkF Tryz.prog ann30 30=some (xrc30,57,[.tmp 6,.tmp 7]):=by kernel_rfl
def x30_l2 (q1:((List ((List Int)×Int×Int))×Int)) (s1:Int) (kl2_0:Unit→Option ((List Int)×Int)):Nat→Option ((List Int)×Int)
 | 0=>none
 | m+1 =>
   if (decide ((0:Int)<(((ix q1.1 s1).1).length:Int)))=true then
    gd (0≤(0:Int)∧(0:Int)<(((ix q1.1 s1).1).length:Int)) <|
    none
   else
    kl2_0 ()
def x30_l1 (q1:((List ((List Int)×Int×Int))×Int)) (kl1_0:Unit→Option ((List Int)×Int)):Nat→Int→Option ((List Int)×Int)
 | 0,_=>none
 | m+1,s1 =>
   if (decide (s1<(q1.1.length:Int)))=true then
    gd (0≤s1∧s1<(q1.1.length:Int)) <|
    x30_l2 q1 s1 (fun _ =>
      x30_l1 q1 kl1_0 m (w (s1+(1:Int)))) FU
   else
    kl1_0 ()
def x30_l4 (panels:(List (Int×Int))) (p1:((Int×(List Int)×Int×Int)×(List (Int×Int))×(List Int)×(List Int))) (q1:((List ((List Int)×Int×Int))×Int)) (s2:Int) (kl4_0:(List Int)→Option ((List Int)×Int)):Nat→Int→(List Int)→Option ((List Int)×Int)
 | 0,_,_=>none
 | m+1,s4,s5 =>
   if (decide (s4<(((ix q1.1 s2).1).length:Int)))=true then
    gd (0≤s4∧s4<(((ix q1.1 s2).1).length:Int)) <|
    gd (0≤s4∧s4<(p1.2.2.1.length:Int)) <|
    gd (0≤(ix ((ix q1.1 s2).1) s4)∧(ix ((ix q1.1 s2).1) s4)<(((panels.length:Int).toNat:Nat):Int)∧(panels.length:Int).toNat=s5.length) <|
    x30_l4 panels p1 q1 s2 kl4_0 m (w (s4+(1:Int))) (s5.set (ix ((ix q1.1 s2).1) s4).toNat (ix p1.2.2.1 s4))
   else
    kl4_0 s5
def x30_l3 (panels:(List (Int×Int))) (p1:((Int×(List Int)×Int×Int)×(List (Int×Int))×(List Int)×(List Int))) (q1:((List ((List Int)×Int×Int))×Int)) (kl3_0:(List Int)→Option ((List Int)×Int)):Nat→Int→(List Int)→Option ((List Int)×Int)
 | 0,_,_=>none
 | m+1,s2,s3 =>
   if (decide (s2<(q1.1.length:Int)))=true then
    gd (0≤s2∧s2<(q1.1.length:Int)) <|
    x30_l4 panels p1 q1 s2 (fun z1 =>
      x30_l3 panels p1 q1 kl3_0 m (w (s2+(1:Int))) z1) FU (0:Int) s3
   else
    kl3_0 s3
def x30 (b:(Int×(List Int)×Int×Int)) (panels:(List (Int×Int))) (turns:(List (List Int))):Option ((List Int)×Int) :=
 (x65 b panels turns).bind fun r1 =>
 match r1 with
 | (none,q1) =>
   if (decide (q1.2≠(0:Int)))=true then
    some ([],q1.2)
   else
    gd (0≤(panels.length:Int)∧(panels.length:Int)≤(panels.length:Int)∧(panels.length:Int).toNat*8≤140737488355328) <|
    x30_l1 q1 (fun _ =>
      gd ((panels.length:Int).toNat=(List.replicate (panels.length:Int).toNat (0:Int)).length) <|
      some ((List.replicate (panels.length:Int).toNat (0:Int)),(0:Int))) FU (0:Int)
 | (some p1,q1) =>
   if (decide (q1.2≠(0:Int)))=true then
    some ([],q1.2)
   else
    gd (0≤(panels.length:Int)∧(panels.length:Int)≤(panels.length:Int)∧(panels.length:Int).toNat*8≤140737488355328) <|
    x30_l3 panels p1 q1 (fun z2 =>
      gd ((panels.length:Int).toNat=z2.length) <|
      some (z2,(0:Int))) FU (0:Int) (List.replicate (panels.length:Int).toNat (0:Int))
theorem x30_l2_ok {q1:((List ((List Int)×Int×Int))×Int)} {s1:Int} {kl2_0:Unit→Option ((List Int)×Int)} {panels:(List (Int×Int))} {v:((List Int)×Int)} {Q:Ex→List AV→List AObj→Prop} {o1:AObj} {o3:AObj} {Y30_1:List AObj} (hkl2_0:∀ (u0:AV) (u1:AV) (u2:AV) (u3:AV) (u6:AV) (u7:AV) (u9:AV) (u10:AV) (u13:AV) (u14:AV) (u15:AV) (u16:AV) (u17:AV) (u18:AV) (u19:AV) (u20:AV) (u21:AV) (u22:AV) (u23:AV) (u24:AV) (u25:AV) (u26:AV) (u27:AV) (u28:AV) (u29:AV) (u33:AV) (u34:AV) (u35:AV) (u36:AV) (u37:AV) (u38:AV) (u39:AV) (u40:AV) (u41:AV) (u42:AV) (u43:AV) (u44:AV) (u45:AV) (u46:AV) (u47:AV) (u48:AV) (u49:AV) (u50:AV) (u51:AV) (u52:AV) (u53:AV) (u54:AV) (u55:AV) (u56:AV) (Yq:List AObj),kl2_0 ()=some v→Q (.exit 2) [u0,u1,u2,u3,J,J,u6,u7,.nilp,u9,u10,(.ref 1 0 (panels.length:Int).toNat (some (panels.length:Int).toNat) 1),J,u13,u14,u15,u16,u17,u18,u19,u20,u21,u22,u23,u24,u25,u26,u27,u28,u29,(.lst (q1.1.flatMap E_turn) q1.1.length .shared),(I (q1.1.length:Int)),(I s1),u33,u34,u35,u36,u37,u38,u39,u40,u41,u42,u43,u44,u45,u46,u47,u48,u49,u50,u51,u52,u53,u54,u55,u56] (o1::AObj.cells ((List.replicate (panels.length:Int).toNat (0:Int)).map I)::Yq)) {T:List AV} (hT:zipKeep [o_,o_,o_,o_,o_,o_,o_,o_,i_,o_,o_,i_,o_,o_,o_,o_,o_,o_,o_,o_,o_,o_,o_,o_,o_,o_,o_,o_,o_,o_,i_,i_,i_,o_,o_,o_,o_,i_,i_,i_,o_,o_,o_,o_,o_,o_,o_,o_,o_,o_,o_,o_,o_,o_,o_,o_,o_] T=slots 57 [(8,.nilp),(11,(.ref 1 0 (panels.length:Int).toNat (some (panels.length:Int).toNat) 1)),(30,(.lst (q1.1.flatMap E_turn) q1.1.length .shared)),(31,(I (q1.1.length:Int))),(32,(I s1)),(37,(.lst (((ix q1.1 s1).1).map I) ((ix q1.1 s1).1).length .shared)),(38,(I (((ix q1.1 s1).1).length:Int))),(39,(I (0:Int)))]) (h:x30_l2 q1 s1 kl2_0 FU  = some v) :
  wpR Tryz.prog ann30 30 0 none xrc30_17 T ((o1::AObj.cells ((List.replicate (panels.length:Int).toNat (0:Int)).map I)::Y30_1)++[o3]) Q:=by
 unfold xrc30_17
 obtain ⟨c_13,g_13⟩:∃ c,xrc30_13=c:=⟨_,rfl⟩
 rw [g_13]
 refine wp_loop hT ?_
 refine .intro (fun m T H=>T=slots 57 [(8,.nilp),(11,(.ref 1 0 (panels.length:Int).toNat (some (panels.length:Int).toNat) 1)),(30,(.lst (q1.1.flatMap E_turn) q1.1.length .shared)),(31,(I (q1.1.length:Int))),(32,(I s1)),(37,(.lst (((ix q1.1 s1).1).map I) ((ix q1.1 s1).1).length .shared)),(38,(I (((ix q1.1 s1).1).length:Int))),(39,(I (0:Int)))]∧H=((o1::AObj.cells ((List.replicate (panels.length:Int).toNat (0:Int)).map I)::Y30_1)++[o3])∧x30_l2 q1 s1 kl2_0 m  = some v) FU ⟨rfl,rfl,h⟩ ?_
 clear h hT
 rintro m T H ⟨rfl,rfl,h⟩
 cases m
 ·exact none_ne h
 rename_i m
 rw [x30_l2.eq_2] at h
 conv=>whnf
 subst g_13
 unfold xrc30_13
 obtain ⟨c_14,g_14⟩:∃ c,xrc30_14=c:=⟨_,rfl⟩
 rw [g_14]
 conv=>whnf
 rcases bt (decide ((0:Int)<(((ix q1.1 s1).1).length:Int))) with hb6 | hb6
 ·rw [hb6]
  conv=>whnf
  replace h:=it_t hb6 h
  subst g_14
  unfold xrc30_14
  obtain ⟨c_15,g_15⟩:∃ c,xrc30_15=c:=⟨_,rfl⟩
  rw [g_15]
  obtain ⟨c_16,g_16⟩:∃ c,xrc30_16=c:=⟨_,rfl⟩
  rw [g_16]
  conv=>whnf
  obtain ⟨hb7,h⟩:=gd_some h
  refine ⟨hb7,?_⟩
  rw [drop1 I ((ix q1.1 s1).1) (0:Int) hb7]
  conv=>whnf
  subst g_16
  unfold xrc30_16
  skip
  conv=>whnf
  exact none_ne h
 ·rw [hb6]
  conv=>whnf
  replace h:=it_f hb6 h
  exact hkl2_0 _ _ _ _ _ _ _ _ _ _ _ _ _ _ _ _ _ _ _ _ _ _ _ _ _ _ _ _ _ _ _ _ _ _ _ _ _ _ _ _ _ _ _ _ _ _ _ _ _ _ h
theorem x30_l1_ok {q1:((List ((List Int)×Int×Int))×Int)} {kl1_0:Unit→Option ((List Int)×Int)} {s1:Int} {panels:(List (Int×Int))} {v:((List Int)×Int)} {Q:Ex→List AV→List AObj→Prop} {o1:AObj}  (hkl1_0:∀ (u0:AV) (u1:AV) (u2:AV) (u3:AV) (u6:AV) (u7:AV) (u8:AV) (u9:AV) (u10:AV) (u13:AV) (u14:AV) (u15:AV) (u16:AV) (u17:AV) (u18:AV) (u19:AV) (u20:AV) (u21:AV) (u22:AV) (u23:AV) (u24:AV) (u25:AV) (u26:AV) (u27:AV) (u28:AV) (u29:AV) (u30:AV) (u31:AV) (u32:AV) (u33:AV) (u34:AV) (u35:AV) (u36:AV) (u37:AV) (u38:AV) (u39:AV) (u40:AV) (u41:AV) (u42:AV) (u43:AV) (u44:AV) (u45:AV) (u46:AV) (u47:AV) (u48:AV) (u49:AV) (u50:AV) (u51:AV) (u52:AV) (u53:AV) (u54:AV) (u55:AV) (u56:AV) (Yq:List AObj),kl1_0 ()=some v→Q (.exit 0) [u0,u1,u2,u3,J,J,u6,u7,u8,u9,u10,(.ref 1 0 (panels.length:Int).toNat (some (panels.length:Int).toNat) 1),J,u13,u14,u15,u16,u17,u18,u19,u20,u21,u22,u23,u24,u25,u26,u27,u28,u29,u30,u31,u32,u33,u34,u35,u36,u37,u38,u39,u40,u41,u42,u43,u44,u45,u46,u47,u48,u49,u50,u51,u52,u53,u54,u55,u56] (o1::AObj.cells ((List.replicate (panels.length:Int).toNat (0:Int)).map I)::Yq)) {T:List AV} (hT:zipKeep [o_,o_,o_,o_,o_,o_,o_,o_,i_,o_,o_,i_,o_,o_,o_,o_,o_,o_,o_,o_,o_,o_,o_,o_,o_,o_,o_,o_,o_,o_,i_,i_,i_,o_,o_,o_,o_,o_,o_,o_,o_,o_,o_,o_,o_,o_,o_,o_,o_,o_,o_,o_,o_,o_,o_,o_,o_] T=slots 57 [(8,.nilp),(11,(.ref 1 0 (panels.length:Int).toNat (some (panels.length:Int).toNat) 1)),(30,(.lst (q1.1.flatMap E_turn) q1.1.length .shared)),(31,(I (q1.1.length:Int))),(32,(I s1))]) (h:x30_l1 q1 kl1_0 FU s1=some v) :
  wpR Tryz.prog ann30 30 0 none xrc30_18 T [o1,AObj.cells ((List.replicate (panels.length:Int).toNat (0:Int)).map I)] Q:=by
 unfold xrc30_18
 obtain ⟨c_8,g_8⟩:∃ c,xrc30_8=c:=⟨_,rfl⟩
 rw [g_8]
 refine wp_loop hT ?_
 refine .intro (fun m T H=>∃ (s1:Int) (Y30_1:List AObj),T=slots 57 [(8,.nilp),(11,(.ref 1 0 (panels.length:Int).toNat (some (panels.length:Int).toNat) 1)),(30,(.lst (q1.1.flatMap E_turn) q1.1.length .shared)),(31,(I (q1.1.length:Int))),(32,(I s1))]∧H=(o1::AObj.cells ((List.replicate (panels.length:Int).toNat (0:Int)).map I)::Y30_1)∧x30_l1 q1 kl1_0 m s1=some v) FU ⟨s1,[],rfl,rfl,h⟩ ?_
 clear h hT
 rintro m T H ⟨s1,Y30_1,rfl,rfl,h⟩
 cases m
 ·exact none_ne h
 rename_i m
 rw [x30_l1.eq_2] at h
 conv=>whnf
 subst g_8
 unfold xrc30_8
 obtain ⟨c_9,g_9⟩:∃ c,xrc30_9=c:=⟨_,rfl⟩
 rw [g_9]
 conv=>whnf
 rcases bt (decide (s1<(q1.1.length:Int))) with hb4 | hb4
 ·rw [hb4]
  conv=>whnf
  replace h:=it_t hb4 h
  subst g_9
  unfold xrc30_9
  obtain ⟨c_10,g_10⟩:∃ c,xrc30_10=c:=⟨_,rfl⟩
  rw [g_10]
  obtain ⟨c_11,g_11⟩:∃ c,xrc30_11=c:=⟨_,rfl⟩
  rw [g_11]
  conv=>whnf
  obtain ⟨hb5,h⟩:=gd_some h
  refine ⟨hb5,?_⟩
  rw [dropS E_turn 3 E_turn_len q1.1 s1 hb5]
  conv=>whnf
  refine nthK_of (x:=AObj.cells [(.lst [] 0 .full),(I (0:Int)),(I (0:Int))]) (by first | with_reducible exact get_concat _ _ | exact get_concat _ _ | exact ga (get_concat _ _) | rfl | (simp [List.getElem?_append,AV.settle];done)) ?_
  conv=>whnf
  rw [set_concat]
  subst g_11
  unfold xrc30_11
  obtain ⟨c_12,g_12⟩:∃ c,xrc30_12=c:=⟨_,rfl⟩
  rw [g_12]
  conv=>whnf
  refine nthK_of (x:=AObj.cells [(.lst (((ix q1.1 s1).1).map I) ((ix q1.1 s1).1).length .shared),(I (ix q1.1 s1).2.1),(I (ix q1.1 s1).2.2)]) (by first | with_reducible exact get_concat _ _ | exact get_concat _ _ | exact ga (get_concat _ _) | rfl | (simp [List.getElem?_append,AV.settle];done)) ?_
  conv=>whnf
  subst g_12
  unfold xrc30_12
  obtain ⟨c_17,g_17⟩:∃ c,xrc30_17=c:=⟨_,rfl⟩
  rw [g_17]
  conv=>whnf
  subst g_17
  refine x30_l2_ok ?_ (by exact rfl) h
  intro u0 u1 u2 u3 u6 u7 u9 u10 u13 u14 u15 u16 u17 u18 u19 u20 u21 u22 u23 u24 u25 u26 u27 u28 u29 u33 u34 u35 u36 u37 u38 u39 u40 u41 u42 u43 u44 u45 u46 u47 u48 u49 u50 u51 u52 u53 u54 u55 u56 Yq h
  conv=>whnf
  subst g_10
  unfold xrc30_10
  skip
  conv=>whnf
  exact ⟨m,Nat.lt_succ_self m,(w (s1+(1:Int))),_,rfl,rfl,h⟩
 ·rw [hb4]
  conv=>whnf
  replace h:=it_f hb4 h
  exact hkl1_0 _ _ _ _ _ _ _ _ _ _ _ _ _ _ _ _ _ _ _ _ _ _ _ _ _ _ _ _ _ _ _ _ _ _ _ _ _ _ _ _ _ _ _ _ _ _ _ _ _ _ _ _ _ _ h
theorem x30_l4_ok {panels:(List (Int×Int))} {p1:((Int×(List Int)×Int×Int)×(List (Int×Int))×(List Int)×(List Int))} {q1:((List ((List Int)×Int×Int))×Int)} {s2:Int} {kl4_0:(List Int)→Option ((List Int)×Int)} {s4:Int} {s5:(List Int)} {v:((List Int)×Int)} {Q:Ex→List AV→List AObj→Prop} {o1:AObj} {o5:AObj} {Y30_1:List AObj} (hkl4_0:∀ (z1:(List Int)) (u0:AV) (u1:AV) (u2:AV) (u3:AV) (u6:AV) (u7:AV) (u9:AV) (u10:AV) (u13:AV) (u14:AV) (u15:AV) (u16:AV) (u17:AV) (u18:AV) (u19:AV) (u20:AV) (u21:AV) (u22:AV) (u23:AV) (u24:AV) (u25:AV) (u26:AV) (u27:AV) (u28:AV) (u29:AV) (u33:AV) (u34:AV) (u35:AV) (u36:AV) (u37:AV) (u38:AV) (u39:AV) (u40:AV) (u41:AV) (u42:AV) (u43:AV) (u44:AV) (u45:AV) (u46:AV) (u47:AV) (u48:AV) (u49:AV) (u50:AV) (u51:AV) (u52:AV) (u53:AV) (u54:AV) (u55:AV) (u56:AV) (Yq:List AObj),kl4_0 z1=some v→Q (.exit 2) [u0,u1,u2,u3,J,J,u6,u7,(.lptr ((I p1.1.1)::(.lst (p1.1.2.1.map I) p1.1.2.1.length .shared)::(I p1.1.2.2.1)::(I p1.1.2.2.2)::(.lst (p1.2.1.flatMap pr) p1.2.1.length .shared)::(.lst (p1.2.2.1.map I) p1.2.2.1.length .shared)::(p1.2.2.2.map I))),u9,u10,(.ref 1 0 (panels.length:Int).toNat (some (panels.length:Int).toNat) 1),J,u13,u14,u15,u16,u17,u18,u19,u20,u21,u22,u23,u24,u25,u26,u27,u28,u29,(.lst (q1.1.flatMap E_turn) q1.1.length .shared),(I (q1.1.length:Int)),(I s2),u33,u34,u35,u36,u37,u38,u39,u40,u41,u42,u43,u44,u45,u46,u47,u48,u49,u50,u51,u52,u53,u54,u55,u56] (o1::AObj.cells (z1.map I)::Yq)) {T:List AV} (hT:zipKeep [o_,o_,o_,o_,o_,o_,o_,o_,i_,o_,o_,i_,o_,o_,o_,o_,o_,o_,o_,o_,o_,o_,o_,o_,o_,o_,o_,o_,o_,o_,i_,i_,i_,o_,o_,o_,o_,i_,i_,i_,o_,o_,o_,o_,o_,o_,o_,o_,o_,o_,o_,o_,o_,o_,o_,o_,o_] T=slots 57 [(8,(.lptr ((I p1.1.1)::(.lst (p1.1.2.1.map I) p1.1.2.1.length .shared)::(I p1.1.2.2.1)::(I p1.1.2.2.2)::(.lst (p1.2.1.flatMap pr) p1.2.1.length .shared)::(.lst (p1.2.2.1.map I) p1.2.2.1.length .shared)::(p1.2.2.2.map I)))),(11,(.ref 1 0 (panels.length:Int).toNat (some (panels.length:Int).toNat) 1)),(30,(.lst (q1.1.flatMap E_turn) q1.1.length .shared)),(31,(I (q1.1.length:Int))),(32,(I s2)),(37,(.lst (((ix q1.1 s2).1).map I) ((ix q1.1 s2).1).length .shared)),(38,(I (((ix q1.1 s2).1).length:Int))),(39,(I s4))]) (h:x30_l4 panels p1 q1 s2 kl4_0 FU s4 s5=some v) :
  wpR Tryz.prog ann30 30 0 none xrc30_17 T ((o1::AObj.cells (s5.map I)::Y30_1)++[o5]) Q:=by
 unfold xrc30_17
 obtain ⟨c_13,g_13⟩:∃ c,xrc30_13=c:=⟨_,rfl⟩
 rw [g_13]
 refine wp_loop hT ?_
 refine .intro (fun m T H=>∃ (s4:Int) (s5:(List Int)),T=slots 57 [(8,(.lptr ((I p1.1.1)::(.lst (p1.1.2.1.map I) p1.1.2.1.length .shared)::(I p1.1.2.2.1)::(I p1.1.2.2.2)::(.lst (p1.2.1.flatMap pr) p1.2.1.length .shared)::(.lst (p1.2.2.1.map I) p1.2.2.1.length .shared)::(p1.2.2.2.map I)))),(11,(.ref 1 0 (panels.length:Int).toNat (some (panels.length:Int).toNat) 1)),(30,(.lst (q1.1.flatMap E_turn) q1.1.length .shared)),(31,(I (q1.1.length:Int))),(32,(I s2)),(37,(.lst (((ix q1.1 s2).1).map I) ((ix q1.1 s2).1).length .shared)),(38,(I (((ix q1.1 s2).1).length:Int))),(39,(I s4))]∧H=((o1::AObj.cells (s5.map I)::Y30_1)++[o5])∧x30_l4 panels p1 q1 s2 kl4_0 m s4 s5=some v) FU ⟨s4,s5,rfl,rfl,h⟩ ?_
 clear h hT
 rintro m T H ⟨s4,s5,rfl,rfl,h⟩
 cases m
 ·exact none_ne h
 rename_i m
 rw [x30_l4.eq_2] at h
 conv=>whnf
 subst g_13
 unfold xrc30_13
 obtain ⟨c_14,g_14⟩:∃ c,xrc30_14=c:=⟨_,rfl⟩
 rw [g_14]
 conv=>whnf
 rcases bt (decide (s4<(((ix q1.1 s2).1).length:Int))) with hb13 | hb13
 ·rw [hb13]
  conv=>whnf
  replace h:=it_t hb13 h
  subst g_14
  unfold xrc30_14
  obtain ⟨c_15,g_15⟩:∃ c,xrc30_15=c:=⟨_,rfl⟩
  rw [g_15]
  obtain ⟨c_16,g_16⟩:∃ c,xrc30_16=c:=⟨_,rfl⟩
  rw [g_16]
  conv=>whnf
  obtain ⟨hb14,h⟩:=gd_some h
  refine ⟨hb14,?_⟩
  rw [drop1 I ((ix q1.1 s2).1) s4 hb14]
  conv=>whnf
  subst g_16
  unfold xrc30_16
  skip
  conv=>whnf
  obtain ⟨hb15,h⟩:=gd_some h
  refine ⟨hb15,?_⟩
  rw [drop1 I p1.2.2.1 s4 hb15]
  conv=>whnf
  obtain ⟨hb16,h⟩:=gd_some h
  refine ⟨⟨hb16.1,hb16.2.1⟩,?_⟩
  replace hb16:0≤(ix ((ix q1.1 s2).1) s4)∧(ix ((ix q1.1 s2).1) s4)<(s5.length:Int):=⟨hb16.1,by have:=hb16.2;omega⟩
  conv=>whnf
  refine updD I s5 (ix ((ix q1.1 s2).1) s4) (ix p1.2.2.1 s4) hb16 ?_
  conv=>whnf
  subst g_15
  unfold xrc30_15
  skip
  conv=>whnf
  exact ⟨m,Nat.lt_succ_self m,(w (s4+(1:Int))),(s5.set (ix ((ix q1.1 s2).1) s4).toNat (ix p1.2.2.1 s4)),rfl,rfl,h⟩
 ·rw [hb13]
  conv=>whnf
  replace h:=it_f hb13 h
  exact hkl4_0 _ _ _ _ _ _ _ _ _ _ _ _ _ _ _ _ _ _ _ _ _ _ _ _ _ _ _ _ _ _ _ _ _ _ _ _ _ _ _ _ _ _ _ _ _ _ _ _ _ _ _ h
theorem x30_l3_ok {panels:(List (Int×Int))} {p1:((Int×(List Int)×Int×Int)×(List (Int×Int))×(List Int)×(List Int))} {q1:((List ((List Int)×Int×Int))×Int)} {kl3_0:(List Int)→Option ((List Int)×Int)} {s2:Int} {s3:(List Int)} {v:((List Int)×Int)} {Q:Ex→List AV→List AObj→Prop} {o1:AObj}  (hkl3_0:∀ (z2:(List Int)) (u0:AV) (u1:AV) (u2:AV) (u3:AV) (u6:AV) (u7:AV) (u8:AV) (u9:AV) (u10:AV) (u13:AV) (u14:AV) (u15:AV) (u16:AV) (u17:AV) (u18:AV) (u19:AV) (u20:AV) (u21:AV) (u22:AV) (u23:AV) (u24:AV) (u25:AV) (u26:AV) (u27:AV) (u28:AV) (u29:AV) (u30:AV) (u31:AV) (u32:AV) (u33:AV) (u34:AV) (u35:AV) (u36:AV) (u37:AV) (u38:AV) (u39:AV) (u40:AV) (u41:AV) (u42:AV) (u43:AV) (u44:AV) (u45:AV) (u46:AV) (u47:AV) (u48:AV) (u49:AV) (u50:AV) (u51:AV) (u52:AV) (u53:AV) (u54:AV) (u55:AV) (u56:AV) (Yq:List AObj),kl3_0 z2=some v→Q (.exit 0) [u0,u1,u2,u3,J,J,u6,u7,u8,u9,u10,(.ref 1 0 (panels.length:Int).toNat (some (panels.length:Int).toNat) 1),J,u13,u14,u15,u16,u17,u18,u19,u20,u21,u22,u23,u24,u25,u26,u27,u28,u29,u30,u31,u32,u33,u34,u35,u36,u37,u38,u39,u40,u41,u42,u43,u44,u45,u46,u47,u48,u49,u50,u51,u52,u53,u54,u55,u56] (o1::AObj.cells (z2.map I)::Yq)) {T:List AV} (hT:zipKeep [o_,o_,o_,o_,o_,o_,o_,o_,i_,o_,o_,i_,o_,o_,o_,o_,o_,o_,o_,o_,o_,o_,o_,o_,o_,o_,o_,o_,o_,o_,i_,i_,i_,o_,o_,o_,o_,o_,o_,o_,o_,o_,o_,o_,o_,o_,o_,o_,o_,o_,o_,o_,o_,o_,o_,o_,o_] T=slots 57 [(8,(.lptr ((I p1.1.1)::(.lst (p1.1.2.1.map I) p1.1.2.1.length .shared)::(I p1.1.2.2.1)::(I p1.1.2.2.2)::(.lst (p1.2.1.flatMap pr) p1.2.1.length .shared)::(.lst (p1.2.2.1.map I) p1.2.2.1.length .shared)::(p1.2.2.2.map I)))),(11,(.ref 1 0 (panels.length:Int).toNat (some (panels.length:Int).toNat) 1)),(30,(.lst (q1.1.flatMap E_turn) q1.1.length .shared)),(31,(I (q1.1.length:Int))),(32,(I s2))]) (h:x30_l3 panels p1 q1 kl3_0 FU s2 s3=some v) :
  wpR Tryz.prog ann30 30 0 none xrc30_18 T [o1,AObj.cells (s3.map I)] Q:=by
 unfold xrc30_18
 obtain ⟨c_8,g_8⟩:∃ c,xrc30_8=c:=⟨_,rfl⟩
 rw [g_8]
 refine wp_loop hT ?_
 refine .intro (fun m T H=>∃ (s2:Int) (s3:(List Int)) (Y30_1:List AObj),T=slots 57 [(8,(.lptr ((I p1.1.1)::(.lst (p1.1.2.1.map I) p1.1.2.1.length .shared)::(I p1.1.2.2.1)::(I p1.1.2.2.2)::(.lst (p1.2.1.flatMap pr) p1.2.1.length .shared)::(.lst (p1.2.2.1.map I) p1.2.2.1.length .shared)::(p1.2.2.2.map I)))),(11,(.ref 1 0 (panels.length:Int).toNat (some (panels.length:Int).toNat) 1)),(30,(.lst (q1.1.flatMap E_turn) q1.1.length .shared)),(31,(I (q1.1.length:Int))),(32,(I s2))]∧H=(o1::AObj.cells (s3.map I)::Y30_1)∧x30_l3 panels p1 q1 kl3_0 m s2 s3=some v) FU ⟨s2,s3,[],rfl,rfl,h⟩ ?_
 clear h hT
 rintro m T H ⟨s2,s3,Y30_1,rfl,rfl,h⟩
 cases m
 ·exact none_ne h
 rename_i m
 rw [x30_l3.eq_2] at h
 conv=>whnf
 subst g_8
 unfold xrc30_8
 obtain ⟨c_9,g_9⟩:∃ c,xrc30_9=c:=⟨_,rfl⟩
 rw [g_9]
 conv=>whnf
 rcases bt (decide (s2<(q1.1.length:Int))) with hb11 | hb11
 ·rw [hb11]
  conv=>whnf
  replace h:=it_t hb11 h
  subst g_9
  unfold xrc30_9
  obtain ⟨c_10,g_10⟩:∃ c,xrc30_10=c:=⟨_,rfl⟩
  rw [g_10]
  obtain ⟨c_11,g_11⟩:∃ c,xrc30_11=c:=⟨_,rfl⟩
  rw [g_11]
  conv=>whnf
  obtain ⟨hb12,h⟩:=gd_some h
  refine ⟨hb12,?_⟩
  rw [dropS E_turn 3 E_turn_len q1.1 s2 hb12]
  conv=>whnf
  refine nthK_of (x:=AObj.cells [(.lst [] 0 .full),(I (0:Int)),(I (0:Int))]) (by first | with_reducible exact get_concat _ _ | exact get_concat _ _ | exact ga (get_concat _ _) | rfl | (simp [List.getElem?_append,AV.settle];done)) ?_
  conv=>whnf
  rw [set_concat]
  subst g_11
  unfold xrc30_11
  obtain ⟨c_12,g_12⟩:∃ c,xrc30_12=c:=⟨_,rfl⟩
  rw [g_12]
  conv=>whnf
  refine nthK_of (x:=AObj.cells [(.lst (((ix q1.1 s2).1).map I) ((ix q1.1 s2).1).length .shared),(I (ix q1.1 s2).2.1),(I (ix q1.1 s2).2.2)]) (by first | with_reducible exact get_concat _ _ | exact get_concat _ _ | exact ga (get_concat _ _) | rfl | (simp [List.getElem?_append,AV.settle];done)) ?_
  conv=>whnf
  subst g_12
  unfold xrc30_12
  obtain ⟨c_17,g_17⟩:∃ c,xrc30_17=c:=⟨_,rfl⟩
  rw [g_17]
  conv=>whnf
  subst g_17
  refine x30_l4_ok ?_ (by exact rfl) h
  intro z1 u0 u1 u2 u3 u6 u7 u9 u10 u13 u14 u15 u16 u17 u18 u19 u20 u21 u22 u23 u24 u25 u26 u27 u28 u29 u33 u34 u35 u36 u37 u38 u39 u40 u41 u42 u43 u44 u45 u46 u47 u48 u49 u50 u51 u52 u53 u54 u55 u56 Yq h
  conv=>whnf
  subst g_10
  unfold xrc30_10
  skip
  conv=>whnf
  exact ⟨m,Nat.lt_succ_self m,(w (s2+(1:Int))),z1,_,rfl,rfl,h⟩
 ·rw [hb11]
  conv=>whnf
  replace h:=it_f hb11 h
  exact hkl3_0 _ _ _ _ _ _ _ _ _ _ _ _ _ _ _ _ _ _ _ _ _ _ _ _ _ _ _ _ _ _ _ _ _ _ _ _ _ _ _ _ _ _ _ _ _ _ _ _ _ _ _ _ _ _ _ h
theorem x30_ok {b:(Int×(List Int)×Int×Int)} {panels:(List (Int×Int))} {turns:(List (List Int))} {v:((List Int)×Int)} (h:x30 b panels turns=some v):PO 30 [(.agg [(I b.1),(.lst (b.2.1.map I) b.2.1.length .shared),(I b.2.2.1),(I b.2.2.2)]),(.lst (panels.flatMap pr) panels.length .shared),(.lst (turns.map L1) turns.length .shared)] (.tuple [(.lst (v.1.map I) v.1.length .shared),(I v.2)]):=by
 refine fn_pureW hmix lxx30 rfl (pu_tup (allc (pu_map (fun _=>rfl) _ _ _) (allc rfl rfl))) fun Q hQ=>?_
 have hR:∀ T H,RetW [.tmp 6,.tmp 7] (.tuple [(.lst (v.1.map I) v.1.length .shared),(I v.2)]) .ret T H→Q .ret T H:=fun T H hh=>hQ _ T H hh
 unfold x30 at h
 unfold xrc30
 obtain ⟨c_1,g_1⟩:∃ c,xrc30_1=c:=⟨_,rfl⟩
 rw [g_1]
 conv=>whnf
 subst g_1
 unfold xrc30_1
 obtain ⟨c_2,g_2⟩:∃ c,xrc30_2=c:=⟨_,rfl⟩
 rw [g_2]
 conv=>whnf
 obtain ⟨r1,hb1,h⟩:=bd_some h
 rcases r1 with ⟨_ | p1,q1⟩
 ·refine ⟨(allc (pu_agg (allc rfl (allc (pu_map (fun _=>rfl) _ _ _) (allc rfl (allc rfl rfl))))) (allc (pu_flat (fun _=>(allc rfl (allc rfl rfl))) _ _ _) (allc (pu_map (fun _=>(pu_map (fun _=>rfl) _ _ _)) _ _ _) rfl))),_,x65_ok hb1,?_⟩
  conv=>whnf
  subst g_2
  unfold xrc30_2
  obtain ⟨c_3,g_3⟩:∃ c,xrc30_3=c:=⟨_,rfl⟩
  rw [g_3]
  obtain ⟨c_4,g_4⟩:∃ c,xrc30_4=c:=⟨_,rfl⟩
  rw [g_4]
  conv=>whnf
  subst g_4
  unfold xrc30_4
  skip
  conv=>whnf
  rcases bt (decide (q1.2≠(0:Int))) with hb2 | hb2
  ·rw [hb2]
   conv=>whnf
   replace h:=it_t hb2 h
   obtain rfl:=Option.some.inj h
   exact hR _ _ ⟨.inr rfl,_,rfl,_,frz_pure (pu_tup (allc rfl (allc rfl rfl))),rfl⟩
  ·rw [hb2]
   conv=>whnf
   replace h:=it_f hb2 h
   subst g_3
   unfold xrc30_3
   obtain ⟨c_5,g_5⟩:∃ c,xrc30_5=c:=⟨_,rfl⟩
   rw [g_5]
   conv=>whnf
   obtain ⟨hb3,h⟩:=gd_some h
   refine ⟨hb3.1,hb3.2.1,hb3.2.2,?_⟩
   rw [replMap I (0:Int)]
   conv=>whnf
   subst g_5
   unfold xrc30_5
   obtain ⟨c_6,g_6⟩:∃ c,xrc30_6=c:=⟨_,rfl⟩
   rw [g_6]
   obtain ⟨c_7,g_7⟩:∃ c,xrc30_7=c:=⟨_,rfl⟩
   rw [g_7]
   conv=>whnf
   subst g_7
   unfold xrc30_7
   obtain ⟨c_18,g_18⟩:∃ c,xrc30_18=c:=⟨_,rfl⟩
   rw [g_18]
   conv=>whnf
   subst g_18
   refine x30_l1_ok ?_ (by exact rfl) h
   intro u0 u1 u2 u3 u6 u7 u8 u9 u10 u13 u14 u15 u16 u17 u18 u19 u20 u21 u22 u23 u24 u25 u26 u27 u28 u29 u30 u31 u32 u33 u34 u35 u36 u37 u38 u39 u40 u41 u42 u43 u44 u45 u46 u47 u48 u49 u50 u51 u52 u53 u54 u55 u56 Yq h
   conv=>whnf
   subst g_6
   unfold xrc30_6
   skip
   conv=>whnf
   obtain ⟨hb8,h⟩:=gd_some h
   obtain rfl:=Option.some.inj h
   exact hR _ _ ⟨.inr rfl,_,rfl,_,(frz_tup (mapO_cons' (frz_row (f:=I) (l:=(List.replicate (panels.length:Int).toNat (0:Int))) (by first | with_reducible exact get_concat _ _ | exact get_concat _ _ | exact ga (get_concat _ _) | rfl | (simp [List.getElem?_append,AV.settle];done)) hb8 (fun _=>rfl) (fun _=>rfl)) (mapO_cons' (frz_pure rfl) mapO_nil'))),by simp only [AV.settle,AV.view,AV.dim,List.map_cons,List.map_nil,dim0_frz];exact congrArg (fun n=>AV.tuple [AV.lst _ n .shared,_]) hb8⟩
 ·refine ⟨(allc (pu_agg (allc rfl (allc (pu_map (fun _=>rfl) _ _ _) (allc rfl (allc rfl rfl))))) (allc (pu_flat (fun _=>(allc rfl (allc rfl rfl))) _ _ _) (allc (pu_map (fun _=>(pu_map (fun _=>rfl) _ _ _)) _ _ _) rfl))),_,x65_ok hb1,?_⟩
  conv=>whnf
  subst g_2
  unfold xrc30_2
  obtain ⟨c_3,g_3⟩:∃ c,xrc30_3=c:=⟨_,rfl⟩
  rw [g_3]
  obtain ⟨c_4,g_4⟩:∃ c,xrc30_4=c:=⟨_,rfl⟩
  rw [g_4]
  conv=>whnf
  subst g_4
  unfold xrc30_4
  skip
  conv=>whnf
  rcases bt (decide (q1.2≠(0:Int))) with hb9 | hb9
  ·rw [hb9]
   conv=>whnf
   replace h:=it_t hb9 h
   obtain rfl:=Option.some.inj h
   exact hR _ _ ⟨.inr rfl,_,rfl,_,frz_pure (pu_tup (allc rfl (allc rfl rfl))),rfl⟩
  ·rw [hb9]
   conv=>whnf
   replace h:=it_f hb9 h
   subst g_3
   unfold xrc30_3
   obtain ⟨c_5,g_5⟩:∃ c,xrc30_5=c:=⟨_,rfl⟩
   rw [g_5]
   conv=>whnf
   obtain ⟨hb10,h⟩:=gd_some h
   refine ⟨hb10.1,hb10.2.1,hb10.2.2,?_⟩
   rw [replMap I (0:Int)]
   conv=>whnf
   subst g_5
   unfold xrc30_5
   obtain ⟨c_6,g_6⟩:∃ c,xrc30_6=c:=⟨_,rfl⟩
   rw [g_6]
   obtain ⟨c_7,g_7⟩:∃ c,xrc30_7=c:=⟨_,rfl⟩
   rw [g_7]
   conv=>whnf
   subst g_7
   unfold xrc30_7
   obtain ⟨c_18,g_18⟩:∃ c,xrc30_18=c:=⟨_,rfl⟩
   rw [g_18]
   conv=>whnf
   subst g_18
   refine x30_l3_ok ?_ (by exact rfl) h
   intro z2 u0 u1 u2 u3 u6 u7 u8 u9 u10 u13 u14 u15 u16 u17 u18 u19 u20 u21 u22 u23 u24 u25 u26 u27 u28 u29 u30 u31 u32 u33 u34 u35 u36 u37 u38 u39 u40 u41 u42 u43 u44 u45 u46 u47 u48 u49 u50 u51 u52 u53 u54 u55 u56 Yq h
   conv=>whnf
   subst g_6
   unfold xrc30_6
   skip
   conv=>whnf
   obtain ⟨hb17,h⟩:=gd_some h
   obtain rfl:=Option.some.inj h
   exact hR _ _ ⟨.inr rfl,_,rfl,_,(frz_tup (mapO_cons' (frz_row (f:=I) (l:=z2) (by first | with_reducible exact get_concat _ _ | exact get_concat _ _ | exact ga (get_concat _ _) | rfl | (simp [List.getElem?_append,AV.settle];done)) hb17 (fun _=>rfl) (fun _=>rfl)) (mapO_cons' (frz_pure rfl) mapO_nil'))),by simp only [AV.settle,AV.view,AV.dim,List.map_cons,List.map_nil,dim0_frz];exact congrArg (fun n=>AV.tuple [AV.lst _ n .shared,_]) hb17⟩

def x31_l2 (panels:(List (Int×Int))) (turns:(List (List Int))) (r2:(List Int)) (s1:Int) (kl2_0:(List Int)→Option ((List Int)×Int)):Nat→Int→(List Int)→Option ((List Int)×Int)
 | 0,_,_=>none
 | m+1,s3,s4 =>
   gd (0≤s1∧s1<(turns.length:Int)) <|
   if (decide (s3<((ix turns s1).length:Int)))=true then
    gd (0≤s1∧s1<(turns.length:Int)) <|
    gd (0≤s3∧s3<((ix turns s1).length:Int)) <|
    gd (0≤s3∧s3<(r2.length:Int)) <|
    gd (0≤(ix (ix turns s1) s3)∧(ix (ix turns s1) s3)<(((panels.length:Int).toNat:Nat):Int)∧(panels.length:Int).toNat=s4.length) <|
    x31_l2 panels turns r2 s1 kl2_0 m (w (s3+(1:Int))) (s4.set (ix (ix turns s1) s3).toNat (ix r2 s3))
   else
    kl2_0 s4
def x31_l1 (panels:(List (Int×Int))) (turns:(List (List Int))) (r2:(List Int)) (kl1_0:(List Int)→Option ((List Int)×Int)):Nat→Int→(List Int)→Option ((List Int)×Int)
 | 0,_,_=>none
 | m+1,s1,s2 =>
   if (decide (s1<(turns.length:Int)))=true then
    x31_l2 panels turns r2 s1 (fun z1 =>
      x31_l1 panels turns r2 kl1_0 m (w (s1+(1:Int))) z1) FU (0:Int) s2
   else
    kl1_0 s2
def x31 (b:(Int×(List Int)×Int×Int)) (panels:(List (Int×Int))) (turns:(List (List Int))):Option ((List Int)×Int) :=
 (x27 b panels turns).bind fun r1 =>
 if (decide (r1.2.2≠(0:Int)))=true then
  some ([],r1.2.2)
 else
  gd (0≤(panels.length:Int)∧(panels.length:Int)≤(panels.length:Int)∧(panels.length:Int).toNat*8≤140737488355328) <|
  (x51 b).bind fun r2 =>
  x31_l1 panels turns r2 (fun z2 =>
    gd ((panels.length:Int).toNat=z2.length) <|
    some (z2,(0:Int))) FU (0:Int) (List.replicate (panels.length:Int).toNat (0:Int))

def x4 (b:(Int×(List Int)×Int×Int)) (panels:(List (Int×Int))) (l:(List (List Int))):Option Bool :=
 (x16 b panels).bind fun r1 =>
 if r1=true then
  (x17).bind fun r2 =>
  some r2
 else
  (x25 l).bind fun r3 =>
  if r3=true then
   (x17).bind fun r4 =>
   some r4
  else
   (x26 b panels l).bind fun r5 =>
   (x27 b panels l).bind fun r6 =>
   (x28 b panels l).bind fun r7 =>
   (x29 b panels l).bind fun r8 =>
   (x30 b panels l).bind fun r9 =>
   (x31 b panels l).bind fun r10 =>
   if (decide (r5.1=r6.1))=true then
    if (decide (r5.2.1=r6.2.1))=true then
     if (decide (r5.2.2=r6.2.2))=true then
      (x32 r7.1 r8.1).bind fun r11 =>
      if r11=true then
       if (decide (r7.2=r8.2))=true then
        (x24 r9.1 r10.1).bind fun r12 =>
        if r12=true then
         if (decide (r9.2=r10.2))=true then
          (x17).bind fun r13 =>
          some r13
         else
          some false
        else
         some false
       else
        some false
      else
       some false
     else
      some false
    else
     some false
   else
    some false

def setAll (D t:List Int) (v:Int):List Int:=t.foldl (fun D x=>D.set x.toNat v) D
theorem setAll_snoc (D l:List Int) (x v:Int):setAll D (l++[x]) v=(setAll D l v).set x.toNat v:=by unfold setAll;rw [List.foldl_append];rfl
theorem setAll_len (v:Int):∀ (t D:List Int),(setAll D t v).length=D.length
 | [],_=>rfl
 | x::t,D=>by show (setAll (D.set x.toNat v) t v).length=_;rw [setAll_len v t,List.length_set]
def doneF (ps:List (Int×Int)) (c:Int):Int→Int→List (List Int)→List Int→List Int
 | _,_,[],D=>D
 | s,last,t::r,D=>doneF ps c (s+(c*max (last-heatT ps t) (heatT ps t-last)+hourT ps t)) (heatT ps t) r (setAll D t (s+(c*max (last-heatT ps t) (heatT ps t-last)+hourT ps t)))
theorem doneF_len (ps:List (Int×Int)) (c:Int):∀ (ts:List (List Int)) (s l:Int) (D:List Int),(doneF ps c s l ts D).length=D.length
 | [],_,_,_=>rfl
 | t::r,s,l,D=>by rw [doneF,doneF_len ps c r,setAll_len]
theorem x28_l4_eq {b:Bed} {ps:List (Int×Int)} {q1:List (List Int×Int×Int)×Int} {s6 s7:Int} {t:List Int} {hr fr v:Int} (ht:ix q1.1 s7=(t,hr,fr)) (hrn:∀ x∈t,0≤x∧x<(ps.length:Int)) (hl:t.length≤1000) (hv:w (s6+w (w (b.2.2.2*fr)+hr))=v) {D:List Int} (hD:D.length=ps.length) {k:List Int→Option (List Int×Int)}:∀ (m i:Nat) (z:Int),z=i→i≤t.length→t.length-i<m→x28_l4 b ps q1 s6 s7 k m z (setAll D (t.take i) v)=k (setAll D t v)
 | 0,i,_,_,_,h=>absurd h (by omega)
 | m+1,i,_,rfl,hi,hm=>by
   rw [x28_l4,ht]
   by_cases h:i<t.length
   ·have h1:=hrn _ (List.getElem_mem h)
    have ih:=x28_l4_eq (D:=D) (k:=k) ht hrn hl hv hD m (i+1) _ rfl (by omega) (by omega)
    rw [take_snoc h,setAll_snoc] at ih
    rw [iflt h,gdi h,ix_nat h,gd_pos ⟨h1.1,by omega,by rw [setAll_len];omega⟩,w_succ i (by omega),hv]
    exact ih
   ·obtain rfl:i=t.length:=by omega
    rw [ifge h,List.take_length]
theorem x28_l3_eq {b:Bed} {ps:List (Int×Int)} (hp:PsOk ps) (hc:0≤b.2.2.2∧b.2.2.2≤10) {R:List (List Int×Int×Int)} {e:Int} (hl:R.length≤1000) {k:List Int→Option (List Int×Int)}:∀ (ts:List (List Int)) (m i:Nat) (z s last:Int) (D:List Int),z=i→R.drop i=tRows ps last ts→R.length-i<m→(∀ t∈ts,0<t.length)→(∀ t∈ts,∀ x∈t,0≤x∧x<(ps.length:Int))→(∀ t∈ts,t.length≤1000)→0≤last∧last≤20→0≤s∧s≤1000*i→i≤R.length→D.length=ps.length→x28_l3 b ps (R,e) k m s z D=k (doneF ps b.2.2.2 s last ts D)
 | _,0,_,_,_,_,_,_,_,h,_,_,_,_,_,_,_=>absurd h (by omega)
 | [],m+1,i,_,s,last,D,rfl,hR,hm,_,_,_,_,_,hi,_=>by
   have h:¬ i<R.length:=fun h=>by rw [List.drop_eq_getElem_cons h,tRows] at hR;cases hR
   rw [x28_l3]
   show (if (decide ((i:Int)<(R.length:Int)))=true then _ else _)=_
   rw [ifge h];rfl
 | t::ts,m+1,i,_,s,last,D,rfl,hR,hm,h0,hrn,hlt,hla,hs,hi,hD=>by
   have h:i<R.length:=by
    rcases Nat.lt_or_ge i R.length with h | h
    ·exact h
    ·rw [List.drop_eq_nil_of_le h,tRows] at hR;cases hR
   rw [List.drop_eq_getElem_cons h,tRows] at hR
   obtain ⟨e1,e2⟩:=List.cons.inj hR
   have a0:=(List.forall_mem_cons.1 h0).1
   have ar:=(List.forall_mem_cons.1 hrn).1
   have al:=(List.forall_mem_cons.1 hlt).1
   have hh:=heatT_in hp a0 ar
   have hu:=hourT_in hp.hrs ar
   have hf:=farD_eq (a:=last) (b:=heatT ps t) (by omega) (by omega)
   rw [hf] at e1
   have hF:0≤max (last-heatT ps t) (heatT ps t-last)∧max (last-heatT ps t) (heatT ps t-last)≤20:=by omega
   have hix:ix (R,e).1 (i:Int)=(t,hourT ps t,max (last-heatT ps t) (heatT ps t-last)):=(ix_nat h).trans e1
   generalize hg:max (last-heatT ps t) (heatT ps t-last)=g at *
   have hcg:0≤b.2.2.2*g∧b.2.2.2*g≤200:=by
    refine ⟨Int.mul_nonneg hc.1 hF.1,?_⟩
    have:=Int.mul_le_mul hc.2 hF.2 hF.1 (by omega)
    omega
   have hv:w (s+w (w (b.2.2.2*g)+hourT ps t))=s+(b.2.2.2*g+hourT ps t):=by
    rw [w_id (n:=b.2.2.2*g) (by omega),w_id (n:=b.2.2.2*g+_) (by omega),w_id (by omega)]
   have e4:=x28_l4_eq (b:=b) (ps:=ps) (q1:=(R,e)) (s6:=s) hix ar al hv hD (k:=fun z3 =>
      x28_l3 b ps (R,e) k m (w (s+(w ((w (b.2.2.2*(ix (R,e).1 (i:Int)).2.2))+(ix (R,e).1 (i:Int)).2.1)))) (w ((i:Int)+(1:Int))) z3) FU 0 0 rfl (Nat.zero_le _) (FU_lt (by omega))
   rw [List.take_zero] at e4
   rw [x28_l3]
   show (if (decide ((i:Int)<(R.length:Int)))=true then gd (0≤(i:Int)∧(i:Int)<(R.length:Int)) (x28_l4 b ps (R,e) s (i:Int) _ FU 0 D) else _)=_
   rw [iflt h,gdi h]
   refine e4.trans ?_
   rw [hix]
   show x28_l3 b ps (R,e) k m (w (s+(w ((w (b.2.2.2*g))+hourT ps t)))) _ _=_
   rw [hv,w_succ i (by omega),doneF,hg]
   exact x28_l3_eq hp hc hl ts m (i+1) _ _ _ _ rfl e2 (by omega) (List.forall_mem_cons.1 h0).2 (List.forall_mem_cons.1 hrn).2 (List.forall_mem_cons.1 hlt).2 hh (by omega) (by omega) (by rw [setAll_len];exact hD)
def zeros (n:Nat):List Int:=List.replicate n 0
theorem x28_eq {b:Bed} (hb:bErr b=0) (hl:b.2.1.length≤20) {ps:List (Int×Int)} (hp:PsOk ps) {ts:List (List Int)} (hO:TOk (wn b) ps [] ts):x28 b ps ts=some (doneF ps b.2.2.2 0 b.2.2.1 ts (zeros ps.length),0):=by
 have hB:=bedOk hb
 have hpl:=hp.len
 have hT:=(tErr_iff _ [] nil_nodup).2 hO
 have hcn:=hO.cnt
 have e:=x28_l3_eq (R:=tRows ps b.2.2.1 ts) (e:=0) hp hB.c0 (by rw [tRows_len];omega) (k:=fun z4=>gd ((ps.length:Int).toNat=z4.length) <| some (z4,(0:Int))) ts FU 0 0 0 b.2.2.1 (zeros ps.length) rfl rfl (FU_lt (by rw [tRows_len];omega)) hO.ne hO.rng (fun t ht=>by have:=hO.one t ht;omega) hB.h0 (by omega) (Nat.zero_le _) (by simp [zeros])
 rw [x28,x65_eq hb hl hp (by omega) (fun t ht=>by have:=hO.one t ht;omega),Option.bind_some,if_pos hT]
 show (if (decide ((0:Int)≠0))=true then _ else gd (0≤(ps.length:Int)∧(ps.length:Int)≤(ps.length:Int)∧(ps.length:Int).toNat*8≤140737488355328) (x28_l3 b ps (tRows ps b.2.2.1 ts,0) _ FU 0 0 (List.replicate (ps.length:Int).toNat 0)))=_
 rw [if_neg (by decide),gd_pos ⟨by omega,by omega,by omega⟩]
 refine e.trans ?_
 rw [gd_pos (by rw [doneF_len];simp [zeros])]

def lieT (D t wl:List Int):Nat→List Int
 | 0=>D
 | i+1=>(lieT D t wl i).set (ix t (i:Int)).toNat (ix wl (i:Int))
theorem lieT_len (D t wl:List Int):∀ i,(lieT D t wl i).length=D.length
 | 0=>rfl
 | i+1=>by rw [lieT,List.length_set,lieT_len D t wl i]
def lieF (wl:List Int):List (List Int)→List Int→List Int
 | [],D=>D
 | t::r,D=>lieF wl r (lieT D t wl t.length)
theorem lieF_len (wl:List Int):∀ (ts:List (List Int)) (D:List Int),(lieF wl ts D).length=D.length
 | [],_=>rfl
 | t::r,D=>by rw [lieF,lieF_len wl r,lieT_len]
theorem x30_l4_eq {ps:List (Int×Int)} {p1:Bench} {q1:List (List Int×Int×Int)×Int} {s2:Int} {t:List Int} {y:Int×Int} (ht:ix q1.1 s2=(t,y)) (hrn:∀ x∈t,0≤x∧x<(ps.length:Int)) (hl:t.length≤1000) (hw:t.length≤p1.2.2.1.length) {D:List Int} (hD:D.length=ps.length) {k:List Int→Option (List Int×Int)}:∀ (m i:Nat) (z:Int),z=i→i≤t.length→t.length-i<m→x30_l4 ps p1 q1 s2 k m z (lieT D t p1.2.2.1 i)=k (lieT D t p1.2.2.1 t.length)
 | 0,i,_,_,_,h=>absurd h (by omega)
 | m+1,i,_,rfl,hi,hm=>by
   rw [x30_l4,ht]
   by_cases h:i<t.length
   ·have h1:=hrn _ (List.getElem_mem h)
    have ih:=x30_l4_eq (D:=D) (k:=k) ht hrn hl hw hD m (i+1) _ rfl (by omega) (by omega)
    rw [lieT,ix_nat h] at ih
    rw [iflt h,gdi h,gdi (show i<p1.2.2.1.length by omega),ix_nat h,gd_pos ⟨h1.1,by omega,by rw [lieT_len];omega⟩,w_succ i (by omega)]
    exact ih
   ·obtain rfl:i=t.length:=by omega
    rw [ifge h]
theorem x30_l3_eq {ps:List (Int×Int)} {p1:Bench} {R:List (List Int×Int×Int)} {e:Int} (hl:R.length≤1000) {k:List Int→Option (List Int×Int)}:∀ (ts:List (List Int)) (m i:Nat) (z last:Int) (D:List Int),z=i→R.drop i=tRows ps last ts→R.length-i<m→(∀ t∈ts,∀ x∈t,0≤x∧x<(ps.length:Int))→(∀ t∈ts,t.length≤1000)→(∀ t∈ts,t.length≤p1.2.2.1.length)→i≤R.length→D.length=ps.length→x30_l3 ps p1 (R,e) k m z D=k (lieF p1.2.2.1 ts D)
 | _,0,_,_,_,_,_,_,h,_,_,_,_,_=>absurd h (by omega)
 | [],m+1,i,_,last,D,rfl,hR,hm,_,_,_,hi,_=>by
   have h:¬ i<R.length:=fun h=>by rw [List.drop_eq_getElem_cons h,tRows] at hR;cases hR
   rw [x30_l3]
   show (if (decide ((i:Int)<(R.length:Int)))=true then _ else _)=_
   rw [ifge h];rfl
 | t::ts,m+1,i,_,last,D,rfl,hR,hm,hrn,hlt,hw,hi,hD=>by
   have h:i<R.length:=by
    rcases Nat.lt_or_ge i R.length with h | h
    ·exact h
    ·rw [List.drop_eq_nil_of_le h,tRows] at hR;cases hR
   rw [List.drop_eq_getElem_cons h,tRows] at hR
   obtain ⟨e1,e2⟩:=List.cons.inj hR
   have hix:ix (R,e).1 (i:Int)=(t,hourT ps t,farD last (heatT ps t)):=(ix_nat h).trans e1
   have e4:=fun k=>x30_l4_eq (q1:=(R,e)) (p1:=p1) (k:=k) hix (List.forall_mem_cons.1 hrn).1 (List.forall_mem_cons.1 hlt).1 (List.forall_mem_cons.1 hw).1 hD FU 0 0 rfl (Nat.zero_le _) (FU_lt (by have:=(List.forall_mem_cons.1 hlt).1;omega))
   rw [x30_l3]
   show (if (decide ((i:Int)<(R.length:Int)))=true then gd (0≤(i:Int)∧(i:Int)<(R.length:Int)) (x30_l4 ps p1 (R,e) (i:Int) _ FU 0 D) else _)=_
   rw [iflt h,gdi h]
   refine (e4 _).trans ?_
   rw [w_succ i (by omega),lieF]
   exact x30_l3_eq hl ts m (i+1) _ _ _ rfl e2 (by omega) (List.forall_mem_cons.1 hrn).2 (List.forall_mem_cons.1 hlt).2 (List.forall_mem_cons.1 hw).2 (by omega) (by rw [lieT_len];exact hD)
theorem x30_eq {b:Bed} (hb:bErr b=0) (hl:b.2.1.length≤20) {ps:List (Int×Int)} (hp:PsOk ps) {ts:List (List Int)} (hO:TOk (wn b) ps [] ts):x30 b ps ts=some (lieF (wholeL b.1.toNat b.2.1) ts (zeros ps.length),0):=by
 have hpl:=hp.len
 have hT:=(tErr_iff _ [] nil_nodup).2 hO
 have hcn:=hO.cnt
 have e:=x30_l3_eq (R:=tRows ps b.2.2.1 ts) (e:=0) (p1:=(b,ps,wholeL b.1.toNat b.2.1,wantL ps)) (by rw [tRows_len];omega) (k:=fun z4=>gd ((ps.length:Int).toNat=z4.length) <| some (z4,(0:Int))) ts FU 0 0 b.2.2.1 (zeros ps.length) rfl rfl (FU_lt (by rw [tRows_len];omega)) hO.rng (fun t ht=>by have:=hO.one t ht;omega) hO.len (Nat.zero_le _) (by simp [zeros])
 rw [x30,x65_eq hb hl hp (by omega) (fun t ht=>by have:=hO.one t ht;omega),Option.bind_some,if_pos hT]
 show (if (decide ((0:Int)≠0))=true then _ else gd (0≤(ps.length:Int)∧(ps.length:Int)≤(ps.length:Int)∧(ps.length:Int).toNat*8≤140737488355328) (x30_l3 ps (b,ps,wholeL b.1.toNat b.2.1,wantL ps) (tRows ps b.2.2.1 ts,0) _ FU 0 (List.replicate (ps.length:Int).toNat 0)))=_
 rw [if_neg (by decide),gd_pos ⟨by omega,by omega,by omega⟩]
 refine e.trans ?_
 rw [gd_pos (by rw [lieF_len];simp [zeros])]

noncomputable def xrc14_2:RC :=
 .cond (.sl 29) (.seq (.reg false [I_ 30 [.cv (.func 17 [] [])] (.call 3),I_ 6 [.tk 30] .mv]) .ret) .skip
noncomputable def xrc14_8:RC :=
 .cond (.sl 96) (.seq (.reg false [I_ 6 [.cv (.bool false)] .mv]) .ret) .skip
noncomputable def xrc14_15:RC :=
 .cond (.sl 139) (.seq (.reg false [I_ 6 [.cv (.bool false)] .mv]) .ret) .skip
noncomputable def xrc14_14:RC :=
 .seq (.reg true [I_ 109 [.sl 11] .mv,I_ 110 [.sl 18] .mv,I_ 111 [.tv 109,.tv 110] (.ia 1),I_ 112 [.tv 111] (.ld .one),I_ 113 [.sl 1] .mv,I_ 114 [.sl 18] .mv,I_ 115 [.tv 113,.tv 114] (.ia 2),I_ 116 [.tv 115] (.fa 1),I_
 117 [.tv 116] (.ld .one),I_ 118 [.sl 3] (.fa 3),I_ 119 [.tv 118] (.ld .one),I_ 120 [.sl 3] (.fa 2),I_ 121 [.tv 120] (.ld .one),I_ 122 [.sl 1] .mv,I_ 123 [.sl 18] .mv,I_ 124 [.tv 122,.tv 123] (.ia 2),I_ 125 [.tv 124]
 (.fa 0),I_ 126 [.tv 125] (.ld .one),I_ 127 [.cv (.func 52 [] []),.sl 121,.sl 126] (.call 3),I_ 128 [.tv 119,.tv 127] (.bin .mul),I_ 129 [.tv 117,.tv 128] (.bin .add),I_ 130 [.tv 112,.tv 129] (.bin .lss),I_ 131 [.tk
 130] .mv,⟨some 132,[.sl 15],some (131,false),none,.mv⟩,⟨some 133,[.sl 13],some (131,false),none,.mv⟩,⟨some 134,[.sl 18],some (131,false),none,.mv⟩,⟨some 135,[.tv 133,.tv 134],some (131,false),none,.ia
 1⟩,⟨some 136,[.tv 135],some (131,false),none,.ld .one⟩,⟨some 137,[.cv (.func 53 [] []),.sl 132,.sl 136],some (131,false),none,.call 3⟩,⟨some 138,[.tv 137],some (131,false),none,.un .not⟩,I_ 139 [.sl 131,
 .cv (.bool true),.tv 138] .pick]) xrc14_15
noncomputable def xrc14_13:RC :=
 .reg false [I_ 101 [.tk 18] .mv,I_ 102 [.tv 101,.cv (.int .i64 1)] (.bin .add),I_ 18 [.tk 102] .mv]
noncomputable def xrc14_12:RC :=
 .seq (.block 1 (.seq (.reg false [I_ 103 [.tk 17] .mv,I_ 104 [.sl 11] .mv,I_ 105 [.sl 18] .mv,I_ 106 [.tv 104,.tv 105] (.ia 1),I_ 107 [.tv 106] (.ld .one),I_ 108 [.tk 103,.tk 107] .max,I_ 17 [.tk 108] .mv]) xrc14_14))
 xrc14_13
noncomputable def xrc14_16:RC :=
 .loop (some [o_,i_,o_,i_,o_,o_,o_,i_,i_,i_,o_,i_,o_,i_,o_,i_,o_,i_,i_,o_,o_,o_,o_,o_,o_,o_,o_,o_,o_,o_,o_,o_,o_,o_,o_,o_,o_,o_,o_,o_,o_,o_,o_,o_,o_,o_,o_,o_,o_,o_,o_,o_,o_,o_,o_,o_,o_,o_,o_,o_,o_,o_,o_,o_,o_,o_,o_,o_,o_,o_,o_,o_,o_,o_,o_,o_,o_,o_,o_,o_,o_,o_,o_,o_,o_,o_,o_,o_,o_,o_,o_,o_,o_,o_,o_,o_,o_,o_,o_,o_,o_,o_,o_,o_,o_,o_,o_,o_,o_,o_,o_,o_,o_,o_,o_,o_,o_,o_,o_,o_,o_,o_,o_,o_,o_,o_,o_,o_,o_,o_,o_,o_,o_,o_,o_,o_,o_,o_,o_,o_,o_,o_,o_,o_,o_,o_,o_,o_,o_,o_,o_,o_,o_,o_,o_,o_,o_,o_,o_,o_,o_,o_,o_,o_,o_,o_,o_,o_,o_,o_,o_,o_,o_,o_,o_,o_,o_,o_,o_,o_,o_,o_,o_,o_,o_,o_,o_,o_,o_,o_,o_,o_,o_,o_,o_,o_,o_,o_,o_,o_,o_,o_,o_,o_,o_,o_,o_,o_,o_,o_,o_,o_,o_,o_,o_,o_,o_,o_,o_,o_,o_,o_,o_,o_,o_,o_,o_,o_,o_,o_,o_,o_,o_,o_,o_,o_,o_,o_,o_]) (.seq (.seq (.reg false [I_ 97 [.sl 18] .mv,I_ 98 [.sl 1] .mv,I_ 99 [.tk 98] .lenS,I_ 100 [.tv 97,.tv 99] (.bin
 .lss)]) (.cond (.sl 100) .skip (.exit 0))) xrc14_12)
noncomputable def xrc14_11:RC :=
 .block 0 xrc14_16
noncomputable def xrc14_25:RC :=
 .cond (.sl 198) (.seq (.reg false [I_ 6 [.cv (.bool false)] .mv]) .ret) .skip
noncomputable def xrc14_24:RC :=
 .reg false [I_ 153 [.tk 20] .mv,I_ 154 [.tv 153,.cv (.int .i64 1)] (.bin .add),I_ 20 [.tk 154] .mv]
noncomputable def xrc14_23:RC :=
 .seq (.block 5 (.seq (.reg true [I_ 155 [.sl 11] .mv,I_ 156 [.sl 7] .mv,I_ 157 [.sl 19] .mv,I_ 158 [.tv 156,.tv 157] (.ia 1),I_ 159 [.tv 158] (.ld .one),I_ 160 [.sl 20] .mv,I_ 161 [.tv 159,.tv 160] (.ia 1),I_ 162 [.tv
 161] (.ld .one),I_ 163 [.tv 155,.tv 162] (.ia 1),I_ 164 [.tv 163] (.ld .one),I_ 165 [.sl 11] .mv,I_ 166 [.sl 7] .mv,I_ 167 [.sl 19] .mv,I_ 168 [.tv 166,.tv 167] (.ia 1),I_ 169 [.tv 168] (.ld .one),I_ 170 [.tv 169,.cv
 (.int .i64 0)] (.ia 1),I_ 171 [.tv 170] (.ld .one),I_ 172 [.tv 165,.tv 171] (.ia 1),I_ 173 [.tv 172] (.ld .one),I_ 174 [.tv 164,.tv 173] (.bin .neq),I_ 175 [.tk 174] .mv,⟨some 176,[.sl 13],some (175,false),none,
 .mv⟩,⟨some 177,[.sl 7],some (175,false),none,.mv⟩,⟨some 178,[.sl 19],some (175,false),none,.mv⟩,⟨some 179,[.tv 177,.tv 178],some (175,false),none,.ia 1⟩,⟨some 180,[.tv 179],some (175,false),none,.ld
 .one⟩,⟨some 181,[.sl 20],some (175,false),none,.mv⟩,⟨some 182,[.tv 180,.tv 181],some (175,false),none,.ia 1⟩,⟨some 183,[.tv 182],some (175,false),none,.ld .one⟩,⟨some 184,[.tv 176,.tv 183],some (175,
 false),none,.ia 1⟩,⟨some 185,[.tv 184],some (175,false),none,.ld .one⟩,⟨some 186,[.sl 13],some (175,false),none,.mv⟩,⟨some 187,[.sl 7],some (175,false),none,.mv⟩,⟨some 188,[.sl 19],some (175,false),
 none,.mv⟩,⟨some 189,[.tv 187,.tv 188],some (175,false),none,.ia 1⟩,⟨some 190,[.tv 189],some (175,false),none,.ld .one⟩,⟨some 191,[.sl 20],some (175,false),none,.mv⟩,⟨some 192,[.tv 191,.cv (.int .i64 1)],
 some (175,false),none,.bin .sub⟩,⟨some 193,[.tv 190,.tv 192],some (175,false),none,.ia 1⟩,⟨some 194,[.tv 193],some (175,false),none,.ld .one⟩,⟨some 195,[.tv 186,.tv 194],some (175,false),none,.ia 1⟩,
 ⟨some 196,[.tv 195],some (175,false),none,.ld .one⟩,⟨some 197,[.tv 185,.tv 196],some (175,false),none,.bin .leq⟩,I_ 198 [.sl 175,.cv (.bool true),.tv 197] .pick]) xrc14_25)) xrc14_24
noncomputable def xrc14_26:RC :=
 .loop (some [o_,i_,o_,i_,o_,o_,o_,i_,i_,i_,o_,i_,o_,i_,o_,o_,o_,i_,o_,i_,i_,o_,o_,o_,o_,o_,o_,o_,o_,o_,o_,o_,o_,o_,o_,o_,o_,o_,o_,o_,o_,o_,o_,o_,o_,o_,o_,o_,o_,o_,o_,o_,o_,o_,o_,o_,o_,o_,o_,o_,o_,o_,o_,o_,o_,o_,o_,o_,o_,o_,o_,o_,o_,o_,o_,o_,o_,o_,o_,o_,o_,o_,o_,o_,o_,o_,o_,o_,o_,o_,o_,o_,o_,o_,o_,o_,o_,o_,o_,o_,o_,o_,o_,o_,o_,o_,o_,o_,o_,o_,o_,o_,o_,o_,o_,o_,o_,o_,o_,o_,o_,o_,o_,o_,o_,o_,o_,o_,o_,o_,o_,o_,o_,o_,o_,o_,o_,o_,o_,o_,o_,o_,o_,o_,o_,o_,o_,o_,o_,o_,o_,o_,o_,o_,o_,o_,o_,o_,o_,o_,o_,o_,o_,o_,o_,o_,o_,o_,o_,o_,o_,o_,o_,o_,o_,o_,o_,o_,o_,o_,o_,o_,o_,o_,o_,o_,o_,o_,o_,o_,o_,o_,o_,o_,o_,o_,o_,o_,o_,o_,o_,o_,o_,o_,o_,o_,o_,o_,o_,o_,o_,o_,o_,o_,o_,o_,o_,o_,o_,o_,o_,o_,o_,o_,o_,o_,o_,o_,o_,o_,o_,o_,o_,o_,o_,o_,o_,o_,o_]) (.seq (.seq (.reg false [I_ 146 [.sl 20] .mv,I_ 147 [.sl 7] .mv,I_ 148 [.sl 19] .mv,I_ 149 [.tv 147,.tv 148] (.ia 1),
 I_ 150 [.tv 149] (.ld .one),I_ 151 [.tk 150] .lenS,I_ 152 [.tv 146,.tv 151] (.bin .lss)]) (.cond (.sl 152) .skip (.exit 4))) xrc14_23)
noncomputable def xrc14_22:RC :=
 .block 4 xrc14_26
noncomputable def xrc14_27:RC :=
 .cond (.sl 222) (.seq (.reg false [I_ 6 [.cv (.bool false)] .mv]) .ret) .skip
noncomputable def xrc14_21:RC :=
 .seq (.reg true [I_ 199 [.sl 19] .mv,I_ 200 [.tv 199,.cv (.int .i64 0)] (.bin .gtr),I_ 201 [.tk 200] .mv,⟨some 202,[.sl 11],some (201,true),none,.mv⟩,⟨some 203,[.sl 7],some (201,true),none,.mv⟩,⟨some 204,[.sl
 19],some (201,true),none,.mv⟩,⟨some 205,[.tv 203,.tv 204],some (201,true),none,.ia 1⟩,⟨some 206,[.tv 205],some (201,true),none,.ld .one⟩,⟨some 207,[.tv 206,.cv (.int .i64 0)],some (201,true),none,.ia 1⟩,
 ⟨some 208,[.tv 207],some (201,true),none,.ld .one⟩,⟨some 209,[.tv 202,.tv 208],some (201,true),none,.ia 1⟩,⟨some 210,[.tv 209],some (201,true),none,.ld .one⟩,⟨some 211,[.sl 11],some (201,true),none,.mv⟩,
 ⟨some 212,[.sl 7],some (201,true),none,.mv⟩,⟨some 213,[.sl 19],some (201,true),none,.mv⟩,⟨some 214,[.tv 213,.cv (.int .i64 1)],some (201,true),none,.bin .sub⟩,⟨some 215,[.tv 212,.tv 214],some (201,true),
 none,.ia 1⟩,⟨some 216,[.tv 215],some (201,true),none,.ld .one⟩,⟨some 217,[.tv 216,.cv (.int .i64 0)],some (201,true),none,.ia 1⟩,⟨some 218,[.tv 217],some (201,true),none,.ld .one⟩,⟨some 219,[.tv 211,.tv
 218],some (201,true),none,.ia 1⟩,⟨some 220,[.tv 219],some (201,true),none,.ld .one⟩,⟨some 221,[.tv 210,.tv 220],some (201,true),none,.bin .leq⟩,I_ 222 [.sl 201,.tv 221,.cv (.bool false)] .pick]) xrc14_27
noncomputable def xrc14_20:RC :=
 .reg false [I_ 144 [.tk 19] .mv,I_ 145 [.tv 144,.cv (.int .i64 1)] (.bin .add),I_ 19 [.tk 145] .mv]
noncomputable def xrc14_19:RC :=
 .seq (.block 3 (.seq (.seq (.reg false [I_ 20 [.cv (.int .i64 1)] .mv]) xrc14_22) xrc14_21)) xrc14_20
noncomputable def xrc14_28:RC :=
 .loop (some [o_,i_,o_,i_,o_,o_,o_,i_,i_,i_,o_,i_,o_,i_,o_,o_,o_,i_,o_,i_,o_,o_,o_,o_,o_,o_,o_,o_,o_,o_,o_,o_,o_,o_,o_,o_,o_,o_,o_,o_,o_,o_,o_,o_,o_,o_,o_,o_,o_,o_,o_,o_,o_,o_,o_,o_,o_,o_,o_,o_,o_,o_,o_,o_,o_,o_,o_,o_,o_,o_,o_,o_,o_,o_,o_,o_,o_,o_,o_,o_,o_,o_,o_,o_,o_,o_,o_,o_,o_,o_,o_,o_,o_,o_,o_,o_,o_,o_,o_,o_,o_,o_,o_,o_,o_,o_,o_,o_,o_,o_,o_,o_,o_,o_,o_,o_,o_,o_,o_,o_,o_,o_,o_,o_,o_,o_,o_,o_,o_,o_,o_,o_,o_,o_,o_,o_,o_,o_,o_,o_,o_,o_,o_,o_,o_,o_,o_,o_,o_,o_,o_,o_,o_,o_,o_,o_,o_,o_,o_,o_,o_,o_,o_,o_,o_,o_,o_,o_,o_,o_,o_,o_,o_,o_,o_,o_,o_,o_,o_,o_,o_,o_,o_,o_,o_,o_,o_,o_,o_,o_,o_,o_,o_,o_,o_,o_,o_,o_,o_,o_,o_,o_,o_,o_,o_,o_,o_,o_,o_,o_,o_,o_,o_,o_,o_,o_,o_,o_,o_,o_,o_,o_,o_,o_,o_,o_,o_,o_,o_,o_,o_,o_,o_,o_,o_,o_,o_,o_,o_]) (.seq (.seq (.reg false [I_ 140 [.sl 19] .mv,I_ 141 [.sl 7] .mv,I_ 142 [.tk 141] .lenS,I_ 143 [.tv 140,.tv 142] (.bin
 .lss)]) (.cond (.sl 143) .skip (.exit 2))) xrc14_19)
noncomputable def xrc14_18:RC :=
 .block 2 xrc14_28
noncomputable def xrc14_17:RC :=
 .seq (.reg false [I_ 223 [.tk 1] .mv,I_ 224 [.tk 223] .lenS,I_ 225 [.tv 224,.cv (.int .i64 0)] (.bin .eql),I_ 226 [.tk 225] .mv,⟨some 227,[.tk 17],some (226,false),none,.mv⟩,⟨some 228,[.tk 8],some (226,false),none,
 .mv⟩,⟨some 229,[.tv 3],some (226,false),none,.fa 3⟩,⟨some 230,[.tv 229],some (226,false),none,.ld .one⟩,⟨some 231,[.tk 9],some (226,false),none,.mv⟩,⟨some 232,[.tv 230,.tv 231],some (226,false),none,
 .bin .mul⟩,⟨some 233,[.tv 228,.tv 232],some (226,false),none,.bin .add⟩,⟨some 234,[.tv 227,.tv 233],some (226,false),none,.bin .eql⟩,I_ 235 [.tv 226,.cv (.bool true),.tv 234] .pick,I_ 236 [.tk 235] .mv,⟨some
 237,[.cv (.func 17 [] [])],some (236,true),none,.call 3⟩,I_ 238 [.tv 236,.tv 237,.cv (.bool false)] .pick,I_ 6 [.tk 238] .mv]) .ret
noncomputable def xrc14_10:RC :=
 .seq (.seq (.reg false [I_ 19 [.cv (.int .i64 0)] .mv]) xrc14_18) xrc14_17
noncomputable def xrc14_9:RC :=
 .seq (.seq (.reg false [I_ 18 [.cv (.int .i64 0)] .mv]) xrc14_11) xrc14_10
noncomputable def xrc14_7:RC :=
 .seq (.seq (.reg false [I_ 62 [.tk 10] .mv,I_ 63 [.tv 62,.cv (.int .i64 0)] (.bin .neq),I_ 64 [.tk 63] .mv,⟨some 65,[.tk 12],some (64,false),none,.mv⟩,⟨some 66,[.tv 65,.cv (.int .i64 0)],some (64,false),none,.bin
 .neq⟩,I_ 67 [.tv 64,.cv (.bool true),.tv 66] .pick,I_ 68 [.tk 67] .mv,⟨some 69,[.tk 14],some (68,false),none,.mv⟩,⟨some 70,[.tv 69,.cv (.int .i64 0)],some (68,false),none,.bin .neq⟩,I_ 71 [.tv 68,.cv (.bool
 true),.tv 70] .pick,I_ 72 [.tk 71] .mv,⟨some 73,[.sl 11],some (72,false),none,.mv⟩,⟨some 74,[.tk 73],some (72,false),none,.lenS⟩,⟨some 75,[.sl 1],some (72,false),none,.mv⟩,⟨some 76,[.tk 75],some (72,
 false),none,.lenS⟩,⟨some 77,[.tv 74,.tv 76],some (72,false),none,.bin .neq⟩,I_ 78 [.tv 72,.cv (.bool true),.tv 77] .pick,I_ 79 [.tk 78] .mv,⟨some 80,[.sl 13],some (79,false),none,.mv⟩,⟨some 81,[.tk 80],
 some (79,false),none,.lenS⟩,⟨some 82,[.sl 1],some (79,false),none,.mv⟩,⟨some 83,[.tk 82],some (79,false),none,.lenS⟩,⟨some 84,[.tv 81,.tv 83],some (79,false),none,.bin .neq⟩,I_ 85 [.tv 79,.cv (.bool
 true),.tv 84] .pick,I_ 86 [.tk 85] .mv,⟨some 87,[.tk 16],some (86,false),none,.mv⟩,⟨some 88,[.tv 87,.cv (.int .i64 0)],some (86,false),none,.bin .neq⟩,I_ 89 [.tv 86,.cv (.bool true),.tv 88] .pick,I_ 90 [.tk
 89] .mv,⟨some 91,[.sl 15],some (90,false),none,.mv⟩,⟨some 92,[.sl 3],some (90,false),none,.ld (.str 4)⟩,⟨some 93,[.cv (.func 51 [] []),.sl 92],some (90,false),none,.call 3⟩,⟨some 94,[.cv (.func 24 [] []),
 .sl 91,.sl 93],some (90,false),none,.call 3⟩,⟨some 95,[.tv 94],some (90,false),none,.un .not⟩,I_ 96 [.tv 90,.cv (.bool true),.tv 95] .pick]) xrc14_8) (.seq (.reg false [I_ 17 [.cv (.int .i64 0)] .mv]) xrc14_9)
noncomputable def xrc14_6:RC :=
 .seq (.reg false [I_ 58 [.sl 3] (.ld (.str 4)),I_ 59 [.cv (.func 18 [] []),.sl 58] (.call 3),I_ 57 [.tk 59] .mv,I_ 60 [.sl 57] (.ext 0),I_ 61 [.tv 57] (.ext 1),I_ 15 [.tk 60] .mv,I_ 16 [.tk 61] .mv]) xrc14_7
noncomputable def xrc14_5:RC :=
 .seq (.reg false [I_ 51 [.sl 3] (.ld (.str 4)),I_ 52 [.sl 1] .mv,I_ 53 [.sl 7] .mv,I_ 54 [.cv (.func 30 [] []),.sl 51,.sl 52,.sl 53] (.call 3),I_ 50 [.tk 54] .mv,I_ 55 [.sl 50] (.ext 0),I_ 56 [.tv 50] (.ext 1),I_ 13
 [.tk 55] .mv,I_ 14 [.tk 56] .mv]) xrc14_6
noncomputable def xrc14_4:RC :=
 .seq (.reg false [I_ 44 [.sl 3] (.ld (.str 4)),I_ 45 [.sl 1] .mv,I_ 46 [.sl 7] .mv,I_ 47 [.cv (.func 28 [] []),.sl 44,.sl 45,.sl 46] (.call 3),I_ 43 [.tk 47] .mv,I_ 48 [.sl 43] (.ext 0),I_ 49 [.tv 43] (.ext 1),I_ 11
 [.tk 48] .mv,I_ 12 [.tk 49] .mv]) xrc14_5
noncomputable def xrc14_3:RC :=
 .seq (.reg false [I_ 36 [.sl 3] (.ld (.str 4)),I_ 37 [.sl 1] .mv,I_ 38 [.sl 7] .mv,I_ 39 [.cv (.func 26 [] []),.sl 36,.sl 37,.sl 38] (.call 3),I_ 35 [.tk 39] .mv,I_ 40 [.sl 35] (.ext 0),I_ 41 [.sl 35] (.ext 1),I_ 42
 [.tv 35] (.ext 2),I_ 8 [.tk 40] .mv,I_ 9 [.tk 41] .mv,I_ 10 [.tk 42] .mv]) xrc14_4
noncomputable def xrc14_1:RC :=
 .seq (.seq (.reg false [I_ 21 [.sl 3] (.ld (.str 4)),I_ 22 [.sl 1] .mv,I_ 23 [.cv (.func 45 [] []),.sl 21,.sl 22] (.call 3),I_ 24 [.tv 23] (.un .not),I_ 25 [.tk 24] .mv,⟨some 26,[.sl 2],some (25,false),none,.mv⟩,
 ⟨some 27,[.tk 26],some (25,false),none,.lenS⟩,⟨some 28,[.tv 27,.cv (.int .i64 20)],some (25,false),none,.bin .gtr⟩,I_ 29 [.tv 25,.cv (.bool true),.tv 28] .pick]) xrc14_2) (.seq (.reg false [I_ 31 [.sl 3] (.ld
 (.str 4)),I_ 32 [.sl 1] .mv,I_ 33 [.tk 2] .mv,I_ 34 [.cv (.func 47 [] []),.sl 31,.sl 32,.sl 33] (.call 3),I_ 7 [.tk 34] .mv]) xrc14_3)
noncomputable def xrc14:RC :=
 .seq (.reg false [I_ 3 [.tk 0] .box,I_ 6 [.cv (.bool false)] .mv]) xrc14_1
theorem lxx14:linkF Tryz.prog ann14 14=some (xrc14,239,[.tmp 6]):=by kernel_rfl
def x14_l1 (b:(Int×(List Int)×Int×Int)) (panels:(List (Int×Int))) (r5:((List Int)×Int)) (r6:((List Int)×Int)) (r7:((List Int)×Int)) (kl1_0:Int→Option Bool):Nat→Int→Int→Option Bool
 | 0,_,_=>none
 | m+1,s1,s2 =>
   if (decide (s2<(panels.length:Int)))=true then
    gd (0≤s2∧s2<(r5.1.length:Int)) <|
    gd (0≤s2∧s2<(r5.1.length:Int)) <|
    gd (0≤s2∧s2<(panels.length:Int)) <|
    gd (0≤s2∧s2<(panels.length:Int)) <|
    (x52 b.2.2.1 ((ix panels s2).1)).bind fun r10 =>
    if (decide ((ix r5.1 s2)<(w ((ix panels s2).2+(w (b.2.2.2*r10))))))=true then
     some false
    else
     gd (0≤s2∧s2<(r6.1.length:Int)) <|
     (x53 r7.1 (ix r6.1 s2)).bind fun r11 =>
     if r11=true then
      x14_l1 b panels r5 r6 r7 kl1_0 m (max s1 (ix r5.1 s2)) (w (s2+(1:Int)))
     else
      some false
   else
    kl1_0 s1
def x14_l3 (r3:(List (List Int))) (r5:((List Int)×Int)) (r6:((List Int)×Int)) (s3:Int) (kl3_0:Unit→Option Bool):Nat→Int→Option Bool
 | 0,_=>none
 | m+1,s4 =>
   gd (0≤s3∧s3<(r3.length:Int)) <|
   if (decide (s4<((ix r3 s3).length:Int)))=true then
    gd (0≤s3∧s3<(r3.length:Int)) <|
    gd (0≤s4∧s4<((ix r3 s3).length:Int)) <|
    gd (0≤(ix (ix r3 s3) s4)∧(ix (ix r3 s3) s4)<(r5.1.length:Int)) <|
    gd (0≤s3∧s3<(r3.length:Int)) <|
    gd (0≤(0:Int)∧(0:Int)<((ix r3 s3).length:Int)) <|
    gd (0≤(ix (ix r3 s3) (0:Int))∧(ix (ix r3 s3) (0:Int))<(r5.1.length:Int)) <|
    if (decide ((ix r5.1 (ix (ix r3 s3) s4))≠(ix r5.1 (ix (ix r3 s3) (0:Int)))))=true then
     some false
    else
     gd (0≤s3∧s3<(r3.length:Int)) <|
     gd (0≤s4∧s4<((ix r3 s3).length:Int)) <|
     gd (0≤(ix (ix r3 s3) s4)∧(ix (ix r3 s3) s4)<(r6.1.length:Int)) <|
     gd (0≤s3∧s3<(r3.length:Int)) <|
     gd (0≤(w (s4-(1:Int)))∧(w (s4-(1:Int)))<((ix r3 s3).length:Int)) <|
     gd (0≤(ix (ix r3 s3) (w (s4-(1:Int))))∧(ix (ix r3 s3) (w (s4-(1:Int))))<(r6.1.length:Int)) <|
     if (decide ((ix r6.1 (ix (ix r3 s3) s4))≤(ix r6.1 (ix (ix r3 s3) (w (s4-(1:Int)))))))=true then
      some false
     else
      x14_l3 r3 r5 r6 s3 kl3_0 m (w (s4+(1:Int)))
   else
    kl3_0 ()
def x14_l2 (r3:(List (List Int))) (r5:((List Int)×Int)) (r6:((List Int)×Int)) (kl2_0:Unit→Option Bool):Nat→Int→Option Bool
 | 0,_=>none
 | m+1,s3 =>
   if (decide (s3<(r3.length:Int)))=true then
    x14_l3 r3 r5 r6 s3 (fun _ =>
      if (decide ((0:Int)<s3))=true then
       gd (0≤s3∧s3<(r3.length:Int)) <|
       gd (0≤(0:Int)∧(0:Int)<((ix r3 s3).length:Int)) <|
       gd (0≤(ix (ix r3 s3) (0:Int))∧(ix (ix r3 s3) (0:Int))<(r5.1.length:Int)) <|
       gd (0≤(w (s3-(1:Int)))∧(w (s3-(1:Int)))<(r3.length:Int)) <|
       gd (0≤(0:Int)∧(0:Int)<((ix r3 (w (s3-(1:Int)))).length:Int)) <|
       gd (0≤(ix (ix r3 (w (s3-(1:Int)))) (0:Int))∧(ix (ix r3 (w (s3-(1:Int)))) (0:Int))<(r5.1.length:Int)) <|
       if (decide ((ix r5.1 (ix (ix r3 s3) (0:Int)))≤(ix r5.1 (ix (ix r3 (w (s3-(1:Int)))) (0:Int)))))=true then
        some false
       else
        x14_l2 r3 r5 r6 kl2_0 m (w (s3+(1:Int)))
      else
       x14_l2 r3 r5 r6 kl2_0 m (w (s3+(1:Int)))) FU (1:Int)
   else
    kl2_0 ()
def x14 (b:(Int×(List Int)×Int×Int)) (panels:(List (Int×Int))) (byq:(List Int)):Option Bool :=
 (x45 b panels).bind fun r1 =>
 if r1=true then
  if (decide ((20:Int)<(byq.length:Int)))=true then
   (x17).bind fun r2 =>
   some r2
  else
   (x47 b panels byq).bind fun r3 =>
   (x26 b panels r3).bind fun r4 =>
   (x28 b panels r3).bind fun r5 =>
   (x30 b panels r3).bind fun r6 =>
   (x18 b).bind fun r7 =>
   if (decide (r4.2.2≠(0:Int)))=true then
    some false
   else
    if (decide (r5.2≠(0:Int)))=true then
     some false
    else
     if (decide (r6.2≠(0:Int)))=true then
      some false
     else
      if (decide ((r5.1.length:Int)≠(panels.length:Int)))=true then
       some false
      else
       if (decide ((r6.1.length:Int)≠(panels.length:Int)))=true then
        some false
       else
        if (decide (r7.2≠(0:Int)))=true then
         some false
        else
         (x51 b).bind fun r8 =>
         (x24 r7.1 r8).bind fun r9 =>
         if r9=true then
          x14_l1 b panels r5 r6 r7 (fun z1 =>
            x14_l2 r3 r5 r6 (fun _ =>
              if (decide ((panels.length:Int)=(0:Int)))=true then
               (x17).bind fun r12 =>
               some r12
              else
               if (decide (z1=(w (r4.1+(w (b.2.2.2*r4.2.1))))))=true then
                (x17).bind fun r13 =>
                some r13
               else
                some false) FU (0:Int)) FU (0:Int) (0:Int)
         else
          some false
 else
  (x17).bind fun r14 =>
  some r14
theorem x14_l1_ok {b:(Int×(List Int)×Int×Int)} {panels:(List (Int×Int))} {r5:((List Int)×Int)} {r6:((List Int)×Int)} {r7:((List Int)×Int)} {kl1_0:Int→Option Bool} {s1:Int} {s2:Int} {r3:(List (List Int))} {r4:(Int×Int×Int)} {v:Bool} {Q:Ex→List AV→List AObj→Prop}   (hR:∀ T H,RetW [.tmp 6] (B v) .ret T H→Q .ret T H) (hkl1_0:∀ (z1:Int) (u0:AV) (u2:AV) (u6:AV) (u10:AV) (u12:AV) (u14:AV) (u15:AV) (u16:AV) (u18:AV) (u19:AV) (u20:AV) (u21:AV) (u22:AV) (u23:AV) (u24:AV) (u25:AV) (u26:AV) (u27:AV) (u28:AV) (u29:AV) (u30:AV) (u31:AV) (u32:AV) (u33:AV) (u34:AV) (u35:AV) (u36:AV) (u37:AV) (u38:AV) (u39:AV) (u40:AV) (u41:AV) (u42:AV) (u43:AV) (u44:AV) (u45:AV) (u46:AV) (u47:AV) (u48:AV) (u49:AV) (u50:AV) (u51:AV) (u52:AV) (u53:AV) (u54:AV) (u55:AV) (u56:AV) (u57:AV) (u58:AV) (u59:AV) (u60:AV) (u61:AV) (u62:AV) (u63:AV) (u64:AV) (u65:AV) (u66:AV) (u67:AV) (u68:AV) (u69:AV) (u70:AV) (u71:AV) (u72:AV) (u73:AV) (u74:AV) (u75:AV) (u76:AV) (u77:AV) (u78:AV) (u79:AV) (u80:AV) (u81:AV) (u82:AV) (u83:AV) (u84:AV) (u85:AV) (u86:AV) (u87:AV) (u88:AV) (u89:AV) (u90:AV) (u91:AV) (u92:AV) (u93:AV) (u94:AV) (u95:AV) (u96:AV) (u97:AV) (u98:AV) (u99:AV) (u100:AV) (u101:AV) (u102:AV) (u103:AV) (u104:AV) (u105:AV) (u106:AV) (u107:AV) (u108:AV) (u109:AV) (u110:AV) (u111:AV) (u112:AV) (u113:AV) (u114:AV) (u115:AV) (u116:AV) (u117:AV) (u118:AV) (u119:AV) (u120:AV) (u121:AV) (u122:AV) (u123:AV) (u124:AV) (u125:AV) (u126:AV) (u127:AV) (u128:AV) (u129:AV) (u130:AV) (u131:AV) (u132:AV) (u133:AV) (u134:AV) (u135:AV) (u136:AV) (u137:AV) (u138:AV) (u139:AV) (u140:AV) (u141:AV) (u142:AV) (u143:AV) (u144:AV) (u145:AV) (u146:AV) (u147:AV) (u148:AV) (u149:AV) (u150:AV) (u151:AV) (u152:AV) (u153:AV) (u154:AV) (u155:AV) (u156:AV) (u157:AV) (u158:AV) (u159:AV) (u160:AV) (u161:AV) (u162:AV) (u163:AV) (u164:AV) (u165:AV) (u166:AV) (u167:AV) (u168:AV) (u169:AV) (u170:AV) (u171:AV) (u172:AV) (u173:AV) (u174:AV) (u175:AV) (u176:AV) (u177:AV) (u178:AV) (u179:AV) (u180:AV) (u181:AV) (u182:AV) (u183:AV) (u184:AV) (u185:AV) (u186:AV) (u187:AV) (u188:AV) (u189:AV) (u190:AV) (u191:AV) (u192:AV) (u193:AV) (u194:AV) (u195:AV) (u196:AV) (u197:AV) (u198:AV) (u199:AV) (u200:AV) (u201:AV) (u202:AV) (u203:AV) (u204:AV) (u205:AV) (u206:AV) (u207:AV) (u208:AV) (u209:AV) (u210:AV) (u211:AV) (u212:AV) (u213:AV) (u214:AV) (u215:AV) (u216:AV) (u217:AV) (u218:AV) (u219:AV) (u220:AV) (u221:AV) (u222:AV) (u223:AV) (u224:AV) (u225:AV) (u226:AV) (u227:AV) (u228:AV) (u229:AV) (u230:AV) (u231:AV) (u232:AV) (u233:AV) (u234:AV) (u235:AV) (u236:AV) (u237:AV) (u238:AV),kl1_0 z1=some v→Q (.exit 0) [u0,(.lst (panels.flatMap pr) panels.length .shared),u2,(.ptr 0 0),J,J,u6,(.lst (r3.map L1) r3.length .shared),(I r4.1),(I r4.2.1),u10,(.lst (r5.1.map I) r5.1.length .shared),u12,(.lst (r6.1.map I) r6.1.length .shared),u14,u15,u16,(I z1),u18,u19,u20,u21,u22,u23,u24,u25,u26,u27,u28,u29,u30,u31,u32,u33,u34,u35,u36,u37,u38,u39,u40,u41,u42,u43,u44,u45,u46,u47,u48,u49,u50,u51,u52,u53,u54,u55,u56,u57,u58,u59,u60,u61,u62,u63,u64,u65,u66,u67,u68,u69,u70,u71,u72,u73,u74,u75,u76,u77,u78,u79,u80,u81,u82,u83,u84,u85,u86,u87,u88,u89,u90,u91,u92,u93,u94,u95,u96,u97,u98,u99,u100,u101,u102,u103,u104,u105,u106,u107,u108,u109,u110,u111,u112,u113,u114,u115,u116,u117,u118,u119,u120,u121,u122,u123,u124,u125,u126,u127,u128,u129,u130,u131,u132,u133,u134,u135,u136,u137,u138,u139,u140,u141,u142,u143,u144,u145,u146,u147,u148,u149,u150,u151,u152,u153,u154,u155,u156,u157,u158,u159,u160,u161,u162,u163,u164,u165,u166,u167,u168,u169,u170,u171,u172,u173,u174,u175,u176,u177,u178,u179,u180,u181,u182,u183,u184,u185,u186,u187,u188,u189,u190,u191,u192,u193,u194,u195,u196,u197,u198,u199,u200,u201,u202,u203,u204,u205,u206,u207,u208,u209,u210,u211,u212,u213,u214,u215,u216,u217,u218,u219,u220,u221,u222,u223,u224,u225,u226,u227,u228,u229,u230,u231,u232,u233,u234,u235,u236,u237,u238] [AObj.cells [(I b.1),(.lst (b.2.1.map I) b.2.1.length .shared),(I b.2.2.1),(I b.2.2.2)]]) {T:List AV} (hT:zipKeep [o_,i_,o_,i_,o_,o_,o_,i_,i_,i_,o_,i_,o_,i_,o_,i_,o_,i_,i_,o_,o_,o_,o_,o_,o_,o_,o_,o_,o_,o_,o_,o_,o_,o_,o_,o_,o_,o_,o_,o_,o_,o_,o_,o_,o_,o_,o_,o_,o_,o_,o_,o_,o_,o_,o_,o_,o_,o_,o_,o_,o_,o_,o_,o_,o_,o_,o_,o_,o_,o_,o_,o_,o_,o_,o_,o_,o_,o_,o_,o_,o_,o_,o_,o_,o_,o_,o_,o_,o_,o_,o_,o_,o_,o_,o_,o_,o_,o_,o_,o_,o_,o_,o_,o_,o_,o_,o_,o_,o_,o_,o_,o_,o_,o_,o_,o_,o_,o_,o_,o_,o_,o_,o_,o_,o_,o_,o_,o_,o_,o_,o_,o_,o_,o_,o_,o_,o_,o_,o_,o_,o_,o_,o_,o_,o_,o_,o_,o_,o_,o_,o_,o_,o_,o_,o_,o_,o_,o_,o_,o_,o_,o_,o_,o_,o_,o_,o_,o_,o_,o_,o_,o_,o_,o_,o_,o_,o_,o_,o_,o_,o_,o_,o_,o_,o_,o_,o_,o_,o_,o_,o_,o_,o_,o_,o_,o_,o_,o_,o_,o_,o_,o_,o_,o_,o_,o_,o_,o_,o_,o_,o_,o_,o_,o_,o_,o_,o_,o_,o_,o_,o_,o_,o_,o_,o_,o_,o_,o_,o_,o_,o_,o_,o_,o_,o_,o_,o_,o_,o_] T=slots 239 [(1,(.lst (panels.flatMap pr) panels.length .shared)),(3,(.ptr 0 0)),(7,(.lst (r3.map L1) r3.length .shared)),(8,(I r4.1)),(9,(I r4.2.1)),(11,(.lst (r5.1.map I) r5.1.length .shared)),(13,(.lst (r6.1.map I) r6.1.length .shared)),(15,(.lst (r7.1.map I) r7.1.length .shared)),(17,(I s1)),(18,(I s2))]) (h:x14_l1 b panels r5 r6 r7 kl1_0 FU s1 s2=some v) :
  wpR Tryz.prog ann14 14 0 none xrc14_16 T [AObj.cells [(I b.1),(.lst (b.2.1.map I) b.2.1.length .shared),(I b.2.2.1),(I b.2.2.2)]] Q:=by
 unfold xrc14_16
 obtain ⟨c_12,g_12⟩:∃ c,xrc14_12=c:=⟨_,rfl⟩
 rw [g_12]
 refine wp_loop hT ?_
 refine .intro (fun m T H=>∃ (s1:Int) (s2:Int),T=slots 239 [(1,(.lst (panels.flatMap pr) panels.length .shared)),(3,(.ptr 0 0)),(7,(.lst (r3.map L1) r3.length .shared)),(8,(I r4.1)),(9,(I r4.2.1)),(11,(.lst (r5.1.map I) r5.1.length .shared)),(13,(.lst (r6.1.map I) r6.1.length .shared)),(15,(.lst (r7.1.map I) r7.1.length .shared)),(17,(I s1)),(18,(I s2))]∧H=[AObj.cells [(I b.1),(.lst (b.2.1.map I) b.2.1.length .shared),(I b.2.2.1),(I b.2.2.2)]]∧x14_l1 b panels r5 r6 r7 kl1_0 m s1 s2=some v) FU ⟨s1,s2,rfl,rfl,h⟩ ?_
 clear h hT
 rintro m T H ⟨s1,s2,rfl,rfl,h⟩
 cases m
 ·exact none_ne h
 rename_i m
 rw [x14_l1.eq_2] at h
 conv=>whnf
 rcases bt (decide (s2<(panels.length:Int))) with hb17 | hb17
 ·rw [hb17]
  conv=>whnf
  replace h:=it_t hb17 h
  subst g_12
  unfold xrc14_12
  obtain ⟨c_13,g_13⟩:∃ c,xrc14_13=c:=⟨_,rfl⟩
  rw [g_13]
  obtain ⟨c_14,g_14⟩:∃ c,xrc14_14=c:=⟨_,rfl⟩
  rw [g_14]
  conv=>whnf
  obtain ⟨hb18,h⟩:=gd_some h
  refine ⟨hb18,?_⟩
  rw [drop1 I r5.1 s2 hb18]
  conv=>whnf
  subst g_14
  unfold xrc14_14
  obtain ⟨c_15,g_15⟩:∃ c,xrc14_15=c:=⟨_,rfl⟩
  rw [g_15]
  conv=>whnf
  obtain ⟨hb19,h⟩:=gd_some h
  refine ⟨hb19,?_⟩
  rw [drop1 I r5.1 s2 hb19]
  conv=>whnf
  obtain ⟨hb20,h⟩:=gd_some h
  refine ⟨hb20,?_⟩
  rw [dropS pr 2 pr_len panels s2 hb20]
  conv=>whnf
  obtain ⟨hb21,h⟩:=gd_some h
  refine ⟨hb21,?_⟩
  rw [dropS pr 2 pr_len panels s2 hb21]
  conv=>whnf
  obtain ⟨r10,hb22,h⟩:=bd_some h
  refine ⟨(allc rfl (allc rfl rfl)),_,x52_ok hb22,acc0,?_⟩
  conv=>whnf
  rcases bt (decide ((ix r5.1 s2)<(w ((ix panels s2).2+(w (b.2.2.2*r10)))))) with hb23 | hb23
  ·rw [hb23]
   conv=>whnf
   replace h:=it_t hb23 h
   subst g_15
   unfold xrc14_15
   skip
   conv=>whnf
   obtain rfl:=Option.some.inj h
   exact hR _ _ ⟨.inr rfl,_,rfl,_,frz_pure rfl,rfl⟩
  ·rw [hb23]
   conv=>whnf
   replace h:=it_f hb23 h
   obtain ⟨hb24,h⟩:=gd_some h
   refine ⟨hb24,?_⟩
   rw [drop1 I r6.1 s2 hb24]
   conv=>whnf
   obtain ⟨r11,hb25,h⟩:=bd_some h
   refine ⟨(allc (pu_map (fun _=>rfl) _ _ _) (allc rfl rfl)),_,x53_ok hb25,accN rfl,?_⟩
   conv=>whnf
   subst g_15
   unfold xrc14_15
   skip
   conv=>whnf
   cases r11
   ·conv=>whnf
    replace h:=it_f rfl h
    obtain rfl:=Option.some.inj h
    exact hR _ _ ⟨.inr rfl,_,rfl,_,frz_pure rfl,rfl⟩
   ·conv=>whnf
    replace h:=it_t rfl h
    subst g_13
    unfold xrc14_13
    skip
    conv=>whnf
    exact ⟨m,Nat.lt_succ_self m,(max s1 (ix r5.1 s2)),(w (s2+(1:Int))),rfl,rfl,h⟩
 ·rw [hb17]
  conv=>whnf
  replace h:=it_f hb17 h
  exact hkl1_0 _ _ _ _ _ _ _ _ _ _ _ _ _ _ _ _ _ _ _ _ _ _ _ _ _ _ _ _ _ _ _ _ _ _ _ _ _ _ _ _ _ _ _ _ _ _ _ _ _ _ _ _ _ _ _ _ _ _ _ _ _ _ _ _ _ _ _ _ _ _ _ _ _ _ _ _ _ _ _ _ _ _ _ _ _ _ _ _ _ _ _ _ _ _ _ _ _ _ _ _ _ _ _ _ _ _ _ _ _ _ _ _ _ _ _ _ _ _ _ _ _ _ _ _ _ _ _ _ _ _ _ _ _ _ _ _ _ _ _ _ _ _ _ _ _ _ _ _ _ _ _ _ _ _ _ _ _ _ _ _ _ _ _ _ _ _ _ _ _ _ _ _ _ _ _ _ _ _ _ _ _ _ _ _ _ _ _ _ _ _ _ _ _ _ _ _ _ _ _ _ _ _ _ _ _ _ _ _ _ _ _ _ _ _ _ _ _ _ _ _ _ _ _ _ _ _ _ _ _ _ h
theorem x14_l3_ok {r3:(List (List Int))} {r5:((List Int)×Int)} {r6:((List Int)×Int)} {s3:Int} {kl3_0:Unit→Option Bool} {s4:Int} {b:(Int×(List Int)×Int×Int)} {panels:(List (Int×Int))} {r4:(Int×Int×Int)} {z1:Int} {v:Bool} {Q:Ex→List AV→List AObj→Prop}   (hR:∀ T H,RetW [.tmp 6] (B v) .ret T H→Q .ret T H) (hkl3_0:∀ (u0:AV) (u2:AV) (u6:AV) (u10:AV) (u12:AV) (u14:AV) (u15:AV) (u16:AV) (u18:AV) (u20:AV) (u21:AV) (u22:AV) (u23:AV) (u24:AV) (u25:AV) (u26:AV) (u27:AV) (u28:AV) (u29:AV) (u30:AV) (u31:AV) (u32:AV) (u33:AV) (u34:AV) (u35:AV) (u36:AV) (u37:AV) (u38:AV) (u39:AV) (u40:AV) (u41:AV) (u42:AV) (u43:AV) (u44:AV) (u45:AV) (u46:AV) (u47:AV) (u48:AV) (u49:AV) (u50:AV) (u51:AV) (u52:AV) (u53:AV) (u54:AV) (u55:AV) (u56:AV) (u57:AV) (u58:AV) (u59:AV) (u60:AV) (u61:AV) (u62:AV) (u63:AV) (u64:AV) (u65:AV) (u66:AV) (u67:AV) (u68:AV) (u69:AV) (u70:AV) (u71:AV) (u72:AV) (u73:AV) (u74:AV) (u75:AV) (u76:AV) (u77:AV) (u78:AV) (u79:AV) (u80:AV) (u81:AV) (u82:AV) (u83:AV) (u84:AV) (u85:AV) (u86:AV) (u87:AV) (u88:AV) (u89:AV) (u90:AV) (u91:AV) (u92:AV) (u93:AV) (u94:AV) (u95:AV) (u96:AV) (u97:AV) (u98:AV) (u99:AV) (u100:AV) (u101:AV) (u102:AV) (u103:AV) (u104:AV) (u105:AV) (u106:AV) (u107:AV) (u108:AV) (u109:AV) (u110:AV) (u111:AV) (u112:AV) (u113:AV) (u114:AV) (u115:AV) (u116:AV) (u117:AV) (u118:AV) (u119:AV) (u120:AV) (u121:AV) (u122:AV) (u123:AV) (u124:AV) (u125:AV) (u126:AV) (u127:AV) (u128:AV) (u129:AV) (u130:AV) (u131:AV) (u132:AV) (u133:AV) (u134:AV) (u135:AV) (u136:AV) (u137:AV) (u138:AV) (u139:AV) (u140:AV) (u141:AV) (u142:AV) (u143:AV) (u144:AV) (u145:AV) (u146:AV) (u147:AV) (u148:AV) (u149:AV) (u150:AV) (u151:AV) (u152:AV) (u153:AV) (u154:AV) (u155:AV) (u156:AV) (u157:AV) (u158:AV) (u159:AV) (u160:AV) (u161:AV) (u162:AV) (u163:AV) (u164:AV) (u165:AV) (u166:AV) (u167:AV) (u168:AV) (u169:AV) (u170:AV) (u171:AV) (u172:AV) (u173:AV) (u174:AV) (u175:AV) (u176:AV) (u177:AV) (u178:AV) (u179:AV) (u180:AV) (u181:AV) (u182:AV) (u183:AV) (u184:AV) (u185:AV) (u186:AV) (u187:AV) (u188:AV) (u189:AV) (u190:AV) (u191:AV) (u192:AV) (u193:AV) (u194:AV) (u195:AV) (u196:AV) (u197:AV) (u198:AV) (u199:AV) (u200:AV) (u201:AV) (u202:AV) (u203:AV) (u204:AV) (u205:AV) (u206:AV) (u207:AV) (u208:AV) (u209:AV) (u210:AV) (u211:AV) (u212:AV) (u213:AV) (u214:AV) (u215:AV) (u216:AV) (u217:AV) (u218:AV) (u219:AV) (u220:AV) (u221:AV) (u222:AV) (u223:AV) (u224:AV) (u225:AV) (u226:AV) (u227:AV) (u228:AV) (u229:AV) (u230:AV) (u231:AV) (u232:AV) (u233:AV) (u234:AV) (u235:AV) (u236:AV) (u237:AV) (u238:AV),kl3_0 ()=some v→Q (.exit 4) [u0,(.lst (panels.flatMap pr) panels.length .shared),u2,(.ptr 0 0),J,J,u6,(.lst (r3.map L1) r3.length .shared),(I r4.1),(I r4.2.1),u10,(.lst (r5.1.map I) r5.1.length .shared),u12,(.lst (r6.1.map I) r6.1.length .shared),u14,u15,u16,(I z1),u18,(I s3),u20,u21,u22,u23,u24,u25,u26,u27,u28,u29,u30,u31,u32,u33,u34,u35,u36,u37,u38,u39,u40,u41,u42,u43,u44,u45,u46,u47,u48,u49,u50,u51,u52,u53,u54,u55,u56,u57,u58,u59,u60,u61,u62,u63,u64,u65,u66,u67,u68,u69,u70,u71,u72,u73,u74,u75,u76,u77,u78,u79,u80,u81,u82,u83,u84,u85,u86,u87,u88,u89,u90,u91,u92,u93,u94,u95,u96,u97,u98,u99,u100,u101,u102,u103,u104,u105,u106,u107,u108,u109,u110,u111,u112,u113,u114,u115,u116,u117,u118,u119,u120,u121,u122,u123,u124,u125,u126,u127,u128,u129,u130,u131,u132,u133,u134,u135,u136,u137,u138,u139,u140,u141,u142,u143,u144,u145,u146,u147,u148,u149,u150,u151,u152,u153,u154,u155,u156,u157,u158,u159,u160,u161,u162,u163,u164,u165,u166,u167,u168,u169,u170,u171,u172,u173,u174,u175,u176,u177,u178,u179,u180,u181,u182,u183,u184,u185,u186,u187,u188,u189,u190,u191,u192,u193,u194,u195,u196,u197,u198,u199,u200,u201,u202,u203,u204,u205,u206,u207,u208,u209,u210,u211,u212,u213,u214,u215,u216,u217,u218,u219,u220,u221,u222,u223,u224,u225,u226,u227,u228,u229,u230,u231,u232,u233,u234,u235,u236,u237,u238] [AObj.cells [(I b.1),(.lst (b.2.1.map I) b.2.1.length .shared),(I b.2.2.1),(I b.2.2.2)]]) {T:List AV} (hT:zipKeep [o_,i_,o_,i_,o_,o_,o_,i_,i_,i_,o_,i_,o_,i_,o_,o_,o_,i_,o_,i_,i_,o_,o_,o_,o_,o_,o_,o_,o_,o_,o_,o_,o_,o_,o_,o_,o_,o_,o_,o_,o_,o_,o_,o_,o_,o_,o_,o_,o_,o_,o_,o_,o_,o_,o_,o_,o_,o_,o_,o_,o_,o_,o_,o_,o_,o_,o_,o_,o_,o_,o_,o_,o_,o_,o_,o_,o_,o_,o_,o_,o_,o_,o_,o_,o_,o_,o_,o_,o_,o_,o_,o_,o_,o_,o_,o_,o_,o_,o_,o_,o_,o_,o_,o_,o_,o_,o_,o_,o_,o_,o_,o_,o_,o_,o_,o_,o_,o_,o_,o_,o_,o_,o_,o_,o_,o_,o_,o_,o_,o_,o_,o_,o_,o_,o_,o_,o_,o_,o_,o_,o_,o_,o_,o_,o_,o_,o_,o_,o_,o_,o_,o_,o_,o_,o_,o_,o_,o_,o_,o_,o_,o_,o_,o_,o_,o_,o_,o_,o_,o_,o_,o_,o_,o_,o_,o_,o_,o_,o_,o_,o_,o_,o_,o_,o_,o_,o_,o_,o_,o_,o_,o_,o_,o_,o_,o_,o_,o_,o_,o_,o_,o_,o_,o_,o_,o_,o_,o_,o_,o_,o_,o_,o_,o_,o_,o_,o_,o_,o_,o_,o_,o_,o_,o_,o_,o_,o_,o_,o_,o_,o_,o_,o_,o_,o_,o_,o_,o_,o_] T=slots 239 [(1,(.lst (panels.flatMap pr) panels.length .shared)),(3,(.ptr 0 0)),(7,(.lst (r3.map L1) r3.length .shared)),(8,(I r4.1)),(9,(I r4.2.1)),(11,(.lst (r5.1.map I) r5.1.length .shared)),(13,(.lst (r6.1.map I) r6.1.length .shared)),(17,(I z1)),(19,(I s3)),(20,(I s4))]) (h:x14_l3 r3 r5 r6 s3 kl3_0 FU s4=some v) :
  wpR Tryz.prog ann14 14 0 none xrc14_26 T [AObj.cells [(I b.1),(.lst (b.2.1.map I) b.2.1.length .shared),(I b.2.2.1),(I b.2.2.2)]] Q:=by
 unfold xrc14_26
 obtain ⟨c_23,g_23⟩:∃ c,xrc14_23=c:=⟨_,rfl⟩
 rw [g_23]
 refine wp_loop hT ?_
 refine .intro (fun m T H=>∃ (s4:Int),T=slots 239 [(1,(.lst (panels.flatMap pr) panels.length .shared)),(3,(.ptr 0 0)),(7,(.lst (r3.map L1) r3.length .shared)),(8,(I r4.1)),(9,(I r4.2.1)),(11,(.lst (r5.1.map I) r5.1.length .shared)),(13,(.lst (r6.1.map I) r6.1.length .shared)),(17,(I z1)),(19,(I s3)),(20,(I s4))]∧H=[AObj.cells [(I b.1),(.lst (b.2.1.map I) b.2.1.length .shared),(I b.2.2.1),(I b.2.2.2)]]∧x14_l3 r3 r5 r6 s3 kl3_0 m s4=some v) FU ⟨s4,rfl,rfl,h⟩ ?_
 clear h hT
 rintro m T H ⟨s4,rfl,rfl,h⟩
 cases m
 ·exact none_ne h
 rename_i m
 rw [x14_l3.eq_2] at h
 conv=>whnf
 obtain ⟨hb27,h⟩:=gd_some h
 refine ⟨hb27,?_⟩
 rw [drop1 L1 r3 s3 hb27]
 conv=>whnf
 rcases bt (decide (s4<((ix r3 s3).length:Int))) with hb28 | hb28
 ·rw [hb28]
  conv=>whnf
  replace h:=it_t hb28 h
  subst g_23
  unfold xrc14_23
  obtain ⟨c_24,g_24⟩:∃ c,xrc14_24=c:=⟨_,rfl⟩
  rw [g_24]
  obtain ⟨c_25,g_25⟩:∃ c,xrc14_25=c:=⟨_,rfl⟩
  rw [g_25]
  conv=>whnf
  obtain ⟨hb29,h⟩:=gd_some h
  refine ⟨hb29,?_⟩
  rw [drop1 L1 r3 s3 hb29]
  conv=>whnf
  obtain ⟨hb30,h⟩:=gd_some h
  refine ⟨hb30,?_⟩
  rw [drop1 I (ix r3 s3) s4 hb30]
  conv=>whnf
  obtain ⟨hb31,h⟩:=gd_some h
  refine ⟨hb31,?_⟩
  rw [drop1 I r5.1 (ix (ix r3 s3) s4) hb31]
  conv=>whnf
  obtain ⟨hb32,h⟩:=gd_some h
  refine ⟨hb32,?_⟩
  rw [drop1 L1 r3 s3 hb32]
  conv=>whnf
  obtain ⟨hb33,h⟩:=gd_some h
  refine ⟨hb33,?_⟩
  rw [drop1 I (ix r3 s3) (0:Int) hb33]
  conv=>whnf
  obtain ⟨hb34,h⟩:=gd_some h
  refine ⟨hb34,?_⟩
  rw [drop1 I r5.1 (ix (ix r3 s3) (0:Int)) hb34]
  conv=>whnf
  rcases bt (decide ((ix r5.1 (ix (ix r3 s3) s4))≠(ix r5.1 (ix (ix r3 s3) (0:Int))))) with hb35 | hb35
  ·rw [hb35]
   conv=>whnf
   replace h:=it_t hb35 h
   subst g_25
   unfold xrc14_25
   skip
   conv=>whnf
   obtain rfl:=Option.some.inj h
   exact hR _ _ ⟨.inr rfl,_,rfl,_,frz_pure rfl,rfl⟩
  ·rw [hb35]
   conv=>whnf
   replace h:=it_f hb35 h
   obtain ⟨hb36,h⟩:=gd_some h
   refine ⟨hb36,?_⟩
   rw [drop1 L1 r3 s3 hb36]
   conv=>whnf
   obtain ⟨hb37,h⟩:=gd_some h
   refine ⟨hb37,?_⟩
   rw [drop1 I (ix r3 s3) s4 hb37]
   conv=>whnf
   obtain ⟨hb38,h⟩:=gd_some h
   refine ⟨hb38,?_⟩
   rw [drop1 I r6.1 (ix (ix r3 s3) s4) hb38]
   conv=>whnf
   obtain ⟨hb39,h⟩:=gd_some h
   refine ⟨hb39,?_⟩
   rw [drop1 L1 r3 s3 hb39]
   conv=>whnf
   obtain ⟨hb40,h⟩:=gd_some h
   refine ⟨hb40,?_⟩
   rw [drop1 I (ix r3 s3) (w (s4-(1:Int))) hb40]
   conv=>whnf
   obtain ⟨hb41,h⟩:=gd_some h
   refine ⟨hb41,?_⟩
   rw [drop1 I r6.1 (ix (ix r3 s3) (w (s4-(1:Int)))) hb41]
   conv=>whnf
   subst g_25
   unfold xrc14_25
   skip
   conv=>whnf
   rcases bt (decide ((ix r6.1 (ix (ix r3 s3) s4))≤(ix r6.1 (ix (ix r3 s3) (w (s4-(1:Int))))))) with hb42 | hb42
   ·rw [hb42]
    conv=>whnf
    replace h:=it_t hb42 h
    obtain rfl:=Option.some.inj h
    exact hR _ _ ⟨.inr rfl,_,rfl,_,frz_pure rfl,rfl⟩
   ·rw [hb42]
    conv=>whnf
    replace h:=it_f hb42 h
    subst g_24
    unfold xrc14_24
    skip
    conv=>whnf
    exact ⟨m,Nat.lt_succ_self m,(w (s4+(1:Int))),rfl,rfl,h⟩
 ·rw [hb28]
  conv=>whnf
  replace h:=it_f hb28 h
  exact hkl3_0 _ _ _ _ _ _ _ _ _ _ _ _ _ _ _ _ _ _ _ _ _ _ _ _ _ _ _ _ _ _ _ _ _ _ _ _ _ _ _ _ _ _ _ _ _ _ _ _ _ _ _ _ _ _ _ _ _ _ _ _ _ _ _ _ _ _ _ _ _ _ _ _ _ _ _ _ _ _ _ _ _ _ _ _ _ _ _ _ _ _ _ _ _ _ _ _ _ _ _ _ _ _ _ _ _ _ _ _ _ _ _ _ _ _ _ _ _ _ _ _ _ _ _ _ _ _ _ _ _ _ _ _ _ _ _ _ _ _ _ _ _ _ _ _ _ _ _ _ _ _ _ _ _ _ _ _ _ _ _ _ _ _ _ _ _ _ _ _ _ _ _ _ _ _ _ _ _ _ _ _ _ _ _ _ _ _ _ _ _ _ _ _ _ _ _ _ _ _ _ _ _ _ _ _ _ _ _ _ _ _ _ _ _ _ _ _ _ _ _ _ _ _ _ _ _ _ _ _ h
theorem x14_l2_ok {r3:(List (List Int))} {r5:((List Int)×Int)} {r6:((List Int)×Int)} {kl2_0:Unit→Option Bool} {s3:Int} {b:(Int×(List Int)×Int×Int)} {panels:(List (Int×Int))} {r4:(Int×Int×Int)} {z1:Int} {v:Bool} {Q:Ex→List AV→List AObj→Prop}   (hR:∀ T H,RetW [.tmp 6] (B v) .ret T H→Q .ret T H) (hkl2_0:∀ (u0:AV) (u2:AV) (u6:AV) (u7:AV) (u10:AV) (u11:AV) (u12:AV) (u13:AV) (u14:AV) (u15:AV) (u16:AV) (u18:AV) (u19:AV) (u20:AV) (u21:AV) (u22:AV) (u23:AV) (u24:AV) (u25:AV) (u26:AV) (u27:AV) (u28:AV) (u29:AV) (u30:AV) (u31:AV) (u32:AV) (u33:AV) (u34:AV) (u35:AV) (u36:AV) (u37:AV) (u38:AV) (u39:AV) (u40:AV) (u41:AV) (u42:AV) (u43:AV) (u44:AV) (u45:AV) (u46:AV) (u47:AV) (u48:AV) (u49:AV) (u50:AV) (u51:AV) (u52:AV) (u53:AV) (u54:AV) (u55:AV) (u56:AV) (u57:AV) (u58:AV) (u59:AV) (u60:AV) (u61:AV) (u62:AV) (u63:AV) (u64:AV) (u65:AV) (u66:AV) (u67:AV) (u68:AV) (u69:AV) (u70:AV) (u71:AV) (u72:AV) (u73:AV) (u74:AV) (u75:AV) (u76:AV) (u77:AV) (u78:AV) (u79:AV) (u80:AV) (u81:AV) (u82:AV) (u83:AV) (u84:AV) (u85:AV) (u86:AV) (u87:AV) (u88:AV) (u89:AV) (u90:AV) (u91:AV) (u92:AV) (u93:AV) (u94:AV) (u95:AV) (u96:AV) (u97:AV) (u98:AV) (u99:AV) (u100:AV) (u101:AV) (u102:AV) (u103:AV) (u104:AV) (u105:AV) (u106:AV) (u107:AV) (u108:AV) (u109:AV) (u110:AV) (u111:AV) (u112:AV) (u113:AV) (u114:AV) (u115:AV) (u116:AV) (u117:AV) (u118:AV) (u119:AV) (u120:AV) (u121:AV) (u122:AV) (u123:AV) (u124:AV) (u125:AV) (u126:AV) (u127:AV) (u128:AV) (u129:AV) (u130:AV) (u131:AV) (u132:AV) (u133:AV) (u134:AV) (u135:AV) (u136:AV) (u137:AV) (u138:AV) (u139:AV) (u140:AV) (u141:AV) (u142:AV) (u143:AV) (u144:AV) (u145:AV) (u146:AV) (u147:AV) (u148:AV) (u149:AV) (u150:AV) (u151:AV) (u152:AV) (u153:AV) (u154:AV) (u155:AV) (u156:AV) (u157:AV) (u158:AV) (u159:AV) (u160:AV) (u161:AV) (u162:AV) (u163:AV) (u164:AV) (u165:AV) (u166:AV) (u167:AV) (u168:AV) (u169:AV) (u170:AV) (u171:AV) (u172:AV) (u173:AV) (u174:AV) (u175:AV) (u176:AV) (u177:AV) (u178:AV) (u179:AV) (u180:AV) (u181:AV) (u182:AV) (u183:AV) (u184:AV) (u185:AV) (u186:AV) (u187:AV) (u188:AV) (u189:AV) (u190:AV) (u191:AV) (u192:AV) (u193:AV) (u194:AV) (u195:AV) (u196:AV) (u197:AV) (u198:AV) (u199:AV) (u200:AV) (u201:AV) (u202:AV) (u203:AV) (u204:AV) (u205:AV) (u206:AV) (u207:AV) (u208:AV) (u209:AV) (u210:AV) (u211:AV) (u212:AV) (u213:AV) (u214:AV) (u215:AV) (u216:AV) (u217:AV) (u218:AV) (u219:AV) (u220:AV) (u221:AV) (u222:AV) (u223:AV) (u224:AV) (u225:AV) (u226:AV) (u227:AV) (u228:AV) (u229:AV) (u230:AV) (u231:AV) (u232:AV) (u233:AV) (u234:AV) (u235:AV) (u236:AV) (u237:AV) (u238:AV),kl2_0 ()=some v→Q (.exit 2) [u0,(.lst (panels.flatMap pr) panels.length .shared),u2,(.ptr 0 0),J,J,u6,u7,(I r4.1),(I r4.2.1),u10,u11,u12,u13,u14,u15,u16,(I z1),u18,u19,u20,u21,u22,u23,u24,u25,u26,u27,u28,u29,u30,u31,u32,u33,u34,u35,u36,u37,u38,u39,u40,u41,u42,u43,u44,u45,u46,u47,u48,u49,u50,u51,u52,u53,u54,u55,u56,u57,u58,u59,u60,u61,u62,u63,u64,u65,u66,u67,u68,u69,u70,u71,u72,u73,u74,u75,u76,u77,u78,u79,u80,u81,u82,u83,u84,u85,u86,u87,u88,u89,u90,u91,u92,u93,u94,u95,u96,u97,u98,u99,u100,u101,u102,u103,u104,u105,u106,u107,u108,u109,u110,u111,u112,u113,u114,u115,u116,u117,u118,u119,u120,u121,u122,u123,u124,u125,u126,u127,u128,u129,u130,u131,u132,u133,u134,u135,u136,u137,u138,u139,u140,u141,u142,u143,u144,u145,u146,u147,u148,u149,u150,u151,u152,u153,u154,u155,u156,u157,u158,u159,u160,u161,u162,u163,u164,u165,u166,u167,u168,u169,u170,u171,u172,u173,u174,u175,u176,u177,u178,u179,u180,u181,u182,u183,u184,u185,u186,u187,u188,u189,u190,u191,u192,u193,u194,u195,u196,u197,u198,u199,u200,u201,u202,u203,u204,u205,u206,u207,u208,u209,u210,u211,u212,u213,u214,u215,u216,u217,u218,u219,u220,u221,u222,u223,u224,u225,u226,u227,u228,u229,u230,u231,u232,u233,u234,u235,u236,u237,u238] [AObj.cells [(I b.1),(.lst (b.2.1.map I) b.2.1.length .shared),(I b.2.2.1),(I b.2.2.2)]]) {T:List AV} (hT:zipKeep [o_,i_,o_,i_,o_,o_,o_,i_,i_,i_,o_,i_,o_,i_,o_,o_,o_,i_,o_,i_,o_,o_,o_,o_,o_,o_,o_,o_,o_,o_,o_,o_,o_,o_,o_,o_,o_,o_,o_,o_,o_,o_,o_,o_,o_,o_,o_,o_,o_,o_,o_,o_,o_,o_,o_,o_,o_,o_,o_,o_,o_,o_,o_,o_,o_,o_,o_,o_,o_,o_,o_,o_,o_,o_,o_,o_,o_,o_,o_,o_,o_,o_,o_,o_,o_,o_,o_,o_,o_,o_,o_,o_,o_,o_,o_,o_,o_,o_,o_,o_,o_,o_,o_,o_,o_,o_,o_,o_,o_,o_,o_,o_,o_,o_,o_,o_,o_,o_,o_,o_,o_,o_,o_,o_,o_,o_,o_,o_,o_,o_,o_,o_,o_,o_,o_,o_,o_,o_,o_,o_,o_,o_,o_,o_,o_,o_,o_,o_,o_,o_,o_,o_,o_,o_,o_,o_,o_,o_,o_,o_,o_,o_,o_,o_,o_,o_,o_,o_,o_,o_,o_,o_,o_,o_,o_,o_,o_,o_,o_,o_,o_,o_,o_,o_,o_,o_,o_,o_,o_,o_,o_,o_,o_,o_,o_,o_,o_,o_,o_,o_,o_,o_,o_,o_,o_,o_,o_,o_,o_,o_,o_,o_,o_,o_,o_,o_,o_,o_,o_,o_,o_,o_,o_,o_,o_,o_,o_,o_,o_,o_,o_,o_,o_,o_,o_,o_,o_,o_,o_] T=slots 239 [(1,(.lst (panels.flatMap pr) panels.length .shared)),(3,(.ptr 0 0)),(7,(.lst (r3.map L1) r3.length .shared)),(8,(I r4.1)),(9,(I r4.2.1)),(11,(.lst (r5.1.map I) r5.1.length .shared)),(13,(.lst (r6.1.map I) r6.1.length .shared)),(17,(I z1)),(19,(I s3))]) (h:x14_l2 r3 r5 r6 kl2_0 FU s3=some v) :
  wpR Tryz.prog ann14 14 0 none xrc14_28 T [AObj.cells [(I b.1),(.lst (b.2.1.map I) b.2.1.length .shared),(I b.2.2.1),(I b.2.2.2)]] Q:=by
 unfold xrc14_28
 obtain ⟨c_19,g_19⟩:∃ c,xrc14_19=c:=⟨_,rfl⟩
 rw [g_19]
 refine wp_loop hT ?_
 refine .intro (fun m T H=>∃ (s3:Int),T=slots 239 [(1,(.lst (panels.flatMap pr) panels.length .shared)),(3,(.ptr 0 0)),(7,(.lst (r3.map L1) r3.length .shared)),(8,(I r4.1)),(9,(I r4.2.1)),(11,(.lst (r5.1.map I) r5.1.length .shared)),(13,(.lst (r6.1.map I) r6.1.length .shared)),(17,(I z1)),(19,(I s3))]∧H=[AObj.cells [(I b.1),(.lst (b.2.1.map I) b.2.1.length .shared),(I b.2.2.1),(I b.2.2.2)]]∧x14_l2 r3 r5 r6 kl2_0 m s3=some v) FU ⟨s3,rfl,rfl,h⟩ ?_
 clear h hT
 rintro m T H ⟨s3,rfl,rfl,h⟩
 cases m
 ·exact none_ne h
 rename_i m
 rw [x14_l2.eq_2] at h
 conv=>whnf
 rcases bt (decide (s3<(r3.length:Int))) with hb26 | hb26
 ·rw [hb26]
  conv=>whnf
  replace h:=it_t hb26 h
  subst g_19
  unfold xrc14_19
  obtain ⟨c_20,g_20⟩:∃ c,xrc14_20=c:=⟨_,rfl⟩
  rw [g_20]
  obtain ⟨c_21,g_21⟩:∃ c,xrc14_21=c:=⟨_,rfl⟩
  rw [g_21]
  obtain ⟨c_22,g_22⟩:∃ c,xrc14_22=c:=⟨_,rfl⟩
  rw [g_22]
  conv=>whnf
  subst g_22
  unfold xrc14_22
  obtain ⟨c_26,g_26⟩:∃ c,xrc14_26=c:=⟨_,rfl⟩
  rw [g_26]
  conv=>whnf
  subst g_26
  refine x14_l3_ok ?_ ?_ (by exact rfl) h
  ·exact fun T H hh=>hR T H hh
  ·intro u0 u2 u6 u10 u12 u14 u15 u16 u18 u20 u21 u22 u23 u24 u25 u26 u27 u28 u29 u30 u31 u32 u33 u34 u35 u36 u37 u38 u39 u40 u41 u42 u43 u44 u45 u46 u47 u48 u49 u50 u51 u52 u53 u54 u55 u56 u57 u58 u59 u60 u61 u62 u63 u64 u65 u66 u67 u68 u69 u70 u71 u72 u73 u74 u75 u76 u77 u78 u79 u80 u81 u82 u83 u84 u85 u86 u87 u88 u89 u90 u91 u92 u93 u94 u95 u96 u97 u98 u99 u100 u101 u102 u103 u104 u105 u106 u107 u108 u109 u110 u111 u112 u113 u114 u115 u116 u117 u118 u119 u120 u121 u122 u123 u124 u125 u126 u127 u128 u129 u130 u131 u132 u133 u134 u135 u136 u137 u138 u139 u140 u141 u142 u143 u144 u145 u146 u147 u148 u149 u150 u151 u152 u153 u154 u155 u156 u157 u158 u159 u160 u161 u162 u163 u164 u165 u166 u167 u168 u169 u170 u171 u172 u173 u174 u175 u176 u177 u178 u179 u180 u181 u182 u183 u184 u185 u186 u187 u188 u189 u190 u191 u192 u193 u194 u195 u196 u197 u198 u199 u200 u201 u202 u203 u204 u205 u206 u207 u208 u209 u210 u211 u212 u213 u214 u215 u216 u217 u218 u219 u220 u221 u222 u223 u224 u225 u226 u227 u228 u229 u230 u231 u232 u233 u234 u235 u236 u237 u238 h
   conv=>whnf
   subst g_21
   unfold xrc14_21
   obtain ⟨c_27,g_27⟩:∃ c,xrc14_27=c:=⟨_,rfl⟩
   rw [g_27]
   conv=>whnf
   rcases bt (decide ((0:Int)<s3)) with hb43 | hb43
   ·rw [hb43]
    conv=>whnf
    replace h:=it_t hb43 h
    obtain ⟨hb44,h⟩:=gd_some h
    refine ⟨hb44,?_⟩
    rw [drop1 L1 r3 s3 hb44]
    conv=>whnf
    obtain ⟨hb45,h⟩:=gd_some h
    refine ⟨hb45,?_⟩
    rw [drop1 I (ix r3 s3) (0:Int) hb45]
    conv=>whnf
    obtain ⟨hb46,h⟩:=gd_some h
    refine ⟨hb46,?_⟩
    rw [drop1 I r5.1 (ix (ix r3 s3) (0:Int)) hb46]
    conv=>whnf
    obtain ⟨hb47,h⟩:=gd_some h
    refine ⟨hb47,?_⟩
    rw [drop1 L1 r3 (w (s3-(1:Int))) hb47]
    conv=>whnf
    obtain ⟨hb48,h⟩:=gd_some h
    refine ⟨hb48,?_⟩
    rw [drop1 I (ix r3 (w (s3-(1:Int)))) (0:Int) hb48]
    conv=>whnf
    obtain ⟨hb49,h⟩:=gd_some h
    refine ⟨hb49,?_⟩
    rw [drop1 I r5.1 (ix (ix r3 (w (s3-(1:Int)))) (0:Int)) hb49]
    conv=>whnf
    subst g_27
    unfold xrc14_27
    skip
    conv=>whnf
    rcases bt (decide ((ix r5.1 (ix (ix r3 s3) (0:Int)))≤(ix r5.1 (ix (ix r3 (w (s3-(1:Int)))) (0:Int))))) with hb50 | hb50
    ·rw [hb50]
     conv=>whnf
     replace h:=it_t hb50 h
     obtain rfl:=Option.some.inj h
     exact hR _ _ ⟨.inr rfl,_,rfl,_,frz_pure rfl,rfl⟩
    ·rw [hb50]
     conv=>whnf
     replace h:=it_f hb50 h
     subst g_20
     unfold xrc14_20
     skip
     conv=>whnf
     exact ⟨m,Nat.lt_succ_self m,(w (s3+(1:Int))),rfl,rfl,h⟩
   ·rw [hb43]
    conv=>whnf
    replace h:=it_f hb43 h
    subst g_27
    unfold xrc14_27
    skip
    conv=>whnf
    subst g_20
    unfold xrc14_20
    skip
    conv=>whnf
    exact ⟨m,Nat.lt_succ_self m,(w (s3+(1:Int))),rfl,rfl,h⟩
 ·rw [hb26]
  conv=>whnf
  replace h:=it_f hb26 h
  exact hkl2_0 _ _ _ _ _ _ _ _ _ _ _ _ _ _ _ _ _ _ _ _ _ _ _ _ _ _ _ _ _ _ _ _ _ _ _ _ _ _ _ _ _ _ _ _ _ _ _ _ _ _ _ _ _ _ _ _ _ _ _ _ _ _ _ _ _ _ _ _ _ _ _ _ _ _ _ _ _ _ _ _ _ _ _ _ _ _ _ _ _ _ _ _ _ _ _ _ _ _ _ _ _ _ _ _ _ _ _ _ _ _ _ _ _ _ _ _ _ _ _ _ _ _ _ _ _ _ _ _ _ _ _ _ _ _ _ _ _ _ _ _ _ _ _ _ _ _ _ _ _ _ _ _ _ _ _ _ _ _ _ _ _ _ _ _ _ _ _ _ _ _ _ _ _ _ _ _ _ _ _ _ _ _ _ _ _ _ _ _ _ _ _ _ _ _ _ _ _ _ _ _ _ _ _ _ _ _ _ _ _ _ _ _ _ _ _ _ _ _ _ _ _ _ _ _ _ _ _ _ _ _ _ _ h
theorem x14_ok {b:(Int×(List Int)×Int×Int)} {panels:(List (Int×Int))} {byq:(List Int)} {v:Bool} (h:x14 b panels byq=some v):PO 14 [(.agg [(I b.1),(.lst (b.2.1.map I) b.2.1.length .shared),(I b.2.2.1),(I b.2.2.2)]),(.lst (panels.flatMap pr) panels.length .shared),(.lst (byq.map U8) byq.length .shared)] (B v):=by
 refine fn_pureW hmix lxx14 rfl rfl fun Q hQ=>?_
 have hR:∀ T H,RetW [.tmp 6] (B v) .ret T H→Q .ret T H:=fun T H hh=>hQ _ T H hh
 unfold x14 at h
 unfold xrc14
 obtain ⟨c_1,g_1⟩:∃ c,xrc14_1=c:=⟨_,rfl⟩
 rw [g_1]
 conv=>whnf
 subst g_1
 unfold xrc14_1
 obtain ⟨c_2,g_2⟩:∃ c,xrc14_2=c:=⟨_,rfl⟩
 rw [g_2]
 obtain ⟨c_3,g_3⟩:∃ c,xrc14_3=c:=⟨_,rfl⟩
 rw [g_3]
 conv=>whnf
 obtain ⟨r1,hb1,h⟩:=bd_some h
 refine ⟨(allc (pu_agg (allc rfl (allc (pu_map (fun _=>rfl) _ _ _) (allc rfl (allc rfl rfl))))) (allc (pu_flat (fun _=>(allc rfl (allc rfl rfl))) _ _ _) rfl)),_,x45_ok hb1,?_⟩
 conv=>whnf
 cases r1
 ·conv=>whnf
  replace h:=it_f rfl h
  subst g_2
  unfold xrc14_2
  skip
  conv=>whnf
  obtain ⟨r14,hb55,h⟩:=bd_some h
  refine ⟨rfl,_,x17_ok hb55,?_⟩
  conv=>whnf
  obtain rfl:=Option.some.inj h
  exact hR _ _ ⟨.inr rfl,_,rfl,_,frz_pure rfl,rfl⟩
 ·conv=>whnf
  replace h:=it_t rfl h
  subst g_2
  unfold xrc14_2
  skip
  conv=>whnf
  rcases bt (decide ((20:Int)<(byq.length:Int))) with hb2 | hb2
  ·rw [hb2]
   conv=>whnf
   replace h:=it_t hb2 h
   obtain ⟨r2,hb3,h⟩:=bd_some h
   refine ⟨rfl,_,x17_ok hb3,?_⟩
   conv=>whnf
   obtain rfl:=Option.some.inj h
   exact hR _ _ ⟨.inr rfl,_,rfl,_,frz_pure rfl,rfl⟩
  ·rw [hb2]
   conv=>whnf
   replace h:=it_f hb2 h
   obtain ⟨r3,hb4,h⟩:=bd_some h
   refine ⟨(allc (pu_agg (allc rfl (allc (pu_map (fun _=>rfl) _ _ _) (allc rfl (allc rfl rfl))))) (allc (pu_flat (fun _=>(allc rfl (allc rfl rfl))) _ _ _) (allc (pu_map (fun _=>rfl) _ _ _) rfl))),_,x47_ok hb4,?_⟩
   conv=>whnf
   subst g_3
   unfold xrc14_3
   obtain ⟨c_4,g_4⟩:∃ c,xrc14_4=c:=⟨_,rfl⟩
   rw [g_4]
   conv=>whnf
   obtain ⟨r4,hb5,h⟩:=bd_some h
   refine ⟨(allc (pu_agg (allc rfl (allc (pu_map (fun _=>rfl) _ _ _) (allc rfl (allc rfl rfl))))) (allc (pu_flat (fun _=>(allc rfl (allc rfl rfl))) _ _ _) (allc (pu_map (fun _=>(pu_map (fun _=>rfl) _ _ _)) _ _ _) rfl))),_,x26_ok hb5,?_⟩
   conv=>whnf
   subst g_4
   unfold xrc14_4
   obtain ⟨c_5,g_5⟩:∃ c,xrc14_5=c:=⟨_,rfl⟩
   rw [g_5]
   conv=>whnf
   obtain ⟨r5,hb6,h⟩:=bd_some h
   refine ⟨(allc (pu_agg (allc rfl (allc (pu_map (fun _=>rfl) _ _ _) (allc rfl (allc rfl rfl))))) (allc (pu_flat (fun _=>(allc rfl (allc rfl rfl))) _ _ _) (allc (pu_map (fun _=>(pu_map (fun _=>rfl) _ _ _)) _ _ _) rfl))),_,x28_ok hb6,?_⟩
   conv=>whnf
   subst g_5
   unfold xrc14_5
   obtain ⟨c_6,g_6⟩:∃ c,xrc14_6=c:=⟨_,rfl⟩
   rw [g_6]
   conv=>whnf
   obtain ⟨r6,hb7,h⟩:=bd_some h
   refine ⟨(allc (pu_agg (allc rfl (allc (pu_map (fun _=>rfl) _ _ _) (allc rfl (allc rfl rfl))))) (allc (pu_flat (fun _=>(allc rfl (allc rfl rfl))) _ _ _) (allc (pu_map (fun _=>(pu_map (fun _=>rfl) _ _ _)) _ _ _) rfl))),_,x30_ok hb7,?_⟩
   conv=>whnf
   subst g_6
   unfold xrc14_6
   obtain ⟨c_7,g_7⟩:∃ c,xrc14_7=c:=⟨_,rfl⟩
   rw [g_7]
   conv=>whnf
   obtain ⟨r7,hb8,h⟩:=bd_some h
   refine ⟨(allc (pu_agg (allc rfl (allc (pu_map (fun _=>rfl) _ _ _) (allc rfl (allc rfl rfl))))) rfl),_,x18_ok hb8,?_⟩
   conv=>whnf
   subst g_7
   unfold xrc14_7
   obtain ⟨c_8,g_8⟩:∃ c,xrc14_8=c:=⟨_,rfl⟩
   rw [g_8]
   obtain ⟨c_9,g_9⟩:∃ c,xrc14_9=c:=⟨_,rfl⟩
   rw [g_9]
   conv=>whnf
   rcases bt (decide (r4.2.2≠(0:Int))) with hb9 | hb9
   ·rw [hb9]
    conv=>whnf
    replace h:=it_t hb9 h
    subst g_8
    unfold xrc14_8
    skip
    conv=>whnf
    obtain rfl:=Option.some.inj h
    exact hR _ _ ⟨.inr rfl,_,rfl,_,frz_pure rfl,rfl⟩
   ·rw [hb9]
    conv=>whnf
    replace h:=it_f hb9 h
    rcases bt (decide (r5.2≠(0:Int))) with hb10 | hb10
    ·rw [hb10]
     conv=>whnf
     replace h:=it_t hb10 h
     subst g_8
     unfold xrc14_8
     skip
     conv=>whnf
     obtain rfl:=Option.some.inj h
     exact hR _ _ ⟨.inr rfl,_,rfl,_,frz_pure rfl,rfl⟩
    ·rw [hb10]
     conv=>whnf
     replace h:=it_f hb10 h
     rcases bt (decide (r6.2≠(0:Int))) with hb11 | hb11
     ·rw [hb11]
      conv=>whnf
      replace h:=it_t hb11 h
      subst g_8
      unfold xrc14_8
      skip
      conv=>whnf
      obtain rfl:=Option.some.inj h
      exact hR _ _ ⟨.inr rfl,_,rfl,_,frz_pure rfl,rfl⟩
     ·rw [hb11]
      conv=>whnf
      replace h:=it_f hb11 h
      rcases bt (decide ((r5.1.length:Int)≠(panels.length:Int))) with hb12 | hb12
      ·rw [hb12]
       conv=>whnf
       replace h:=it_t hb12 h
       subst g_8
       unfold xrc14_8
       skip
       conv=>whnf
       obtain rfl:=Option.some.inj h
       exact hR _ _ ⟨.inr rfl,_,rfl,_,frz_pure rfl,rfl⟩
      ·rw [hb12]
       conv=>whnf
       replace h:=it_f hb12 h
       rcases bt (decide ((r6.1.length:Int)≠(panels.length:Int))) with hb13 | hb13
       ·rw [hb13]
        conv=>whnf
        replace h:=it_t hb13 h
        subst g_8
        unfold xrc14_8
        skip
        conv=>whnf
        obtain rfl:=Option.some.inj h
        exact hR _ _ ⟨.inr rfl,_,rfl,_,frz_pure rfl,rfl⟩
       ·rw [hb13]
        conv=>whnf
        replace h:=it_f hb13 h
        rcases bt (decide (r7.2≠(0:Int))) with hb14 | hb14
        ·rw [hb14]
         conv=>whnf
         replace h:=it_t hb14 h
         subst g_8
         unfold xrc14_8
         skip
         conv=>whnf
         obtain rfl:=Option.some.inj h
         exact hR _ _ ⟨.inr rfl,_,rfl,_,frz_pure rfl,rfl⟩
        ·rw [hb14]
         conv=>whnf
         replace h:=it_f hb14 h
         obtain ⟨r8,hb15,h⟩:=bd_some h
         refine ⟨(allc (pu_agg (allc rfl (allc (pu_map (fun _=>rfl) _ _ _) (allc rfl (allc rfl rfl))))) rfl),_,x51_ok hb15,?_⟩
         conv=>whnf
         obtain ⟨r9,hb16,h⟩:=bd_some h
         refine ⟨(allc (pu_map (fun _=>rfl) _ _ _) (allc (pu_map (fun _=>rfl) _ _ _) rfl)),_,x24_ok hb16,?_⟩
         conv=>whnf
         subst g_8
         unfold xrc14_8
         skip
         conv=>whnf
         cases r9
         ·conv=>whnf
          replace h:=it_f rfl h
          obtain rfl:=Option.some.inj h
          exact hR _ _ ⟨.inr rfl,_,rfl,_,frz_pure rfl,rfl⟩
         ·conv=>whnf
          replace h:=it_t rfl h
          subst g_9
          unfold xrc14_9
          obtain ⟨c_10,g_10⟩:∃ c,xrc14_10=c:=⟨_,rfl⟩
          rw [g_10]
          obtain ⟨c_11,g_11⟩:∃ c,xrc14_11=c:=⟨_,rfl⟩
          rw [g_11]
          conv=>whnf
          subst g_11
          unfold xrc14_11
          obtain ⟨c_16,g_16⟩:∃ c,xrc14_16=c:=⟨_,rfl⟩
          rw [g_16]
          conv=>whnf
          subst g_16
          refine x14_l1_ok ?_ ?_ (by exact rfl) h
          ·exact fun T H hh=>hR T H hh
          ·intro z1 u0 u2 u6 u10 u12 u14 u15 u16 u18 u19 u20 u21 u22 u23 u24 u25 u26 u27 u28 u29 u30 u31 u32 u33 u34 u35 u36 u37 u38 u39 u40 u41 u42 u43 u44 u45 u46 u47 u48 u49 u50 u51 u52 u53 u54 u55 u56 u57 u58 u59 u60 u61 u62 u63 u64 u65 u66 u67 u68 u69 u70 u71 u72 u73 u74 u75 u76 u77 u78 u79 u80 u81 u82 u83 u84 u85 u86 u87 u88 u89 u90 u91 u92 u93 u94 u95 u96 u97 u98 u99 u100 u101 u102 u103 u104 u105 u106 u107 u108 u109 u110 u111 u112 u113 u114 u115 u116 u117 u118 u119 u120 u121 u122 u123 u124 u125 u126 u127 u128 u129 u130 u131 u132 u133 u134 u135 u136 u137 u138 u139 u140 u141 u142 u143 u144 u145 u146 u147 u148 u149 u150 u151 u152 u153 u154 u155 u156 u157 u158 u159 u160 u161 u162 u163 u164 u165 u166 u167 u168 u169 u170 u171 u172 u173 u174 u175 u176 u177 u178 u179 u180 u181 u182 u183 u184 u185 u186 u187 u188 u189 u190 u191 u192 u193 u194 u195 u196 u197 u198 u199 u200 u201 u202 u203 u204 u205 u206 u207 u208 u209 u210 u211 u212 u213 u214 u215 u216 u217 u218 u219 u220 u221 u222 u223 u224 u225 u226 u227 u228 u229 u230 u231 u232 u233 u234 u235 u236 u237 u238 h
           conv=>whnf
           subst g_10
           unfold xrc14_10
           obtain ⟨c_17,g_17⟩:∃ c,xrc14_17=c:=⟨_,rfl⟩
           rw [g_17]
           obtain ⟨c_18,g_18⟩:∃ c,xrc14_18=c:=⟨_,rfl⟩
           rw [g_18]
           conv=>whnf
           subst g_18
           unfold xrc14_18
           obtain ⟨c_28,g_28⟩:∃ c,xrc14_28=c:=⟨_,rfl⟩
           rw [g_28]
           conv=>whnf
           subst g_28
           refine x14_l2_ok ?_ ?_ (by exact rfl) h
           ·exact fun T H hh=>hR T H hh
           ·intro u0 u2 u6 u7 u10 u11 u12 u13 u14 u15 u16 u18 u19 u20 u21 u22 u23 u24 u25 u26 u27 u28 u29 u30 u31 u32 u33 u34 u35 u36 u37 u38 u39 u40 u41 u42 u43 u44 u45 u46 u47 u48 u49 u50 u51 u52 u53 u54 u55 u56 u57 u58 u59 u60 u61 u62 u63 u64 u65 u66 u67 u68 u69 u70 u71 u72 u73 u74 u75 u76 u77 u78 u79 u80 u81 u82 u83 u84 u85 u86 u87 u88 u89 u90 u91 u92 u93 u94 u95 u96 u97 u98 u99 u100 u101 u102 u103 u104 u105 u106 u107 u108 u109 u110 u111 u112 u113 u114 u115 u116 u117 u118 u119 u120 u121 u122 u123 u124 u125 u126 u127 u128 u129 u130 u131 u132 u133 u134 u135 u136 u137 u138 u139 u140 u141 u142 u143 u144 u145 u146 u147 u148 u149 u150 u151 u152 u153 u154 u155 u156 u157 u158 u159 u160 u161 u162 u163 u164 u165 u166 u167 u168 u169 u170 u171 u172 u173 u174 u175 u176 u177 u178 u179 u180 u181 u182 u183 u184 u185 u186 u187 u188 u189 u190 u191 u192 u193 u194 u195 u196 u197 u198 u199 u200 u201 u202 u203 u204 u205 u206 u207 u208 u209 u210 u211 u212 u213 u214 u215 u216 u217 u218 u219 u220 u221 u222 u223 u224 u225 u226 u227 u228 u229 u230 u231 u232 u233 u234 u235 u236 u237 u238 h
            conv=>whnf
            subst g_17
            unfold xrc14_17
            skip
            conv=>whnf
            rcases bt (decide ((panels.length:Int)=(0:Int))) with hb51 | hb51
            ·rw [hb51]
             conv=>whnf
             replace h:=it_t hb51 h
             obtain ⟨r12,hb52,h⟩:=bd_some h
             refine ⟨rfl,_,x17_ok hb52,?_⟩
             conv=>whnf
             obtain rfl:=Option.some.inj h
             exact hR _ _ ⟨.inr rfl,_,rfl,_,frz_pure rfl,rfl⟩
            ·rw [hb51]
             conv=>whnf
             replace h:=it_f hb51 h
             rcases bt (decide (z1=(w (r4.1+(w (b.2.2.2*r4.2.1)))))) with hb53 | hb53
             ·rw [hb53]
              conv=>whnf
              replace h:=it_t hb53 h
              obtain ⟨r13,hb54,h⟩:=bd_some h
              refine ⟨rfl,_,x17_ok hb54,?_⟩
              conv=>whnf
              obtain rfl:=Option.some.inj h
              exact hR _ _ ⟨.inr rfl,_,rfl,_,frz_pure rfl,rfl⟩
             ·rw [hb53]
              conv=>whnf
              replace h:=it_f hb53 h
              obtain rfl:=Option.some.inj h
              exact hR _ _ ⟨.inr rfl,_,rfl,_,frz_pure rfl,rfl⟩

def stepT (ps:List (Int×Int)) (c last:Int) (t:List Int):Int:=c*max (last-heatT ps t) (heatT ps t-last)+hourT ps t
def endT (ps:List (Int×Int)) (c:Int):Int→Int→List (List Int)→Nat→Int
 | s,_,[],_=>s
 | s,last,t::_,0=>s+stepT ps c last t
 | s,last,t::r,j+1=>endT ps c (s+stepT ps c last t) (heatT ps t) r j
theorem ix_set_ne {D:List Int} {x y v:Int} (hx:0≤x) (hy:0≤y) (h:x≠y):ix (D.set x.toNat v) y=ix D y:=by
 unfold ix
 rw [List.getD_eq_getElem?_getD,List.getD_eq_getElem?_getD,List.getElem?_set_ne (by omega)]
theorem ix_set_eq {D:List Int} {x v:Int} (hx:0≤x∧x<(D.length:Int)):ix (D.set x.toNat v) x=v:=by
 unfold ix
 rw [List.getD_eq_getElem?_getD,List.getElem?_set_self (by omega)];rfl
theorem setAll_out (v:Int):∀ (t D:List Int) (y:Int),(∀ x∈t,0≤x)→0≤y→y ∉ t→ix (setAll D t v) y=ix D y
 | [],_,_,_,_,_=>rfl
 | x::t,D,y,h,hy,hn=>by
   show ix (setAll (D.set x.toNat v) t v) y=_
   rw [setAll_out v t _ y (fun a ha=>h a (by simp [ha])) hy (fun hm=>hn (by simp [hm])),ix_set_ne (h x (by simp)) hy (fun e=>hn (by simp [e]))]
theorem setAll_in (v:Int):∀ (t D:List Int) (y:Int),(∀ x∈t,0≤x∧x<(D.length:Int))→y∈t→ix (setAll D t v) y=v
 | [],_,_,_,hy=>by cases hy
 | x::t,D,y,h,hy=>by
   show ix (setAll (D.set x.toNat v) t v) y=_
   by_cases hm:y∈t
   ·exact setAll_in v t _ y (fun a ha=>by rw [List.length_set];exact h a (by simp [ha])) hm
   ·have e:y=x:=by rcases List.mem_cons.1 hy with h | h;exact h;exact absurd h hm
    subst e
    have hy0:=h y (by simp)
    rw [setAll_out v t _ y (fun a ha=>(h a (by simp [ha])).1) hy0.1 hm,ix_set_eq hy0]
theorem doneF_out (ps:List (Int×Int)) (c:Int):∀ (ts:List (List Int)) (s l:Int) (D:List Int) (y:Int),(∀ x∈ts.flatten,0≤x)→0≤y→y ∉ ts.flatten→ix (doneF ps c s l ts D) y=ix D y
 | [],_,_,_,_,_,_,_=>rfl
 | t::r,s,l,D,y,h,hy,hn=>by
   rw [List.flatten_cons] at h hn
   rw [doneF,doneF_out ps c r _ _ _ y (fun x hx=>h x (List.mem_append_right _ hx)) hy (fun hm=>hn (List.mem_append_right _ hm)),setAll_out _ t D y (fun x hx=>h x (List.mem_append_left _ hx)) hy (fun hm=>hn (List.mem_append_left _ hm))]
theorem doneF_in (ps:List (Int×Int)) (c:Int):∀ (ts:List (List Int)) (s l:Int) (D:List Int) (j:Nat) (hj:j<ts.length) (y:Int),(∀ x∈ts.flatten,0≤x∧x<(D.length:Int))→ts.flatten.Nodup→y∈ts[j]→ix (doneF ps c s l ts D) y=endT ps c s l ts j
 | [],_,_,_,j,hj,_,_,_,_=>absurd hj (by simp)
 | t::r,s,l,D,j,hj,y,h,hn,hy=>by
   rw [List.flatten_cons] at h hn
   obtain ⟨n1,n2,n3⟩:=List.pairwise_append.1 hn
   cases j with
   | zero =>
     have hy:y∈t:=hy
     have hy0:=h y (List.mem_append_left _ hy)
     rw [doneF,doneF_out ps c r _ _ _ y (fun x hx=>(h x (List.mem_append_right _ hx)).1) hy0.1 (fun hm=>n3 y hy y hm rfl),setAll_in _ t D y (fun x hx=>h x (List.mem_append_left _ hx)) hy];rfl
   | succ j =>
     have hj':j<r.length:=by simpa using hj
     rw [doneF]
     exact doneF_in ps c r _ _ _ j hj' y (fun x hx=>by rw [setAll_len];exact h x (List.mem_append_right _ hx)) n2 hy
theorem lieT_out {D t wl:List Int} {y:Int} (hy:0≤y) (h:∀ x∈t,0≤x) (hn:y ∉ t):∀ i,i≤t.length→ix (lieT D t wl i) y=ix D y
 | 0,_=>rfl
 | i+1,hi=>by
   have hl:i<t.length:=hi
   have hm:=List.getElem_mem hl
   rw [lieT,ix_nat hl,ix_set_ne (h _ hm) hy (fun e=>hn (by rw [←e];exact hm)),lieT_out hy h hn i (by omega)]
theorem lieT_in {D t wl:List Int} (h:∀ x∈t,0≤x∧x<(D.length:Int)) (hn:t.Nodup):∀ (i:Nat),i≤t.length→∀ (j:Nat) (hj:j<i) (hjt:j<t.length),ix (lieT D t wl i) t[j]=ix wl (j:Int)
 | 0,_,j,hj,_=>absurd hj (by omega)
 | i+1,hi,j,hj,hjt=>by
   have hl:i<t.length:=hi
   have hm:=h _ (List.getElem_mem hl)
   rw [lieT,ix_nat hl]
   by_cases e:j=i
   ·subst e
    exact ix_set_eq (by rw [lieT_len];exact hm)
   ·have hne:t[i]≠t[j]:=fun e2=>by
     rcases Nat.lt_or_ge j i with h1 | h1
     ·exact (List.pairwise_iff_getElem.1 hn j i hjt hl h1) e2.symm
     ·exact (List.pairwise_iff_getElem.1 hn i j hl hjt (by omega)) e2
    rw [ix_set_ne hm.1 (h _ (List.getElem_mem hjt)).1 hne]
    exact lieT_in h hn i (by omega) j (by omega) hjt
theorem lieF_out {wl:List Int}:∀ (ts:List (List Int)) (D:List Int) (y:Int),(∀ x∈ts.flatten,0≤x)→0≤y→y ∉ ts.flatten→ix (lieF wl ts D) y=ix D y
 | [],_,_,_,_,_=>rfl
 | t::r,D,y,h,hy,hn=>by
   rw [List.flatten_cons] at h hn
   rw [lieF,lieF_out r _ y (fun x hx=>h x (List.mem_append_right _ hx)) hy (fun hm=>hn (List.mem_append_right _ hm)),lieT_out hy (fun x hx=>h x (List.mem_append_left _ hx)) (fun hm=>hn (List.mem_append_left _ hm)) _ (Nat.le_refl _)]
theorem lieF_in {wl:List Int}:∀ (ts:List (List Int)) (D:List Int) (j:Nat) (hj:j<ts.length) (i:Nat) (hi:i<ts[j].length),(∀ x∈ts.flatten,0≤x∧x<(D.length:Int))→ts.flatten.Nodup→ix (lieF wl ts D) ts[j][i]=ix wl (i:Int)
 | [],_,j,hj,_,_,_,_=>absurd hj (by simp)
 | t::r,D,j,hj,i,hi,h,hn=>by
   rw [List.flatten_cons] at h hn
   obtain ⟨n1,n2,n3⟩:=List.pairwise_append.1 hn
   cases j with
   | zero =>
     have hi:i<t.length:=hi
     have hy:t[i]∈t:=List.getElem_mem hi
     have hy0:=h _ (List.mem_append_left _ hy)
     show ix (lieF wl (t::r) D) t[i]=_
     rw [lieF,lieF_out r _ _ (fun x hx=>(h x (List.mem_append_right _ hx)).1) hy0.1 (fun hm=>n3 _ hy _ hm rfl)]
     exact lieT_in (fun x hx=>h x (List.mem_append_left _ hx)) n1 _ (Nat.le_refl _) i hi hi
   | succ j =>
     have hj':j<r.length:=by simpa using hj
     show ix (lieF wl (t::r) D) r[j][i]=_
     rw [lieF]
     exact lieF_in r _ j hj' i hi (fun x hx=>by rw [lieT_len];exact h x (List.mem_append_right _ hx)) n2
theorem far_tri {c:Int} (hc:0≤c) (a b d:Int):c*max (a-d) (d-a)≤c*max (a-b) (b-a)+c*max (b-d) (d-b):=by
 rw [←Int.mul_add];exact Int.mul_le_mul_of_nonneg_left (by omega) hc
theorem endT_ge {ps:List (Int×Int)} {c:Int} (hc:0≤c):∀ (ts:List (List Int)) (s l:Int) (j:Nat) (hj:j<ts.length),(∀ t∈ts,0≤hourT ps t)→s+(c*max (l-heatT ps ts[j]) (heatT ps ts[j]-l)+hourT ps ts[j])≤endT ps c s l ts j
 | [],_,_,j,hj,_=>absurd hj (by simp)
 | t::r,s,l,0,_,_=>Int.le_refl _
 | t::r,s,l,j+1,hj,hh=>by
   have hj':j<r.length:=by simpa using hj
   have ih:=endT_ge hc r (s+stepT ps c l t) (heatT ps t) j hj' (List.forall_mem_cons.1 hh).2
   have h1:=far_tri hc l (heatT ps t) (heatT ps r[j])
   have h2:=(List.forall_mem_cons.1 hh).1
   show s+(c*max (l-heatT ps r[j]) (heatT ps r[j]-l)+hourT ps r[j])≤endT ps c (s+stepT ps c l t) (heatT ps t) r j
   unfold stepT at ih ⊢
   omega
theorem endT_succ {ps:List (Int×Int)} {c:Int} (hc:0≤c):∀ (ts:List (List Int)) (s l:Int) (j:Nat),j+1<ts.length→(∀ t∈ts,1≤hourT ps t)→endT ps c s l ts j<endT ps c s l ts (j+1)
 | [],_,_,j,hj,_=>absurd hj (by simp)
 | [t],_,_,j,hj,_=>absurd hj (by simp)
 | t::u::r,s,l,0,_,hh=>by
   show s+stepT ps c l t<s+stepT ps c l t+stepT ps c (heatT ps t) u
   have h1:=hh u (by simp)
   have h2:0≤c*max (heatT ps t-heatT ps u) (heatT ps u-heatT ps t):=Int.mul_nonneg hc (by omega)
   have:1≤stepT ps c (heatT ps t) u:=by unfold stepT;omega
   omega
 | t::u::r,s,l,j+1,hj,hh=>endT_succ hc (u::r) _ _ j (by simpa using hj) (List.forall_mem_cons.1 hh).2
theorem endT_last {ps:List (Int×Int)} {c:Int}:∀ (ts:List (List Int)) (s l:Int),0<ts.length→endT ps c s l ts (ts.length-1)=s+(tHours ps ts+c*walk l (ts.map (heatT ps)))
 | [],_,_,h=>absurd h (by simp)
 | [t],s,l,_=>by
   show s+stepT ps c l t=s+((hourT ps t+0)+c*(max (l-heatT ps t) (heatT ps t-l)+0))
   unfold stepT;rw [Int.add_zero,Int.add_zero];omega
 | t::u::r,s,l,_=>by
   have ih:=endT_last (ps:=ps) (c:=c) (u::r) (s+stepT ps c l t) (heatT ps t) (by simp)
   show endT ps c (s+stepT ps c l t) (heatT ps t) (u::r) ((u::r).length-1)=_
   rw [ih]
   have e1:tHours ps (t::u::r)=hourT ps t+tHours ps (u::r):=rfl
   have e2:walk l ((t::u::r).map (heatT ps))=max (l-heatT ps t) (heatT ps t-l)+walk (heatT ps t) ((u::r).map (heatT ps)):=rfl
   rw [e1,e2,Int.mul_add]
   unfold stepT;omega
theorem endT_mono {ps:List (Int×Int)} {c:Int} (hc:0≤c) {ts:List (List Int)} {s l:Int} (hh:∀ t∈ts,1≤hourT ps t):∀ d j:Nat,j+d<ts.length→endT ps c s l ts j≤endT ps c s l ts (j+d)
 | 0,j,_=>Int.le_refl _
 | d+1,j,h=>by
   have h1:=endT_mono hc hh d j (by omega) (s:=s) (l:=l)
   have h2:=endT_succ hc ts s l (j+d) (by omega) hh
   rw [show j+(d+1)=j+d+1 by omega];omega

theorem x14_l1_eq {b:Bed} (hB:BedOk b) {ps:List (Int×Int)} (hp:PsOk ps) {D L W:List Int} {e5 e6 e7:Int} (hD:D.length=ps.length) (hL:L.length=ps.length) (hA:∀ i:Nat,(h:i<ps.length)→ps[i].2+b.2.2.2*max (b.2.2.1-ps[i].1) (ps[i].1-b.2.2.1)≤ix D (i:Int)) (hM:∀ i:Nat,i<ps.length→ix L (i:Int)∈W) (hW:W.length≤1000) {k:Int→Option Bool}:∀ (m i:Nat) (z s:Int),z=i→i≤ps.length→ps.length-i<m→x14_l1 b ps (D,e5) (L,e6) (W,e7) k m s z=k (maxL s (D.drop i))
 | 0,i,_,_,_,_,h=>absurd h (by omega)
 | m+1,i,_,s,rfl,hi,hm=>by
   have hpl:=hp.len
   have hh:=hB.h0
   have hc:=hB.c0
   rw [x14_l1]
   by_cases h:i<ps.length
   ·have h1:=hp.heat _ (List.getElem_mem h)
    have h2:=hp.hour _ (List.getElem_mem h)
    have hf:=farD_eq (a:=b.2.2.1) (b:=ps[i].1) (by omega) (by omega)
    have e52:x52 b.2.2.1 ps[i].1=some (max (b.2.2.1-ps[i].1) (ps[i].1-b.2.2.1)):=by rw [←hf];rfl
    have hA1:=hA i h
    have hF:0≤max (b.2.2.1-ps[i].1) (ps[i].1-b.2.2.1)∧max (b.2.2.1-ps[i].1) (ps[i].1-b.2.2.1)≤20:=by omega
    have hcg:0≤b.2.2.2*max (b.2.2.1-ps[i].1) (ps[i].1-b.2.2.1)∧b.2.2.2*max (b.2.2.1-ps[i].1) (ps[i].1-b.2.2.1)≤200:=by
     refine ⟨Int.mul_nonneg hc.1 hF.1,?_⟩
     have:=Int.mul_le_mul hc.2 hF.2 hF.1 (by omega)
     omega
    have g5:0≤(i:Int)∧(i:Int)<((D,e5).1.length:Int):=by show 0≤(i:Int)∧(i:Int)<(D.length:Int);omega
    have g6:0≤(i:Int)∧(i:Int)<((L,e6).1.length:Int):=by show 0≤(i:Int)∧(i:Int)<(L.length:Int);omega
    rw [iflt h,gd_pos g5,gd_pos g5,gdi h,gdi h,ix_nat h,e52,Option.bind_some,w_id (n:=b.2.2.2*_) (by omega),w_id (n:=ps[i].2+_) (by omega)]
    show (if (decide (ix D (i:Int)<_))=true then _ else _)=_
    rw [if_neg (by rw [decide_eq_true_eq];omega),gd_pos g6]
    show (x53 W (ix L (i:Int))).bind _=_
    rw [x53_eq _ _ (by omega),Option.bind_some,decide_eq_true (hM i h),if_pos rfl,w_succ i (by omega)]
    have hDi:i<D.length:=by omega
    rw [List.drop_eq_getElem_cons hDi]
    have:=x14_l1_eq hB hp (e5:=e5) (e6:=e6) (e7:=e7) hD hL hA hM hW (k:=k) m (i+1) _ (max s (ix D (i:Int))) rfl (by omega) (by omega)
    rw [ix_nat hDi] at this
    show x14_l1 b ps (D,e5) (L,e6) (W,e7) k m (max s (ix D (i:Int))) _=_
    rw [ix_nat hDi]
    exact this
   ·obtain rfl:i=ps.length:=by omega
    rw [ifge h,←hD,List.drop_length];rfl
theorem x14_l3_eq {r3:List (List Int)} {D L:List Int} {e5 e6:Int} {j:Nat} (hj:j<r3.length) {t:List Int} (ht:ix r3 (j:Int)=t) (hl:t.length≤1000) (h0:0<t.length) (hD:∀ x∈t,0≤x∧x<(D.length:Int)) (hL:∀ x∈t,0≤x∧x<(L.length:Int)) (hE:∀ x∈t,ix D x=ix D (ix t 0)) (hI:∀ i:Nat,(h:i+1<t.length)→ix L t[i]<ix L t[i+1]) {k:Unit→Option Bool}:∀ (m i:Nat) (z:Int),z=(i:Int)+1→i+1≤t.length→t.length-i<m→x14_l3 r3 (D,e5) (L,e6) (j:Int) k m z=k ()
 | 0,i,_,_,_,h=>absurd h (by omega)
 | m+1,i,_,rfl,hi,hm=>by
   rw [x14_l3,gdi hj,ht]
   have e1:(i:Int)+1=((i+1:Nat):Int):=by omega
   rw [e1]
   by_cases h:i+1<t.length
   ·have hm1:=List.getElem_mem h
    have hm0:t[i]∈t:=List.getElem_mem (by omega)
    have w1:w (((i+1:Nat):Int)-1)=(i:Int):=by rw [w_id (by omega)];omega
    rw [iflt h,gdi hj,gdi h,ix_nat h]
    rw [gd_pos (show 0≤t[i+1]∧t[i+1]<((D,e5).1.length:Int) from hD _ hm1),gdi hj,gd_pos ⟨by omega,by omega⟩,gd_pos (show 0≤ix t 0∧ix t 0<((D,e5).1.length:Int) from hD _ (ix0_mem h0))]
    show (if (decide (ix D t[i+1]≠ix D (ix t 0)))=true then _ else _)=_
    rw [hE _ hm1,if_neg (by simp),gdi hj,gdi h]
    rw [gd_pos (show 0≤t[i+1]∧t[i+1]<((L,e6).1.length:Int) from hL _ hm1),gdi hj,w1,gdi (show i<t.length by omega),ix_nat (show i<t.length by omega)]
    rw [gd_pos (show 0≤t[i]∧t[i]<((L,e6).1.length:Int) from hL _ hm0)]
    show (if (decide (ix L t[i+1]≤ix L t[i]))=true then _ else _)=_
    have:=hI i h
    rw [if_neg (by rw [decide_eq_true_eq];omega)]
    exact x14_l3_eq hj ht hl h0 hD hL hE hI m (i+1) _ (by rw [w_id (by omega)]) (by omega) (by omega)
   ·rw [ifge h]
theorem x14_l2_eq {r3:List (List Int)} {D L:List Int} {e5 e6:Int} (h3:r3.length≤1000) (hl:∀ t∈r3,t.length≤1000) (h0:∀ t∈r3,0<t.length) (hD:∀ t∈r3,∀ x∈t,0≤x∧x<(D.length:Int)) (hL:∀ t∈r3,∀ x∈t,0≤x∧x<(L.length:Int)) {E:Nat→Int} (hE:∀ j:Nat,(h:j<r3.length)→∀ x∈r3[j],ix D x=E j) (hinc:∀ j:Nat,j+1<r3.length→E j<E (j+1)) (hI:∀ t∈r3,∀ i:Nat,(h:i+1<t.length)→ix L t[i]<ix L t[i+1]) {k:Unit→Option Bool}:∀ (m j:Nat) (z:Int),z=j→j≤r3.length→r3.length-j<m→x14_l2 r3 (D,e5) (L,e6) k m z=k ()
 | 0,i,_,_,_,h=>absurd h (by omega)
 | m+1,j,_,rfl,hi,hm=>by
   rw [x14_l2]
   by_cases h:j<r3.length
   ·have hmem:=List.getElem_mem h
    have hz:=h0 _ hmem
    have hEj:=hE j h
    have e0:=hEj _ (ix0_mem hz)
    have e3:=fun k=>x14_l3_eq (D:=D) (L:=L) (e5:=e5) (e6:=e6) (k:=k) h (ix_nat h) (hl _ hmem) hz (hD _ hmem) (hL _ hmem) (fun x hx=>by rw [hEj x hx,e0]) (hI _ hmem) FU 0 1 rfl (by omega) (FU_lt (by have:=hl _ hmem;omega))
    rw [iflt h]
    refine (e3 _).trans ?_
    have ih:=x14_l2_eq (e5:=e5) (e6:=e6) h3 hl h0 hD hL hE hinc hI (k:=k) m (j+1) _ rfl (by omega) (by omega)
    by_cases hj:j=0
    ·subst hj
     rw [if_neg (by decide)]
     rw [w_succ 0 (by omega)];exact ih
    ·obtain ⟨j',rfl⟩:∃ j',j=j'+1:=⟨j-1,by omega⟩
     have h':j'<r3.length:=by omega
     have hmem':=List.getElem_mem h'
     have hz':=h0 _ hmem'
     have e0':=hE j' h' _ (ix0_mem hz')
     have w1:w (((j'+1:Nat):Int)-1)=(j':Int):=by rw [w_id (by omega)];omega
     rw [if_pos (decide_eq_true (by omega)),gdi h,ix_nat h,gd_pos ⟨by omega,by omega⟩,gd_pos (show 0≤ix r3[j'+1] 0∧ix r3[j'+1] 0<((D,e5).1.length:Int) from hD _ hmem _ (ix0_mem hz)),w1,gdi h',ix_nat h',gd_pos ⟨by omega,by omega⟩,gd_pos (show 0≤ix r3[j'] 0∧ix r3[j'] 0<((D,e5).1.length:Int) from hD _ hmem' _ (ix0_mem hz'))]
     show (if (decide (ix D (ix r3[j'+1] 0)≤ix D (ix r3[j'] 0)))=true then _ else _)=_
     have:=hinc j' h
     rw [e0,e0',if_neg (by rw [decide_eq_true_eq];omega),w_succ _ (by omega)]
     exact ih
   ·rw [ifge h]
theorem hourT_pos {ps:List (Int×Int)} (hp:PsOk ps) {t:List Int} (h0:0<t.length) (hr:∀ x∈t,0≤x∧x<(ps.length:Int)):1≤hourT ps t:=by
 have h1:=(maxL_spec (t.map fun x=>(ix ps x).2) 0).2.1 _ (List.mem_map.2 ⟨_,ix0_mem h0,rfl⟩)
 have h2:=hp.hour _ (ixps_mem (hr _ (ix0_mem h0)))
 unfold hourT;omega
theorem whole_up (o:Nat) (br:List Int):(wholeL o br).Pairwise (·<·):=by
 unfold wholeL wholeN
 rw [List.pairwise_map]
 exact (List.pairwise_lt_range.filter _).imp fun h=>by omega
theorem x14_eq (b:Bed) (ps:List (Int×Int)) {nb:List Int} (h255:∀ x∈nb,0≤x∧x≤255):x14 b ps nb=some true:=by
 rw [x14]
 obtain ⟨r,hr,hf⟩:=x45_eq b ps
 rw [hr,Option.bind_some]
 cases r with
 | false=>rw [if_neg (by decide)];rfl
 | true =>
   obtain ⟨hl,hb,hp⟩:=hf rfl
   have hB:=bedOk hb
   have hc:=hB.c0
   have h1:=hB.o1;have h10:=hB.o10
   have hpl:=hp.len
   rw [if_pos rfl]
   by_cases h20:20<nb.length
   ·rw [if_pos (decide_eq_true (by omega))];rfl
   have hO:=givT_ok hb ps nb
   rw [if_neg (by rw [decide_eq_true_eq];omega),x47_eq hb hl hpl (by omega) h255,Option.bind_some,x26_given hb hl hp,Option.bind_some,x28_eq hb hl hp hO,Option.bind_some,x30_eq hb hl hp hO,Option.bind_some,x18_eq b (by omega),if_pos hb,Option.bind_some]
   generalize givT b ps nb=ts at hO ⊢
   have hcn:=hO.cnt
   have hnd:=hO.nd
   rw [List.nil_append] at hnd
   have hzl:(zeros ps.length).length=ps.length:=by simp [zeros]
   have hflr:∀ x∈ts.flatten,0≤x∧x<((zeros ps.length).length:Int):=fun x hx=>by
    obtain ⟨t,ht,hxt⟩:=List.mem_flatten.1 hx
    rw [hzl];exact hO.rng t ht x hxt
   obtain ⟨D,hDd⟩:∃ D,D=doneF ps b.2.2.2 0 b.2.2.1 ts (zeros ps.length):=⟨_,rfl⟩
   obtain ⟨L,hLd⟩:∃ L,L=lieF (wholeL b.1.toNat b.2.1) ts (zeros ps.length):=⟨_,rfl⟩
   obtain ⟨W,hWd⟩:∃ W,W=wholeL b.1.toNat b.2.1:=⟨_,rfl⟩
   have hW:=wholeL_len b.1.toNat b.2.1
   have hD:D.length=ps.length:=by rw [hDd,doneF_len,hzl]
   have hL:L.length=ps.length:=by rw [hLd,lieF_len,hzl]
   have hEq:∀ j:Nat,(h:j<ts.length)→∀ x∈ts[j],ix D x=endT ps b.2.2.2 0 b.2.2.1 ts j:=fun j h x hx=>by
    rw [hDd];exact doneF_in ps _ ts 0 _ _ j h x hflr hnd hx
   have hLq:∀ j:Nat,(h:j<ts.length)→∀ i:Nat,(hi:i<ts[j].length)→ix L ts[j][i]=ix W (i:Int):=fun j h i hi=>by
    rw [hLd,hWd];exact lieF_in ts _ j h i hi hflr hnd
   have hpos:∀ t∈ts,1≤hourT ps t:=fun t ht=>hourT_pos hp (hO.ne t ht) (hO.rng t ht)
   have hwl:∀ t∈ts,t.length≤W.length:=fun t ht=>by rw [hWd];exact hO.len t ht
   have hcov:∀ i:Nat,i<ps.length→∃ j,∃ hj:j<ts.length,∃ q,∃ hq:q<ts[j].length,ts[j][q]=(i:Int):=fun i hi=>by
    obtain ⟨t,ht,hx⟩:=hO.cover (x:=(i:Int)) ⟨by omega,by omega⟩
    obtain ⟨j,hj,rfl⟩:=List.mem_iff_getElem.1 ht
    obtain ⟨q,hq,e⟩:=List.mem_iff_getElem.1 hx
    exact ⟨j,hj,q,hq,e⟩
   rw [←hDd,←hLd,←hWd]
   rw [if_neg (by simp),if_neg (by simp),if_neg (by simp),if_neg (by simp [hD]),if_neg (by simp [hL]),if_neg (by simp),x51_eq b (by omega) (by omega),Option.bind_some,←hWd,x24_eq _ _ (by rw [hWd];show (wholeL b.1.toNat b.2.1).length≤_;omega),Option.bind_some,if_pos (by simp)]
   have hA:∀ i:Nat,(h:i<ps.length)→ps[i].2+b.2.2.2*max (b.2.2.1-ps[i].1) (ps[i].1-b.2.2.1)≤ix D (i:Int):=fun i h=>by
    obtain ⟨j,hj,q,hq,e⟩:=hcov i h
    have hmem:=List.getElem_mem hj
    have hx:(i:Int)∈ts[j]:=by rw [←e];exact List.getElem_mem hq
    have a1:=endT_ge (ps:=ps) hc.1 ts 0 b.2.2.1 j hj (fun t ht=>by have:=hpos t ht;omega)
    have a2:=hO.heat _ hmem _ hx
    have a3:(ix ps (i:Int)).2≤hourT ps ts[j]:=(maxL_spec (ts[j].map fun x=>(ix ps x).2) 0).2.1 _ (List.mem_map.2 ⟨_,hx,rfl⟩)
    rw [ix_nat h] at a2 a3
    rw [hEq j hj _ hx,a2]
    omega
   have hM:∀ i:Nat,i<ps.length→ix L (i:Int)∈W:=fun i h=>by
    obtain ⟨j,hj,q,hq,e⟩:=hcov i h
    have:=hwl _ (List.getElem_mem hj)
    rw [←e,hLq j hj q hq,ix_nat (by omega)]
    exact List.getElem_mem _
   refine (x14_l1_eq hB hp (e5:=0) (e6:=0) (e7:=0) hD hL hA hM (by rw [hWd];omega) FU 0 0 0 rfl (Nat.zero_le _) (FU_lt (by omega))).trans ?_
   rw [List.drop_zero]
   refine (x14_l2_eq (e5:=0) (e6:=0) (E:=fun j=>endT ps b.2.2.2 0 b.2.2.1 ts j) (by omega) (fun t ht=>by have:=hO.one t ht;omega) hO.ne (fun t ht x hx=>by rw [hD];exact hO.rng t ht x hx) (fun t ht x hx=>by rw [hL];exact hO.rng t ht x hx) hEq (fun j hj=>endT_succ hc.1 ts _ _ j hj hpos) (fun t ht i hi=>by
    obtain ⟨j,hj,rfl⟩:=List.mem_iff_getElem.1 ht
    have hle:=hwl _ ht
    rw [hLq j hj i (by omega),hLq j hj (i+1) hi,ix_nat (by omega),ix_nat (by omega)]
    have hup:=whole_up b.1.toNat b.2.1
    rw [←hWd] at hup
    exact List.pairwise_iff_getElem.1 hup i (i+1) (by omega) (by omega) (by omega)) FU 0 0 rfl (Nat.zero_le _) (FU_lt (by omega))).trans ?_
   by_cases h0:ps.length=0
   ·rw [if_pos (decide_eq_true (by omega))];rfl
   rw [if_neg (by rw [decide_eq_true_eq];omega)]
   have hts:0<ts.length:=by
    obtain ⟨j,hj,_⟩:=hcov 0 (by omega)
    omega
   have hlast:=endT_last (ps:=ps) (c:=b.2.2.2) ts 0 b.2.2.1 hts
   rw [Int.zero_add] at hlast
   have hmax:maxL 0 D=endT ps b.2.2.2 0 b.2.2.1 ts (ts.length-1):=by
    have s:=maxL_spec D 0
    have hdm:∀ x∈D,x≤endT ps b.2.2.2 0 b.2.2.1 ts (ts.length-1):=fun x hx=>by
     obtain ⟨i,hi,rfl⟩:=List.mem_iff_getElem.1 hx
     obtain ⟨j,hj,q,hq,e⟩:=hcov i (by omega)
     have e2:=hEq j hj _ (List.getElem_mem hq)
     rw [e,ix_nat hi] at e2
     have:=endT_mono (ps:=ps) hc.1 hpos (ts.length-1-j) j (by omega) (s:=0) (l:=b.2.2.1)
     rw [show j+(ts.length-1-j)=ts.length-1 by omega] at this
     omega
    have hll:ts.length-1<ts.length:=by omega
    have hml:=List.getElem_mem hll
    have hx0:=ix0_mem (hO.ne _ hml)
    have e2:=hEq _ hll _ hx0
    have hr0:=hO.rng _ hml _ hx0
    have hin:ix D (ix ts[ts.length-1] 0)∈D:=by rw [ix_of (by omega)];exact List.getElem_mem _
    have hge:=s.2.1 _ hin
    have h00:=endT_ge (ps:=ps) hc.1 ts 0 b.2.2.1 (ts.length-1) hll (fun t ht=>by have:=hpos t ht;omega)
    have hpo:=hpos _ hml
    have hmn:0≤b.2.2.2*max (b.2.2.1-heatT ps ts[ts.length-1]) (heatT ps ts[ts.length-1]-b.2.2.1):=Int.mul_nonneg hc.1 (by omega)
    refine Int.le_antisymm ?_ (by omega)
    rcases s.2.2 with h | h
    ·omega
    ·exact hdm _ h
   have hbT:∀ l:List (List Int),(∀ t∈l,∀ x∈t,0≤x∧x<(ps.length:Int))→0≤tHours ps l∧tHours ps l≤24*l.length:=fun l hl2=>sum_le l fun t ht=>hourT_in hp.hrs (hl2 t ht)
   have b1:=hbT ts hO.rng
   have b2:∀ (l:List (List Int)) (s:Int),(∀ t∈l,0≤heatT ps t∧heatT ps t≤20)→0≤s∧s≤20→walk s (l.map (heatT ps))≤20*l.length:=by
    intro l
    induction l with
    | nil=>intro s _ _;exact Int.le_refl _
    | cons t r ih =>
      intro s hs hs0
      have hh:=(List.forall_mem_cons.1 hs).1
      have:=ih (heatT ps t) (List.forall_mem_cons.1 hs).2 hh
      rw [List.map_cons,walk,List.length_cons];omega
   have b3:=b2 ts b.2.2.1 (fun t ht=>heatT_in hp (hO.ne t ht) (hO.rng t ht)) hB.h0
   have b4:=walk_nn (ts.map (heatT ps)) b.2.2.1
   have b5:0≤b.2.2.2*walk b.2.2.1 (ts.map (heatT ps))∧b.2.2.2*walk b.2.2.1 (ts.map (heatT ps))≤2400:=by
    refine ⟨Int.mul_nonneg hc.1 b4,?_⟩
    have:=Int.mul_le_mul hc.2 (show walk b.2.2.1 (ts.map (heatT ps))≤240 by omega) b4 (by omega)
    omega
   dsimp only
   rw [w_id (n:=b.2.2.2*_) (by omega),w_id (n:=tHours ps ts+_) (by omega),if_pos (decide_eq_true (by rw [hmax,hlast]))];rfl
theorem pressDone_ok (b:Bed) (ps:List (Int×Int)) (nb:List Int) {P1 P2:Prop} (_:P1) (_:P2) (h:Fy nb) :
  PO 14 [.agg [I b.1,L1 b.2.1,I b.2.2.1,I b.2.2.2],PL ps,Y1 nb] (B true):=x14_ok (x14_eq b ps h.2)
end Go.Proofs.YtbnbjjgagikobaaGreat.Ab
