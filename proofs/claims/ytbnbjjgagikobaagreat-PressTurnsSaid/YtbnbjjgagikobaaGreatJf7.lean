
import Derived.Test.YtbnbjjgagikobaaGreatJf4
import Derived.Test.YtbnbjjgagikobaaGreatJf6
import Derived.KernelRfl
import Derived.Test.YtbnbjjgagikobaaGreatJf5
set_option linter.unusedSimpArgs false
set_option linter.unusedVariables false
set_option linter.unusedSectionVars false
/- MADE BY PROGRAM (ex.py): functions as plain Lean, with their walks. -/
namespace Go.Proofs.YtbnbjjgagikobaaGreat.Ab
open Go
set_option maxRecDepth 20000
set_option maxHeartbeats 4000000
noncomputable def xrc29_1:RC :=
 .loop (some [o_,i_,i_,i_,o_,o_,o_,o_,o_,o_,o_,i_,i_,i_,i_,o_,i_,o_,o_,o_,o_,o_,o_,o_,o_,o_,o_,o_,o_,o_,o_,o_,o_,o_,o_,o_,o_,o_,o_,o_,o_,o_,o_,o_,o_,o_,o_,o_,o_,o_,o_,o_,o_,o_,o_,o_,o_,o_,o_,o_,o_,o_,o_,o_,o_,o_,o_,o_,o_,o_,o_,o_,o_,o_,o_,o_,o_,o_,o_,o_,o_,o_,o_,o_,o_]) (.seq (.seq (.reg false [I_ 65 [.sl 16] .mv,I_ 66 [.sl 2] .mv,I_ 67 [.sl 14]
 .mv,I_ 68 [.tv 66,.tv 67] (.ia 1),I_ 69 [.tv 68] (.ld .one),I_ 70 [.tk 69] .lenS,I_ 71 [.tv 65,.tv 70] (.bin .lss)]) (.cond (.sl 71) .skip (.exit 2))) (.seq (.block 3 (.reg false [I_ 74 [.sl 11] .mv,I_ 75 [.sl 2] .mv,I_
 76 [.sl 14] .mv,I_ 77 [.tv 75,.tv 76] (.ia 1),I_ 78 [.tv 77] (.ld .one),I_ 79 [.sl 16] .mv,I_ 80 [.tv 78,.tv 79] (.ia 1),I_ 81 [.tv 80] (.ld .one),I_ 82 [.sl 12] .mv,I_ 83 [.tv 74,.tv 81] (.ia 1),⟨none,[.tk 83,.tk
 82],none,none,.st 1⟩])) (.reg false [I_ 72 [.tk 16] .mv,I_ 73 [.tv 72,.cv (.int .i64 1)] (.bin .add),I_ 16 [.tk 73] .mv])))
noncomputable def xrc29_2:RC :=
 .loop (some [o_,i_,i_,i_,o_,o_,o_,o_,o_,o_,o_,i_,i_,i_,i_,o_,o_,o_,o_,o_,o_,o_,o_,o_,o_,o_,o_,o_,o_,o_,o_,o_,o_,o_,o_,o_,o_,o_,o_,o_,o_,o_,o_,o_,o_,o_,o_,o_,o_,o_,o_,o_,o_,o_,o_,o_,o_,o_,o_,o_,o_,o_,o_,o_,o_,o_,o_,o_,o_,o_,o_,o_,o_,o_,o_,o_,o_,o_,o_,o_,o_,o_,o_,o_,o_]) (.seq (.seq (.reg false [I_ 33 [.sl 14] .mv,I_ 34 [.sl 2] .mv,I_ 35 [.tk 34]
 .lenS,I_ 36 [.tv 33,.tv 35] (.bin .lss)]) (.cond (.sl 36) .skip (.exit 0))) (.seq (.block 1 (.seq (.reg false [I_ 39 [.sl 1] .mv,I_ 40 [.sl 2] .mv,I_ 41 [.sl 14] .mv,I_ 42 [.tv 40,.tv 41] (.ia 1),I_ 43 [.tv 42] (.ld
 .one),I_ 44 [.tv 43,.cv (.int .i64 0)] (.ia 1),I_ 45 [.tv 44] (.ld .one),I_ 46 [.tv 39,.tv 45] (.ia 2),I_ 47 [.tv 46] (.fa 0),I_ 48 [.tv 47] (.ld .one),I_ 15 [.tk 48] .mv]) (.seq (.reg true [I_ 49 [.tk 12] .mv,I_ 50
 [.sl 3] (.fa 3),I_ 51 [.tv 50] (.ld .one),I_ 52 [.tk 13] .mv,I_ 53 [.sl 15] .mv,I_ 54 [.cv (.func 52 [] []),.sl 52,.sl 53] (.call 3),I_ 55 [.tv 51,.tv 54] (.bin .mul),I_ 56 [.sl 1] .mv,I_ 57 [.sl 2] .mv,I_ 58 [.sl
 14] .mv,I_ 59 [.tv 57,.tv 58] (.ia 1),I_ 60 [.tv 59] (.ld .one),I_ 61 [.cv (.func 68 [] []),.sl 56,.sl 60] (.call 3),I_ 62 [.tv 55,.tv 61] (.bin .add),I_ 63 [.tv 49,.tv 62] (.bin .add),I_ 12 [.tk 63] .mv]) (.seq
 (.reg false [I_ 64 [.tk 15] .mv,I_ 13 [.tk 64] .mv]) (.seq (.reg false [I_ 16 [.cv (.int .i64 0)] .mv]) (.block 2 xrc29_1)))))) (.reg false [I_ 37 [.tk 14] .mv,I_ 38 [.tv 37,.cv (.int .i64 1)] (.bin .add),I_ 14 [.tk 38]
 .mv])))
noncomputable def xrc29:RC :=
 .seq (.reg false [I_ 3 [.tk 0] .box,I_ 6 [.cv (.lst [] 0 .full)] (.nil 1),I_ 7 [.cv (.int .i64 0)] .mv]) (.seq (.reg false [I_ 18 [.sl 3] (.ld (.str 4)),I_ 19 [.sl 1] .mv,I_ 20 [.sl 2] .mv,I_ 21 [.cv (.func 27 [] []),.sl
 18,.sl 19,.sl 20] (.call 3),I_ 17 [.tk 21] .mv,I_ 22 [.sl 17] (.ext 0),I_ 23 [.sl 17] (.ext 1),I_ 24 [.tv 17] (.ext 2),I_ 8 [.tk 22] .mv,I_ 9 [.tk 23] .mv,I_ 10 [.tk 24] .mv]) (.seq (.seq (.reg false [I_ 25 [.sl 10]
 .mv,I_ 26 [.tv 25,.cv (.int .i64 0)] (.bin .neq)]) (.cond (.sl 26) (.seq (.reg false [I_ 27 [.tk 10] .mv,I_ 6 [.cv (.lst [] 0 .full)] (.nil 1),I_ 7 [.tk 27] .mv]) .ret) .skip)) (.seq (.reg false [I_ 28 [.sl 1] .mv,I_ 29
 [.tk 28] .lenS,I_ 30 [.sl 29,.tv 29] (.mkS [.int .i64 0] 1 8),I_ 11 [.tk 30] .mv]) (.seq (.reg true [I_ 31 [.sl 3] (.fa 2),I_ 32 [.tv 31] (.ld .one),I_ 12 [.cv (.int .i64 0)] .mv,I_ 13 [.tk 32] .mv]) (.seq (.seq (.reg
 false [I_ 14 [.cv (.int .i64 0)] .mv]) (.block 0 xrc29_2)) (.seq (.reg false [I_ 84 [.tk 11] .mv,I_ 6 [.tk 84] .mv,I_ 7 [.cv (.int .i64 0)] .mv]) .ret))))))
theorem lxx29:linkF Tryz.prog ann29 29=some (xrc29,85,[.tmp 6,.tmp 7]):=by kernel_rfl
def x29_l2 (b:(Int×(List Int)×Int×Int)) (panels:(List (Int×Int))) (turns:(List (List Int))) (s1:Int) (s3:Int) (r2:Int) (r3:Int) (kl2_0:(List Int)→Option ((List Int)×Int)):Nat→Int→(List Int)→Option ((List Int)×Int)
 | 0,_,_=>none
 | m+1,s5,s6 =>
   gd (0≤s3∧s3<(turns.length:Int)) <|
   if (decide (s5<((ix turns s3).length:Int)))=true then
    gd (0≤s3∧s3<(turns.length:Int)) <|
    gd (0≤s5∧s5<((ix turns s3).length:Int)) <|
    gd (0≤(ix (ix turns s3) s5)∧(ix (ix turns s3) s5)<(((panels.length:Int).toNat:Nat):Int)∧(panels.length:Int).toNat=s6.length) <|
    x29_l2 b panels turns s1 s3 r2 r3 kl2_0 m (w (s5+(1:Int))) (s6.set (ix (ix turns s3) s5).toNat (w (s1+(w ((w (b.2.2.2*r2))+r3)))))
   else
    kl2_0 s6
def x29_l1 (b:(Int×(List Int)×Int×Int)) (panels:(List (Int×Int))) (turns:(List (List Int))) (kl1_0:(List Int)→Option ((List Int)×Int)):Nat→Int→Int→Int→(List Int)→Option ((List Int)×Int)
 | 0,_,_,_,_=>none
 | m+1,s1,s2,s3,s4 =>
   if (decide (s3<(turns.length:Int)))=true then
    gd (0≤s3∧s3<(turns.length:Int)) <|
    gd (0≤(0:Int)∧(0:Int)<((ix turns s3).length:Int)) <|
    gd (0≤(ix (ix turns s3) (0:Int))∧(ix (ix turns s3) (0:Int))<(panels.length:Int)) <|
    (x52 s2 ((ix panels (ix (ix turns s3) (0:Int))).1)).bind fun r2 =>
    gd (0≤s3∧s3<(turns.length:Int)) <|
    (x68 panels (ix turns s3)).bind fun r3 =>
    x29_l2 b panels turns s1 s3 r2 r3 (fun z1 =>
      x29_l1 b panels turns kl1_0 m (w (s1+(w ((w (b.2.2.2*r2))+r3)))) ((ix panels (ix (ix turns s3) (0:Int))).1) (w (s3+(1:Int))) z1) FU (0:Int) s4
   else
    kl1_0 s4
/-- crossband/crossbandref08.Done -/
def x29 (b:(Int×(List Int)×Int×Int)) (panels:(List (Int×Int))) (turns:(List (List Int))):Option ((List Int)×Int) :=
 (x27 b panels turns).bind fun r1 =>
 if (decide (r1.2.2≠(0:Int)))=true then
  some ([],r1.2.2)
 else
  gd (0≤(panels.length:Int)∧(panels.length:Int)≤(panels.length:Int)∧(panels.length:Int).toNat*8≤140737488355328) <|
  x29_l1 b panels turns (fun z2 =>
    gd ((panels.length:Int).toNat=z2.length) <|
    some (z2,(0:Int))) FU (0:Int) b.2.2.1 (0:Int) (List.replicate (panels.length:Int).toNat (0:Int))
theorem x29_l2_ok {b:(Int×(List Int)×Int×Int)} {panels:(List (Int×Int))} {turns:(List (List Int))} {s1:Int} {s3:Int} {r2:Int} {r3:Int} {kl2_0:(List Int)→Option ((List Int)×Int)} {s5:Int} {s6:(List Int)} {v:((List Int)×Int)} {Q:Ex→List AV→List AObj→Prop}   (hkl2_0:∀ (z1:(List Int)) (u0:AV) (u6:AV) (u7:AV) (u8:AV) (u9:AV) (u10:AV) (u15:AV) (u16:AV) (u17:AV) (u18:AV) (u19:AV) (u20:AV) (u21:AV) (u22:AV) (u23:AV) (u24:AV) (u25:AV) (u26:AV) (u27:AV) (u28:AV) (u29:AV) (u30:AV) (u31:AV) (u32:AV) (u33:AV) (u34:AV) (u35:AV) (u36:AV) (u37:AV) (u38:AV) (u39:AV) (u40:AV) (u41:AV) (u42:AV) (u43:AV) (u44:AV) (u45:AV) (u46:AV) (u47:AV) (u48:AV) (u49:AV) (u50:AV) (u51:AV) (u52:AV) (u53:AV) (u54:AV) (u55:AV) (u56:AV) (u57:AV) (u58:AV) (u59:AV) (u60:AV) (u61:AV) (u62:AV) (u63:AV) (u64:AV) (u65:AV) (u66:AV) (u67:AV) (u68:AV) (u69:AV) (u70:AV) (u71:AV) (u72:AV) (u73:AV) (u74:AV) (u75:AV) (u76:AV) (u77:AV) (u78:AV) (u79:AV) (u80:AV) (u81:AV) (u82:AV) (u83:AV) (u84:AV),kl2_0 z1=some v→Q (.exit 2) [u0,(.lst (panels.flatMap pr) panels.length .shared),(.lst (turns.map L1) turns.length .shared),(.ptr 0 0),J,J,u6,u7,u8,u9,u10,(.ref 1 0 (panels.length:Int).toNat (some (panels.length:Int).toNat) 1),(I (w (s1+(w ((w (b.2.2.2*r2))+r3))))),(I (ix panels (ix (ix turns s3) (0:Int))).1),(I s3),u15,u16,u17,u18,u19,u20,u21,u22,u23,u24,u25,u26,u27,u28,u29,u30,u31,u32,u33,u34,u35,u36,u37,u38,u39,u40,u41,u42,u43,u44,u45,u46,u47,u48,u49,u50,u51,u52,u53,u54,u55,u56,u57,u58,u59,u60,u61,u62,u63,u64,u65,u66,u67,u68,u69,u70,u71,u72,u73,u74,u75,u76,u77,u78,u79,u80,u81,u82,u83,u84] [AObj.cells [(I b.1),(.lst (b.2.1.map I) b.2.1.length .shared),(I b.2.2.1),(I b.2.2.2)],AObj.cells (z1.map I)]) {T:List AV} (hT:zipKeep [o_,i_,i_,i_,o_,o_,o_,o_,o_,o_,o_,i_,i_,i_,i_,o_,i_,o_,o_,o_,o_,o_,o_,o_,o_,o_,o_,o_,o_,o_,o_,o_,o_,o_,o_,o_,o_,o_,o_,o_,o_,o_,o_,o_,o_,o_,o_,o_,o_,o_,o_,o_,o_,o_,o_,o_,o_,o_,o_,o_,o_,o_,o_,o_,o_,o_,o_,o_,o_,o_,o_,o_,o_,o_,o_,o_,o_,o_,o_,o_,o_,o_,o_,o_,o_] T=slots 85 [(1,(.lst (panels.flatMap pr) panels.length .shared)),(2,(.lst (turns.map L1) turns.length .shared)),(3,(.ptr 0 0)),(11,(.ref 1 0 (panels.length:Int).toNat (some (panels.length:Int).toNat) 1)),(12,(I (w (s1+(w ((w (b.2.2.2*r2))+r3)))))),(13,(I (ix panels (ix (ix turns s3) (0:Int))).1)),(14,(I s3)),(16,(I s5))]) (h:x29_l2 b panels turns s1 s3 r2 r3 kl2_0 FU s5 s6=some v) :
  wpR Tryz.prog ann29 29 0 none xrc29_1 T [AObj.cells [(I b.1),(.lst (b.2.1.map I) b.2.1.length .shared),(I b.2.2.1),(I b.2.2.2)],AObj.cells (s6.map I)] Q:=by
 unfold xrc29_1
 skip
 refine wp_loop hT ?_
 refine .intro (fun m T H=>∃ (s5:Int) (s6:(List Int)),T=slots 85 [(1,(.lst (panels.flatMap pr) panels.length .shared)),(2,(.lst (turns.map L1) turns.length .shared)),(3,(.ptr 0 0)),(11,(.ref 1 0 (panels.length:Int).toNat (some (panels.length:Int).toNat) 1)),(12,(I (w (s1+(w ((w (b.2.2.2*r2))+r3)))))),(13,(I (ix panels (ix (ix turns s3) (0:Int))).1)),(14,(I s3)),(16,(I s5))]∧H=[AObj.cells [(I b.1),(.lst (b.2.1.map I) b.2.1.length .shared),(I b.2.2.1),(I b.2.2.2)],AObj.cells (s6.map I)]∧x29_l2 b panels turns s1 s3 r2 r3 kl2_0 m s5 s6=some v) FU ⟨s5,s6,rfl,rfl,h⟩ ?_
 clear h hT
 rintro m T H ⟨s5,s6,rfl,rfl,h⟩
 cases m
 ·exact none_ne h
 rename_i m
 rw [x29_l2.eq_2] at h
 conv=>whnf
 obtain ⟨hb11,h⟩:=gd_some h
 refine ⟨hb11,?_⟩
 rw [drop1 L1 turns s3 hb11]
 conv=>whnf
 rcases bt (decide (s5<((ix turns s3).length:Int))) with hb12 | hb12
 ·rw [hb12]
  conv=>whnf
  replace h:=it_t hb12 h
  obtain ⟨hb13,h⟩:=gd_some h
  refine ⟨hb13,?_⟩
  rw [drop1 L1 turns s3 hb13]
  conv=>whnf
  obtain ⟨hb14,h⟩:=gd_some h
  refine ⟨hb14,?_⟩
  rw [drop1 I (ix turns s3) s5 hb14]
  conv=>whnf
  obtain ⟨hb15,h⟩:=gd_some h
  refine ⟨⟨hb15.1,hb15.2.1⟩,?_⟩
  replace hb15:0≤(ix (ix turns s3) s5)∧(ix (ix turns s3) s5)<(s6.length:Int):=⟨hb15.1,by have:=hb15.2;omega⟩
  conv=>whnf
  refine updD I s6 (ix (ix turns s3) s5) (w (s1+(w ((w (b.2.2.2*r2))+r3)))) hb15 ?_
  conv=>whnf
  exact ⟨m,Nat.lt_succ_self m,(w (s5+(1:Int))),(s6.set (ix (ix turns s3) s5).toNat (w (s1+(w ((w (b.2.2.2*r2))+r3))))),rfl,rfl,h⟩
 ·rw [hb12]
  conv=>whnf
  replace h:=it_f hb12 h
  exact hkl2_0 _ _ _ _ _ _ _ _ _ _ _ _ _ _ _ _ _ _ _ _ _ _ _ _ _ _ _ _ _ _ _ _ _ _ _ _ _ _ _ _ _ _ _ _ _ _ _ _ _ _ _ _ _ _ _ _ _ _ _ _ _ _ _ _ _ _ _ _ _ _ _ _ _ _ _ _ _ h
theorem x29_l1_ok {b:(Int×(List Int)×Int×Int)} {panels:(List (Int×Int))} {turns:(List (List Int))} {kl1_0:(List Int)→Option ((List Int)×Int)} {s1:Int} {s2:Int} {s3:Int} {s4:(List Int)} {v:((List Int)×Int)} {Q:Ex→List AV→List AObj→Prop}   (hkl1_0:∀ (z2:(List Int)) (u0:AV) (u1:AV) (u2:AV) (u3:AV) (u6:AV) (u7:AV) (u8:AV) (u9:AV) (u10:AV) (u12:AV) (u13:AV) (u14:AV) (u15:AV) (u16:AV) (u17:AV) (u18:AV) (u19:AV) (u20:AV) (u21:AV) (u22:AV) (u23:AV) (u24:AV) (u25:AV) (u26:AV) (u27:AV) (u28:AV) (u29:AV) (u30:AV) (u31:AV) (u32:AV) (u33:AV) (u34:AV) (u35:AV) (u36:AV) (u37:AV) (u38:AV) (u39:AV) (u40:AV) (u41:AV) (u42:AV) (u43:AV) (u44:AV) (u45:AV) (u46:AV) (u47:AV) (u48:AV) (u49:AV) (u50:AV) (u51:AV) (u52:AV) (u53:AV) (u54:AV) (u55:AV) (u56:AV) (u57:AV) (u58:AV) (u59:AV) (u60:AV) (u61:AV) (u62:AV) (u63:AV) (u64:AV) (u65:AV) (u66:AV) (u67:AV) (u68:AV) (u69:AV) (u70:AV) (u71:AV) (u72:AV) (u73:AV) (u74:AV) (u75:AV) (u76:AV) (u77:AV) (u78:AV) (u79:AV) (u80:AV) (u81:AV) (u82:AV) (u83:AV) (u84:AV) (o1:AObj),kl1_0 z2=some v→Q (.exit 0) [u0,u1,u2,u3,J,J,u6,u7,u8,u9,u10,(.ref 1 0 (panels.length:Int).toNat (some (panels.length:Int).toNat) 1),u12,u13,u14,u15,u16,u17,u18,u19,u20,u21,u22,u23,u24,u25,u26,u27,u28,u29,u30,u31,u32,u33,u34,u35,u36,u37,u38,u39,u40,u41,u42,u43,u44,u45,u46,u47,u48,u49,u50,u51,u52,u53,u54,u55,u56,u57,u58,u59,u60,u61,u62,u63,u64,u65,u66,u67,u68,u69,u70,u71,u72,u73,u74,u75,u76,u77,u78,u79,u80,u81,u82,u83,u84] [o1,AObj.cells (z2.map I)]) {T:List AV} (hT:zipKeep [o_,i_,i_,i_,o_,o_,o_,o_,o_,o_,o_,i_,i_,i_,i_,o_,o_,o_,o_,o_,o_,o_,o_,o_,o_,o_,o_,o_,o_,o_,o_,o_,o_,o_,o_,o_,o_,o_,o_,o_,o_,o_,o_,o_,o_,o_,o_,o_,o_,o_,o_,o_,o_,o_,o_,o_,o_,o_,o_,o_,o_,o_,o_,o_,o_,o_,o_,o_,o_,o_,o_,o_,o_,o_,o_,o_,o_,o_,o_,o_,o_,o_,o_,o_,o_] T=slots 85 [(1,(.lst (panels.flatMap pr) panels.length .shared)),(2,(.lst (turns.map L1) turns.length .shared)),(3,(.ptr 0 0)),(11,(.ref 1 0 (panels.length:Int).toNat (some (panels.length:Int).toNat) 1)),(12,(I s1)),(13,(I s2)),(14,(I s3))]) (h:x29_l1 b panels turns kl1_0 FU s1 s2 s3 s4=some v) :
  wpR Tryz.prog ann29 29 0 none xrc29_2 T [AObj.cells [(I b.1),(.lst (b.2.1.map I) b.2.1.length .shared),(I b.2.2.1),(I b.2.2.2)],AObj.cells (s4.map I)] Q:=by
 unfold xrc29_2
 obtain ⟨c_1,g_1⟩:∃ c,xrc29_1=c:=⟨_,rfl⟩
 rw [g_1]
 refine wp_loop hT ?_
 refine .intro (fun m T H=>∃ (s1:Int) (s2:Int) (s3:Int) (s4:(List Int)),T=slots 85 [(1,(.lst (panels.flatMap pr) panels.length .shared)),(2,(.lst (turns.map L1) turns.length .shared)),(3,(.ptr 0 0)),(11,(.ref 1 0 (panels.length:Int).toNat (some (panels.length:Int).toNat) 1)),(12,(I s1)),(13,(I s2)),(14,(I s3))]∧H=[AObj.cells [(I b.1),(.lst (b.2.1.map I) b.2.1.length .shared),(I b.2.2.1),(I b.2.2.2)],AObj.cells (s4.map I)]∧x29_l1 b panels turns kl1_0 m s1 s2 s3 s4=some v) FU ⟨s1,s2,s3,s4,rfl,rfl,h⟩ ?_
 clear h hT
 rintro m T H ⟨s1,s2,s3,s4,rfl,rfl,h⟩
 cases m
 ·exact none_ne h
 rename_i m
 rw [x29_l1.eq_2] at h
 conv=>whnf
 rcases bt (decide (s3<(turns.length:Int))) with hb4 | hb4
 ·rw [hb4]
  conv=>whnf
  replace h:=it_t hb4 h
  obtain ⟨hb5,h⟩:=gd_some h
  refine ⟨hb5,?_⟩
  rw [drop1 L1 turns s3 hb5]
  conv=>whnf
  obtain ⟨hb6,h⟩:=gd_some h
  refine ⟨hb6,?_⟩
  rw [drop1 I (ix turns s3) (0:Int) hb6]
  conv=>whnf
  obtain ⟨hb7,h⟩:=gd_some h
  refine ⟨hb7,?_⟩
  rw [dropS pr 2 pr_len panels (ix (ix turns s3) (0:Int)) hb7]
  conv=>whnf
  obtain ⟨r2,hb8,h⟩:=bd_some h
  refine ⟨(allc rfl (allc rfl rfl)),_,x52_ok hb8,acc0,?_⟩
  conv=>whnf
  obtain ⟨hb9,h⟩:=gd_some h
  refine ⟨hb9,?_⟩
  rw [drop1 L1 turns s3 hb9]
  conv=>whnf
  obtain ⟨r3,hb10,h⟩:=bd_some h
  refine ⟨(allc (pu_flat (fun _=>(allc rfl (allc rfl rfl))) _ _ _) (allc (pu_map (fun _=>rfl) _ _ _) rfl)),_,x68_ok hb10,accN rfl,?_⟩
  conv=>whnf
  subst g_1
  refine x29_l2_ok ?_ (by exact rfl) h
  intro z1 u0 u6 u7 u8 u9 u10 u15 u16 u17 u18 u19 u20 u21 u22 u23 u24 u25 u26 u27 u28 u29 u30 u31 u32 u33 u34 u35 u36 u37 u38 u39 u40 u41 u42 u43 u44 u45 u46 u47 u48 u49 u50 u51 u52 u53 u54 u55 u56 u57 u58 u59 u60 u61 u62 u63 u64 u65 u66 u67 u68 u69 u70 u71 u72 u73 u74 u75 u76 u77 u78 u79 u80 u81 u82 u83 u84 h
  conv=>whnf
  exact ⟨m,Nat.lt_succ_self m,(w (s1+(w ((w (b.2.2.2*r2))+r3)))),(ix panels (ix (ix turns s3) (0:Int))).1,(w (s3+(1:Int))),z1,rfl,rfl,h⟩
 ·rw [hb4]
  conv=>whnf
  replace h:=it_f hb4 h
  exact hkl1_0 _ _ _ _ _ _ _ _ _ _ _ _ _ _ _ _ _ _ _ _ _ _ _ _ _ _ _ _ _ _ _ _ _ _ _ _ _ _ _ _ _ _ _ _ _ _ _ _ _ _ _ _ _ _ _ _ _ _ _ _ _ _ _ _ _ _ _ _ _ _ _ _ _ _ _ _ _ _ _ _ _ _ _ _ h
theorem x29_ok {b:(Int×(List Int)×Int×Int)} {panels:(List (Int×Int))} {turns:(List (List Int))} {v:((List Int)×Int)} (h:x29 b panels turns=some v):PO 29 [(.agg [(I b.1),(.lst (b.2.1.map I) b.2.1.length .shared),(I b.2.2.1),(I b.2.2.2)]),(.lst (panels.flatMap pr) panels.length .shared),(.lst (turns.map L1) turns.length .shared)] (.tuple [(.lst (v.1.map I) v.1.length .shared),(I v.2)]):=by
 refine fn_pureW hmix lxx29 rfl (pu_tup (allc (pu_map (fun _=>rfl) _ _ _) (allc rfl rfl))) fun Q hQ=>?_
 have hR:∀ T H,RetW [.tmp 6,.tmp 7] (.tuple [(.lst (v.1.map I) v.1.length .shared),(I v.2)]) .ret T H→Q .ret T H:=fun T H hh=>hQ _ T H hh
 unfold x29 at h
 unfold xrc29
 obtain ⟨c_2,g_2⟩:∃ c,xrc29_2=c:=⟨_,rfl⟩
 rw [g_2]
 conv=>whnf
 obtain ⟨r1,hb1,h⟩:=bd_some h
 refine ⟨(allc (pu_agg (allc rfl (allc (pu_map (fun _=>rfl) _ _ _) (allc rfl (allc rfl rfl))))) (allc (pu_flat (fun _=>(allc rfl (allc rfl rfl))) _ _ _) (allc (pu_map (fun _=>(pu_map (fun _=>rfl) _ _ _)) _ _ _) rfl))),_,x27_ok hb1,?_⟩
 conv=>whnf
 rcases bt (decide (r1.2.2≠(0:Int))) with hb2 | hb2
 ·rw [hb2]
  conv=>whnf
  replace h:=it_t hb2 h
  obtain rfl:=Option.some.inj h
  exact hR _ _ ⟨.inr rfl,_,rfl,_,frz_pure (pu_tup (allc rfl (allc rfl rfl))),rfl⟩
 ·rw [hb2]
  conv=>whnf
  replace h:=it_f hb2 h
  obtain ⟨hb3,h⟩:=gd_some h
  refine ⟨hb3.1,hb3.2.1,hb3.2.2,?_⟩
  rw [replMap I (0:Int)]
  conv=>whnf
  subst g_2
  refine x29_l1_ok ?_ (by exact rfl) h
  intro z2 u0 u1 u2 u3 u6 u7 u8 u9 u10 u12 u13 u14 u15 u16 u17 u18 u19 u20 u21 u22 u23 u24 u25 u26 u27 u28 u29 u30 u31 u32 u33 u34 u35 u36 u37 u38 u39 u40 u41 u42 u43 u44 u45 u46 u47 u48 u49 u50 u51 u52 u53 u54 u55 u56 u57 u58 u59 u60 u61 u62 u63 u64 u65 u66 u67 u68 u69 u70 u71 u72 u73 u74 u75 u76 u77 u78 u79 u80 u81 u82 u83 u84 o1 h
  conv=>whnf
  obtain ⟨hb16,h⟩:=gd_some h
  obtain rfl:=Option.some.inj h
  exact hR _ _ ⟨.inr rfl,_,rfl,_,(frz_tup (mapO_cons' (frz_row (f:=I) (l:=z2) (by first | with_reducible exact get_concat _ _ | exact get_concat _ _ | exact ga (get_concat _ _) | rfl | (simp [List.getElem?_append,AV.settle];done)) hb16 (fun _=>rfl) (fun _=>rfl)) (mapO_cons' (frz_pure rfl) mapO_nil'))),by simp only [AV.settle,AV.view,AV.dim,List.map_cons,List.map_nil,dim0_frz];exact congrArg (fun n=>AV.tuple [AV.lst _ n .shared,_]) hb16⟩
end Go.Proofs.YtbnbjjgagikobaaGreat.Ab

/- MADE BY PROGRAM (ex.py): functions as plain Lean, with their walks. -/
namespace Go.Proofs.YtbnbjjgagikobaaGreat.Ab
open Go
set_option maxRecDepth 20000
set_option maxHeartbeats 4000000
noncomputable def xrc30_4:RC :=
 .cond (.sl 25) (.seq (.reg false [I_ 26 [.tk 10] .mv,I_ 6 [.cv (.lst [] 0 .full)] (.nil 1),I_ 7 [.tk 26] .mv]) .ret) .skip
noncomputable def xrc30_16:RC :=
 .reg false [I_ 44 [.sl 11] .mv,I_ 45 [.tk 15] .mv,I_ 46 [.sl 8] .mv,I_ 47 [.tv 46] .nilc,I_ 48 [.tv 47] (.fa 5),I_ 49 [.tv 48] (.ld .one),I_ 50 [.tk 14] .mv,I_ 51 [.tv 49,.tv 50] (.ia 1),I_ 52 [.tv 51] (.ld .one),I_ 53
 [.tv 44,.tv 45] (.ia 1),⟨none,[.tk 53,.tk 52],none,none,.st 1⟩]
noncomputable def xrc30_15:RC :=
 .reg false [I_ 54 [.tv 39,.cv (.int .i64 1)] (.bin .add),I_ 39 [.tk 54] .mv]
noncomputable def xrc30_14:RC :=
 .seq (.block 3 (.seq (.reg false [I_ 41 [.sl 39] .mv,I_ 42 [.sl 37,.sl 39] (.ia 1),I_ 43 [.tv 42] (.ld .one),I_ 14 [.tk 41] .mv,I_ 15 [.tk 43] .mv]) xrc30_16)) xrc30_15
noncomputable def xrc30_13:RC :=
 .seq (.cond (.sl 40) .skip (.exit 2)) xrc30_14
noncomputable def xrc30_17:RC :=
 .loop (some [o_,o_,o_,o_,o_,o_,o_,o_,i_,o_,o_,i_,o_,o_,o_,o_,o_,o_,o_,o_,o_,o_,o_,o_,o_,o_,o_,o_,o_,o_,i_,i_,i_,o_,o_,o_,o_,i_,i_,i_,o_,o_,o_,o_,o_,o_,o_,o_,o_,o_,o_,o_,o_,o_,o_,o_,o_]) (.seq (.reg false [I_ 40 [.sl 39,.sl 38] (.bin
 .lss)]) xrc30_13)
noncomputable def xrc30_12:RC :=
 .block 2 xrc30_17
noncomputable def xrc30_11:RC :=
 .seq (.reg false [I_ 36 [.tv 13] (.fa 0),I_ 37 [.tv 36] (.ld .one),I_ 38 [.sl 37] .lenS,I_ 39 [.cv (.int .i64 0)] .mv]) xrc30_12
noncomputable def xrc30_10:RC :=
 .reg false [I_ 55 [.tv 32,.cv (.int .i64 1)] (.bin .add),I_ 32 [.tk 55] .mv]
noncomputable def xrc30_9:RC :=
 .seq (.block 1 (.seq (.reg false [I_ 34 [.sl 30,.sl 32] (.ia 3),I_ 35 [.tv 34] (.ld (.str 3)),I_ 13 [] (.alloc [.lst [] 0 .full,.int .i64 0,.int .i64 0]),⟨none,[.sl 13,.tk 35],none,none,.st 3⟩]) xrc30_11)) xrc30_10
noncomputable def xrc30_8:RC :=
 .seq (.cond (.sl 33) .skip (.exit 0)) xrc30_9
noncomputable def xrc30_18:RC :=
 .loop (some [o_,o_,o_,o_,o_,o_,o_,o_,i_,o_,o_,i_,o_,o_,o_,o_,o_,o_,o_,o_,o_,o_,o_,o_,o_,o_,o_,o_,o_,o_,i_,i_,i_,o_,o_,o_,o_,o_,o_,o_,o_,o_,o_,o_,o_,o_,o_,o_,o_,o_,o_,o_,o_,o_,o_,o_,o_]) (.seq (.reg false [I_ 33 [.sl 32,.sl 31]
 (.bin .lss)]) xrc30_8)
noncomputable def xrc30_7:RC :=
 .block 0 xrc30_18
noncomputable def xrc30_6:RC :=
 .seq (.reg false [I_ 56 [.tk 11] .mv,I_ 6 [.tk 56] .mv,I_ 7 [.cv (.int .i64 0)] .mv]) .ret
noncomputable def xrc30_5:RC :=
 .seq (.seq (.reg false [I_ 30 [.tk 9] .mv,I_ 31 [.sl 30] .lenS,I_ 32 [.cv (.int .i64 0)] .mv]) xrc30_7) xrc30_6
noncomputable def xrc30_3:RC :=
 .seq (.reg false [I_ 27 [.tk 1] .mv,I_ 28 [.tk 27] .lenS,I_ 29 [.sl 28,.tv 28] (.mkS [.int .i64 0] 1 8),I_ 11 [.tk 29] .mv]) xrc30_5
noncomputable def xrc30_2:RC :=
 .seq (.seq (.reg false [I_ 24 [.sl 10] .mv,I_ 25 [.tv 24,.cv (.int .i64 0)] (.bin .neq)]) xrc30_4) xrc30_3
noncomputable def xrc30_1:RC :=
 .seq (.reg false [I_ 17 [.tv 3] (.ld (.str 4)),I_ 18 [.sl 1] .mv,I_ 19 [.tk 2] .mv,I_ 20 [.cv (.func 65 [] []),.sl 17,.sl 18,.sl 19] (.call 3),I_ 16 [.tk 20] .mv,I_ 21 [.sl 16] (.ext 0),I_ 22 [.sl 16] (.ext 1),I_ 23
 [.tv 16] (.ext 2),I_ 8 [.tk 21] .mv,I_ 9 [.tk 22] .mv,I_ 10 [.tk 23] .mv]) xrc30_2
noncomputable def xrc30:RC :=
 .seq (.reg false [I_ 3 [.tk 0] .box,I_ 6 [.cv (.lst [] 0 .full)] (.nil 1),I_ 7 [.cv (.int .i64 0)] .mv]) xrc30_1
theorem lxx30:linkF Tryz.prog ann30 30=some (xrc30,57,[.tmp 6,.tmp 7]):=by kernel_rfl
def x30_l2 (q1:((List ((List Int)×Int×Int))×Int)) (s1:Int) (kl2_0:Unit→Option ((List Int)×Int)):Nat→Option ((List Int)×Int)
 | 0=>none
 | m+1 =>
   if (decide ((0:Int)<(((ix q1.1 s1).1).length:Int)))=true then
    gd (0≤(0:Int)∧(0:Int)<(((ix q1.1 s1).1).length:Int)) <|
    none
   else
    kl2_0 ()
def x30_l1 (q1:((List ((List Int)×Int×Int))×Int)) (kl1_0:Unit→Option ((List Int)×Int)):Nat→Int→Option ((List Int)×Int)
 | 0,_=>none
 | m+1,s1 =>
   if (decide (s1<(q1.1.length:Int)))=true then
    gd (0≤s1∧s1<(q1.1.length:Int)) <|
    x30_l2 q1 s1 (fun _ =>
      x30_l1 q1 kl1_0 m (w (s1+(1:Int)))) FU
   else
    kl1_0 ()
def x30_l4 (panels:(List (Int×Int))) (p1:((Int×(List Int)×Int×Int)×(List (Int×Int))×(List Int)×(List Int))) (q1:((List ((List Int)×Int×Int))×Int)) (s2:Int) (kl4_0:(List Int)→Option ((List Int)×Int)):Nat→Int→(List Int)→Option ((List Int)×Int)
 | 0,_,_=>none
 | m+1,s4,s5 =>
   if (decide (s4<(((ix q1.1 s2).1).length:Int)))=true then
    gd (0≤s4∧s4<(((ix q1.1 s2).1).length:Int)) <|
    gd (0≤s4∧s4<(p1.2.2.1.length:Int)) <|
    gd (0≤(ix ((ix q1.1 s2).1) s4)∧(ix ((ix q1.1 s2).1) s4)<(((panels.length:Int).toNat:Nat):Int)∧(panels.length:Int).toNat=s5.length) <|
    x30_l4 panels p1 q1 s2 kl4_0 m (w (s4+(1:Int))) (s5.set (ix ((ix q1.1 s2).1) s4).toNat (ix p1.2.2.1 s4))
   else
    kl4_0 s5
def x30_l3 (panels:(List (Int×Int))) (p1:((Int×(List Int)×Int×Int)×(List (Int×Int))×(List Int)×(List Int))) (q1:((List ((List Int)×Int×Int))×Int)) (kl3_0:(List Int)→Option ((List Int)×Int)):Nat→Int→(List Int)→Option ((List Int)×Int)
 | 0,_,_=>none
 | m+1,s2,s3 =>
   if (decide (s2<(q1.1.length:Int)))=true then
    gd (0≤s2∧s2<(q1.1.length:Int)) <|
    x30_l4 panels p1 q1 s2 (fun z1 =>
      x30_l3 panels p1 q1 kl3_0 m (w (s2+(1:Int))) z1) FU (0:Int) s3
   else
    kl3_0 s3
/-- crossband/press.Lie -/
def x30 (b:(Int×(List Int)×Int×Int)) (panels:(List (Int×Int))) (turns:(List (List Int))):Option ((List Int)×Int) :=
 (x65 b panels turns).bind fun r1 =>
 match r1 with
 | (none,q1) =>
   if (decide (q1.2≠(0:Int)))=true then
    some ([],q1.2)
   else
    gd (0≤(panels.length:Int)∧(panels.length:Int)≤(panels.length:Int)∧(panels.length:Int).toNat*8≤140737488355328) <|
    x30_l1 q1 (fun _ =>
      gd ((panels.length:Int).toNat=(List.replicate (panels.length:Int).toNat (0:Int)).length) <|
      some ((List.replicate (panels.length:Int).toNat (0:Int)),(0:Int))) FU (0:Int)
 | (some p1,q1) =>
   if (decide (q1.2≠(0:Int)))=true then
    some ([],q1.2)
   else
    gd (0≤(panels.length:Int)∧(panels.length:Int)≤(panels.length:Int)∧(panels.length:Int).toNat*8≤140737488355328) <|
    x30_l3 panels p1 q1 (fun z2 =>
      gd ((panels.length:Int).toNat=z2.length) <|
      some (z2,(0:Int))) FU (0:Int) (List.replicate (panels.length:Int).toNat (0:Int))
theorem x30_l2_ok {q1:((List ((List Int)×Int×Int))×Int)} {s1:Int} {kl2_0:Unit→Option ((List Int)×Int)} {panels:(List (Int×Int))} {v:((List Int)×Int)} {Q:Ex→List AV→List AObj→Prop} {o1:AObj} {o3:AObj} {Y30_1:List AObj} (hkl2_0:∀ (u0:AV) (u1:AV) (u2:AV) (u3:AV) (u6:AV) (u7:AV) (u9:AV) (u10:AV) (u13:AV) (u14:AV) (u15:AV) (u16:AV) (u17:AV) (u18:AV) (u19:AV) (u20:AV) (u21:AV) (u22:AV) (u23:AV) (u24:AV) (u25:AV) (u26:AV) (u27:AV) (u28:AV) (u29:AV) (u33:AV) (u34:AV) (u35:AV) (u36:AV) (u37:AV) (u38:AV) (u39:AV) (u40:AV) (u41:AV) (u42:AV) (u43:AV) (u44:AV) (u45:AV) (u46:AV) (u47:AV) (u48:AV) (u49:AV) (u50:AV) (u51:AV) (u52:AV) (u53:AV) (u54:AV) (u55:AV) (u56:AV) (Yq:List AObj),kl2_0 ()=some v→Q (.exit 2) [u0,u1,u2,u3,J,J,u6,u7,.nilp,u9,u10,(.ref 1 0 (panels.length:Int).toNat (some (panels.length:Int).toNat) 1),J,u13,u14,u15,u16,u17,u18,u19,u20,u21,u22,u23,u24,u25,u26,u27,u28,u29,(.lst (q1.1.flatMap E_turn) q1.1.length .shared),(I (q1.1.length:Int)),(I s1),u33,u34,u35,u36,u37,u38,u39,u40,u41,u42,u43,u44,u45,u46,u47,u48,u49,u50,u51,u52,u53,u54,u55,u56] (o1::AObj.cells ((List.replicate (panels.length:Int).toNat (0:Int)).map I)::Yq)) {T:List AV} (hT:zipKeep [o_,o_,o_,o_,o_,o_,o_,o_,i_,o_,o_,i_,o_,o_,o_,o_,o_,o_,o_,o_,o_,o_,o_,o_,o_,o_,o_,o_,o_,o_,i_,i_,i_,o_,o_,o_,o_,i_,i_,i_,o_,o_,o_,o_,o_,o_,o_,o_,o_,o_,o_,o_,o_,o_,o_,o_,o_] T=slots 57 [(8,.nilp),(11,(.ref 1 0 (panels.length:Int).toNat (some (panels.length:Int).toNat) 1)),(30,(.lst (q1.1.flatMap E_turn) q1.1.length .shared)),(31,(I (q1.1.length:Int))),(32,(I s1)),(37,(.lst (((ix q1.1 s1).1).map I) ((ix q1.1 s1).1).length .shared)),(38,(I (((ix q1.1 s1).1).length:Int))),(39,(I (0:Int)))]) (h:x30_l2 q1 s1 kl2_0 FU  = some v) :
  wpR Tryz.prog ann30 30 0 none xrc30_17 T ((o1::AObj.cells ((List.replicate (panels.length:Int).toNat (0:Int)).map I)::Y30_1)++[o3]) Q:=by
 unfold xrc30_17
 obtain ⟨c_13,g_13⟩:∃ c,xrc30_13=c:=⟨_,rfl⟩
 rw [g_13]
 refine wp_loop hT ?_
 refine .intro (fun m T H=>T=slots 57 [(8,.nilp),(11,(.ref 1 0 (panels.length:Int).toNat (some (panels.length:Int).toNat) 1)),(30,(.lst (q1.1.flatMap E_turn) q1.1.length .shared)),(31,(I (q1.1.length:Int))),(32,(I s1)),(37,(.lst (((ix q1.1 s1).1).map I) ((ix q1.1 s1).1).length .shared)),(38,(I (((ix q1.1 s1).1).length:Int))),(39,(I (0:Int)))]∧H=((o1::AObj.cells ((List.replicate (panels.length:Int).toNat (0:Int)).map I)::Y30_1)++[o3])∧x30_l2 q1 s1 kl2_0 m  = some v) FU ⟨rfl,rfl,h⟩ ?_
 clear h hT
 rintro m T H ⟨rfl,rfl,h⟩
 cases m
 ·exact none_ne h
 rename_i m
 rw [x30_l2.eq_2] at h
 conv=>whnf
 subst g_13
 unfold xrc30_13
 obtain ⟨c_14,g_14⟩:∃ c,xrc30_14=c:=⟨_,rfl⟩
 rw [g_14]
 conv=>whnf
 rcases bt (decide ((0:Int)<(((ix q1.1 s1).1).length:Int))) with hb6 | hb6
 ·rw [hb6]
  conv=>whnf
  replace h:=it_t hb6 h
  subst g_14
  unfold xrc30_14
  obtain ⟨c_15,g_15⟩:∃ c,xrc30_15=c:=⟨_,rfl⟩
  rw [g_15]
  obtain ⟨c_16,g_16⟩:∃ c,xrc30_16=c:=⟨_,rfl⟩
  rw [g_16]
  conv=>whnf
  obtain ⟨hb7,h⟩:=gd_some h
  refine ⟨hb7,?_⟩
  rw [drop1 I ((ix q1.1 s1).1) (0:Int) hb7]
  conv=>whnf
  subst g_16
  unfold xrc30_16
  skip
  conv=>whnf
  exact none_ne h
 ·rw [hb6]
  conv=>whnf
  replace h:=it_f hb6 h
  exact hkl2_0 _ _ _ _ _ _ _ _ _ _ _ _ _ _ _ _ _ _ _ _ _ _ _ _ _ _ _ _ _ _ _ _ _ _ _ _ _ _ _ _ _ _ _ _ _ _ _ _ _ _ h
theorem x30_l1_ok {q1:((List ((List Int)×Int×Int))×Int)} {kl1_0:Unit→Option ((List Int)×Int)} {s1:Int} {panels:(List (Int×Int))} {v:((List Int)×Int)} {Q:Ex→List AV→List AObj→Prop} {o1:AObj}  (hkl1_0:∀ (u0:AV) (u1:AV) (u2:AV) (u3:AV) (u6:AV) (u7:AV) (u8:AV) (u9:AV) (u10:AV) (u13:AV) (u14:AV) (u15:AV) (u16:AV) (u17:AV) (u18:AV) (u19:AV) (u20:AV) (u21:AV) (u22:AV) (u23:AV) (u24:AV) (u25:AV) (u26:AV) (u27:AV) (u28:AV) (u29:AV) (u30:AV) (u31:AV) (u32:AV) (u33:AV) (u34:AV) (u35:AV) (u36:AV) (u37:AV) (u38:AV) (u39:AV) (u40:AV) (u41:AV) (u42:AV) (u43:AV) (u44:AV) (u45:AV) (u46:AV) (u47:AV) (u48:AV) (u49:AV) (u50:AV) (u51:AV) (u52:AV) (u53:AV) (u54:AV) (u55:AV) (u56:AV) (Yq:List AObj),kl1_0 ()=some v→Q (.exit 0) [u0,u1,u2,u3,J,J,u6,u7,u8,u9,u10,(.ref 1 0 (panels.length:Int).toNat (some (panels.length:Int).toNat) 1),J,u13,u14,u15,u16,u17,u18,u19,u20,u21,u22,u23,u24,u25,u26,u27,u28,u29,u30,u31,u32,u33,u34,u35,u36,u37,u38,u39,u40,u41,u42,u43,u44,u45,u46,u47,u48,u49,u50,u51,u52,u53,u54,u55,u56] (o1::AObj.cells ((List.replicate (panels.length:Int).toNat (0:Int)).map I)::Yq)) {T:List AV} (hT:zipKeep [o_,o_,o_,o_,o_,o_,o_,o_,i_,o_,o_,i_,o_,o_,o_,o_,o_,o_,o_,o_,o_,o_,o_,o_,o_,o_,o_,o_,o_,o_,i_,i_,i_,o_,o_,o_,o_,o_,o_,o_,o_,o_,o_,o_,o_,o_,o_,o_,o_,o_,o_,o_,o_,o_,o_,o_,o_] T=slots 57 [(8,.nilp),(11,(.ref 1 0 (panels.length:Int).toNat (some (panels.length:Int).toNat) 1)),(30,(.lst (q1.1.flatMap E_turn) q1.1.length .shared)),(31,(I (q1.1.length:Int))),(32,(I s1))]) (h:x30_l1 q1 kl1_0 FU s1=some v) :
  wpR Tryz.prog ann30 30 0 none xrc30_18 T [o1,AObj.cells ((List.replicate (panels.length:Int).toNat (0:Int)).map I)] Q:=by
 unfold xrc30_18
 obtain ⟨c_8,g_8⟩:∃ c,xrc30_8=c:=⟨_,rfl⟩
 rw [g_8]
 refine wp_loop hT ?_
 refine .intro (fun m T H=>∃ (s1:Int) (Y30_1:List AObj),T=slots 57 [(8,.nilp),(11,(.ref 1 0 (panels.length:Int).toNat (some (panels.length:Int).toNat) 1)),(30,(.lst (q1.1.flatMap E_turn) q1.1.length .shared)),(31,(I (q1.1.length:Int))),(32,(I s1))]∧H=(o1::AObj.cells ((List.replicate (panels.length:Int).toNat (0:Int)).map I)::Y30_1)∧x30_l1 q1 kl1_0 m s1=some v) FU ⟨s1,[],rfl,rfl,h⟩ ?_
 clear h hT
 rintro m T H ⟨s1,Y30_1,rfl,rfl,h⟩
 cases m
 ·exact none_ne h
 rename_i m
 rw [x30_l1.eq_2] at h
 conv=>whnf
 subst g_8
 unfold xrc30_8
 obtain ⟨c_9,g_9⟩:∃ c,xrc30_9=c:=⟨_,rfl⟩
 rw [g_9]
 conv=>whnf
 rcases bt (decide (s1<(q1.1.length:Int))) with hb4 | hb4
 ·rw [hb4]
  conv=>whnf
  replace h:=it_t hb4 h
  subst g_9
  unfold xrc30_9
  obtain ⟨c_10,g_10⟩:∃ c,xrc30_10=c:=⟨_,rfl⟩
  rw [g_10]
  obtain ⟨c_11,g_11⟩:∃ c,xrc30_11=c:=⟨_,rfl⟩
  rw [g_11]
  conv=>whnf
  obtain ⟨hb5,h⟩:=gd_some h
  refine ⟨hb5,?_⟩
  rw [dropS E_turn 3 E_turn_len q1.1 s1 hb5]
  conv=>whnf
  refine nthK_of (x:=AObj.cells [(.lst [] 0 .full),(I (0:Int)),(I (0:Int))]) (by first | with_reducible exact get_concat _ _ | exact get_concat _ _ | exact ga (get_concat _ _) | rfl | (simp [List.getElem?_append,AV.settle];done)) ?_
  conv=>whnf
  rw [set_concat]
  subst g_11
  unfold xrc30_11
  obtain ⟨c_12,g_12⟩:∃ c,xrc30_12=c:=⟨_,rfl⟩
  rw [g_12]
  conv=>whnf
  refine nthK_of (x:=AObj.cells [(.lst (((ix q1.1 s1).1).map I) ((ix q1.1 s1).1).length .shared),(I (ix q1.1 s1).2.1),(I (ix q1.1 s1).2.2)]) (by first | with_reducible exact get_concat _ _ | exact get_concat _ _ | exact ga (get_concat _ _) | rfl | (simp [List.getElem?_append,AV.settle];done)) ?_
  conv=>whnf
  subst g_12
  unfold xrc30_12
  obtain ⟨c_17,g_17⟩:∃ c,xrc30_17=c:=⟨_,rfl⟩
  rw [g_17]
  conv=>whnf
  subst g_17
  refine x30_l2_ok ?_ (by exact rfl) h
  intro u0 u1 u2 u3 u6 u7 u9 u10 u13 u14 u15 u16 u17 u18 u19 u20 u21 u22 u23 u24 u25 u26 u27 u28 u29 u33 u34 u35 u36 u37 u38 u39 u40 u41 u42 u43 u44 u45 u46 u47 u48 u49 u50 u51 u52 u53 u54 u55 u56 Yq h
  conv=>whnf
  subst g_10
  unfold xrc30_10
  skip
  conv=>whnf
  exact ⟨m,Nat.lt_succ_self m,(w (s1+(1:Int))),_,rfl,rfl,h⟩
 ·rw [hb4]
  conv=>whnf
  replace h:=it_f hb4 h
  exact hkl1_0 _ _ _ _ _ _ _ _ _ _ _ _ _ _ _ _ _ _ _ _ _ _ _ _ _ _ _ _ _ _ _ _ _ _ _ _ _ _ _ _ _ _ _ _ _ _ _ _ _ _ _ _ _ _ h
theorem x30_l4_ok {panels:(List (Int×Int))} {p1:((Int×(List Int)×Int×Int)×(List (Int×Int))×(List Int)×(List Int))} {q1:((List ((List Int)×Int×Int))×Int)} {s2:Int} {kl4_0:(List Int)→Option ((List Int)×Int)} {s4:Int} {s5:(List Int)} {v:((List Int)×Int)} {Q:Ex→List AV→List AObj→Prop} {o1:AObj} {o5:AObj} {Y30_1:List AObj} (hkl4_0:∀ (z1:(List Int)) (u0:AV) (u1:AV) (u2:AV) (u3:AV) (u6:AV) (u7:AV) (u9:AV) (u10:AV) (u13:AV) (u14:AV) (u15:AV) (u16:AV) (u17:AV) (u18:AV) (u19:AV) (u20:AV) (u21:AV) (u22:AV) (u23:AV) (u24:AV) (u25:AV) (u26:AV) (u27:AV) (u28:AV) (u29:AV) (u33:AV) (u34:AV) (u35:AV) (u36:AV) (u37:AV) (u38:AV) (u39:AV) (u40:AV) (u41:AV) (u42:AV) (u43:AV) (u44:AV) (u45:AV) (u46:AV) (u47:AV) (u48:AV) (u49:AV) (u50:AV) (u51:AV) (u52:AV) (u53:AV) (u54:AV) (u55:AV) (u56:AV) (Yq:List AObj),kl4_0 z1=some v→Q (.exit 2) [u0,u1,u2,u3,J,J,u6,u7,(.lptr ((I p1.1.1)::(.lst (p1.1.2.1.map I) p1.1.2.1.length .shared)::(I p1.1.2.2.1)::(I p1.1.2.2.2)::(.lst (p1.2.1.flatMap pr) p1.2.1.length .shared)::(.lst (p1.2.2.1.map I) p1.2.2.1.length .shared)::(p1.2.2.2.map I))),u9,u10,(.ref 1 0 (panels.length:Int).toNat (some (panels.length:Int).toNat) 1),J,u13,u14,u15,u16,u17,u18,u19,u20,u21,u22,u23,u24,u25,u26,u27,u28,u29,(.lst (q1.1.flatMap E_turn) q1.1.length .shared),(I (q1.1.length:Int)),(I s2),u33,u34,u35,u36,u37,u38,u39,u40,u41,u42,u43,u44,u45,u46,u47,u48,u49,u50,u51,u52,u53,u54,u55,u56] (o1::AObj.cells (z1.map I)::Yq)) {T:List AV} (hT:zipKeep [o_,o_,o_,o_,o_,o_,o_,o_,i_,o_,o_,i_,o_,o_,o_,o_,o_,o_,o_,o_,o_,o_,o_,o_,o_,o_,o_,o_,o_,o_,i_,i_,i_,o_,o_,o_,o_,i_,i_,i_,o_,o_,o_,o_,o_,o_,o_,o_,o_,o_,o_,o_,o_,o_,o_,o_,o_] T=slots 57 [(8,(.lptr ((I p1.1.1)::(.lst (p1.1.2.1.map I) p1.1.2.1.length .shared)::(I p1.1.2.2.1)::(I p1.1.2.2.2)::(.lst (p1.2.1.flatMap pr) p1.2.1.length .shared)::(.lst (p1.2.2.1.map I) p1.2.2.1.length .shared)::(p1.2.2.2.map I)))),(11,(.ref 1 0 (panels.length:Int).toNat (some (panels.length:Int).toNat) 1)),(30,(.lst (q1.1.flatMap E_turn) q1.1.length .shared)),(31,(I (q1.1.length:Int))),(32,(I s2)),(37,(.lst (((ix q1.1 s2).1).map I) ((ix q1.1 s2).1).length .shared)),(38,(I (((ix q1.1 s2).1).length:Int))),(39,(I s4))]) (h:x30_l4 panels p1 q1 s2 kl4_0 FU s4 s5=some v) :
  wpR Tryz.prog ann30 30 0 none xrc30_17 T ((o1::AObj.cells (s5.map I)::Y30_1)++[o5]) Q:=by
 unfold xrc30_17
 obtain ⟨c_13,g_13⟩:∃ c,xrc30_13=c:=⟨_,rfl⟩
 rw [g_13]
 refine wp_loop hT ?_
 refine .intro (fun m T H=>∃ (s4:Int) (s5:(List Int)),T=slots 57 [(8,(.lptr ((I p1.1.1)::(.lst (p1.1.2.1.map I) p1.1.2.1.length .shared)::(I p1.1.2.2.1)::(I p1.1.2.2.2)::(.lst (p1.2.1.flatMap pr) p1.2.1.length .shared)::(.lst (p1.2.2.1.map I) p1.2.2.1.length .shared)::(p1.2.2.2.map I)))),(11,(.ref 1 0 (panels.length:Int).toNat (some (panels.length:Int).toNat) 1)),(30,(.lst (q1.1.flatMap E_turn) q1.1.length .shared)),(31,(I (q1.1.length:Int))),(32,(I s2)),(37,(.lst (((ix q1.1 s2).1).map I) ((ix q1.1 s2).1).length .shared)),(38,(I (((ix q1.1 s2).1).length:Int))),(39,(I s4))]∧H=((o1::AObj.cells (s5.map I)::Y30_1)++[o5])∧x30_l4 panels p1 q1 s2 kl4_0 m s4 s5=some v) FU ⟨s4,s5,rfl,rfl,h⟩ ?_
 clear h hT
 rintro m T H ⟨s4,s5,rfl,rfl,h⟩
 cases m
 ·exact none_ne h
 rename_i m
 rw [x30_l4.eq_2] at h
 conv=>whnf
 subst g_13
 unfold xrc30_13
 obtain ⟨c_14,g_14⟩:∃ c,xrc30_14=c:=⟨_,rfl⟩
 rw [g_14]
 conv=>whnf
 rcases bt (decide (s4<(((ix q1.1 s2).1).length:Int))) with hb13 | hb13
 ·rw [hb13]
  conv=>whnf
  replace h:=it_t hb13 h
  subst g_14
  unfold xrc30_14
  obtain ⟨c_15,g_15⟩:∃ c,xrc30_15=c:=⟨_,rfl⟩
  rw [g_15]
  obtain ⟨c_16,g_16⟩:∃ c,xrc30_16=c:=⟨_,rfl⟩
  rw [g_16]
  conv=>whnf
  obtain ⟨hb14,h⟩:=gd_some h
  refine ⟨hb14,?_⟩
  rw [drop1 I ((ix q1.1 s2).1) s4 hb14]
  conv=>whnf
  subst g_16
  unfold xrc30_16
  skip
  conv=>whnf
  obtain ⟨hb15,h⟩:=gd_some h
  refine ⟨hb15,?_⟩
  rw [drop1 I p1.2.2.1 s4 hb15]
  conv=>whnf
  obtain ⟨hb16,h⟩:=gd_some h
  refine ⟨⟨hb16.1,hb16.2.1⟩,?_⟩
  replace hb16:0≤(ix ((ix q1.1 s2).1) s4)∧(ix ((ix q1.1 s2).1) s4)<(s5.length:Int):=⟨hb16.1,by have:=hb16.2;omega⟩
  conv=>whnf
  refine updD I s5 (ix ((ix q1.1 s2).1) s4) (ix p1.2.2.1 s4) hb16 ?_
  conv=>whnf
  subst g_15
  unfold xrc30_15
  skip
  conv=>whnf
  exact ⟨m,Nat.lt_succ_self m,(w (s4+(1:Int))),(s5.set (ix ((ix q1.1 s2).1) s4).toNat (ix p1.2.2.1 s4)),rfl,rfl,h⟩
 ·rw [hb13]
  conv=>whnf
  replace h:=it_f hb13 h
  exact hkl4_0 _ _ _ _ _ _ _ _ _ _ _ _ _ _ _ _ _ _ _ _ _ _ _ _ _ _ _ _ _ _ _ _ _ _ _ _ _ _ _ _ _ _ _ _ _ _ _ _ _ _ _ h
theorem x30_l3_ok {panels:(List (Int×Int))} {p1:((Int×(List Int)×Int×Int)×(List (Int×Int))×(List Int)×(List Int))} {q1:((List ((List Int)×Int×Int))×Int)} {kl3_0:(List Int)→Option ((List Int)×Int)} {s2:Int} {s3:(List Int)} {v:((List Int)×Int)} {Q:Ex→List AV→List AObj→Prop} {o1:AObj}  (hkl3_0:∀ (z2:(List Int)) (u0:AV) (u1:AV) (u2:AV) (u3:AV) (u6:AV) (u7:AV) (u8:AV) (u9:AV) (u10:AV) (u13:AV) (u14:AV) (u15:AV) (u16:AV) (u17:AV) (u18:AV) (u19:AV) (u20:AV) (u21:AV) (u22:AV) (u23:AV) (u24:AV) (u25:AV) (u26:AV) (u27:AV) (u28:AV) (u29:AV) (u30:AV) (u31:AV) (u32:AV) (u33:AV) (u34:AV) (u35:AV) (u36:AV) (u37:AV) (u38:AV) (u39:AV) (u40:AV) (u41:AV) (u42:AV) (u43:AV) (u44:AV) (u45:AV) (u46:AV) (u47:AV) (u48:AV) (u49:AV) (u50:AV) (u51:AV) (u52:AV) (u53:AV) (u54:AV) (u55:AV) (u56:AV) (Yq:List AObj),kl3_0 z2=some v→Q (.exit 0) [u0,u1,u2,u3,J,J,u6,u7,u8,u9,u10,(.ref 1 0 (panels.length:Int).toNat (some (panels.length:Int).toNat) 1),J,u13,u14,u15,u16,u17,u18,u19,u20,u21,u22,u23,u24,u25,u26,u27,u28,u29,u30,u31,u32,u33,u34,u35,u36,u37,u38,u39,u40,u41,u42,u43,u44,u45,u46,u47,u48,u49,u50,u51,u52,u53,u54,u55,u56] (o1::AObj.cells (z2.map I)::Yq)) {T:List AV} (hT:zipKeep [o_,o_,o_,o_,o_,o_,o_,o_,i_,o_,o_,i_,o_,o_,o_,o_,o_,o_,o_,o_,o_,o_,o_,o_,o_,o_,o_,o_,o_,o_,i_,i_,i_,o_,o_,o_,o_,o_,o_,o_,o_,o_,o_,o_,o_,o_,o_,o_,o_,o_,o_,o_,o_,o_,o_,o_,o_] T=slots 57 [(8,(.lptr ((I p1.1.1)::(.lst (p1.1.2.1.map I) p1.1.2.1.length .shared)::(I p1.1.2.2.1)::(I p1.1.2.2.2)::(.lst (p1.2.1.flatMap pr) p1.2.1.length .shared)::(.lst (p1.2.2.1.map I) p1.2.2.1.length .shared)::(p1.2.2.2.map I)))),(11,(.ref 1 0 (panels.length:Int).toNat (some (panels.length:Int).toNat) 1)),(30,(.lst (q1.1.flatMap E_turn) q1.1.length .shared)),(31,(I (q1.1.length:Int))),(32,(I s2))]) (h:x30_l3 panels p1 q1 kl3_0 FU s2 s3=some v) :
  wpR Tryz.prog ann30 30 0 none xrc30_18 T [o1,AObj.cells (s3.map I)] Q:=by
 unfold xrc30_18
 obtain ⟨c_8,g_8⟩:∃ c,xrc30_8=c:=⟨_,rfl⟩
 rw [g_8]
 refine wp_loop hT ?_
 refine .intro (fun m T H=>∃ (s2:Int) (s3:(List Int)) (Y30_1:List AObj),T=slots 57 [(8,(.lptr ((I p1.1.1)::(.lst (p1.1.2.1.map I) p1.1.2.1.length .shared)::(I p1.1.2.2.1)::(I p1.1.2.2.2)::(.lst (p1.2.1.flatMap pr) p1.2.1.length .shared)::(.lst (p1.2.2.1.map I) p1.2.2.1.length .shared)::(p1.2.2.2.map I)))),(11,(.ref 1 0 (panels.length:Int).toNat (some (panels.length:Int).toNat) 1)),(30,(.lst (q1.1.flatMap E_turn) q1.1.length .shared)),(31,(I (q1.1.length:Int))),(32,(I s2))]∧H=(o1::AObj.cells (s3.map I)::Y30_1)∧x30_l3 panels p1 q1 kl3_0 m s2 s3=some v) FU ⟨s2,s3,[],rfl,rfl,h⟩ ?_
 clear h hT
 rintro m T H ⟨s2,s3,Y30_1,rfl,rfl,h⟩
 cases m
 ·exact none_ne h
 rename_i m
 rw [x30_l3.eq_2] at h
 conv=>whnf
 subst g_8
 unfold xrc30_8
 obtain ⟨c_9,g_9⟩:∃ c,xrc30_9=c:=⟨_,rfl⟩
 rw [g_9]
 conv=>whnf
 rcases bt (decide (s2<(q1.1.length:Int))) with hb11 | hb11
 ·rw [hb11]
  conv=>whnf
  replace h:=it_t hb11 h
  subst g_9
  unfold xrc30_9
  obtain ⟨c_10,g_10⟩:∃ c,xrc30_10=c:=⟨_,rfl⟩
  rw [g_10]
  obtain ⟨c_11,g_11⟩:∃ c,xrc30_11=c:=⟨_,rfl⟩
  rw [g_11]
  conv=>whnf
  obtain ⟨hb12,h⟩:=gd_some h
  refine ⟨hb12,?_⟩
  rw [dropS E_turn 3 E_turn_len q1.1 s2 hb12]
  conv=>whnf
  refine nthK_of (x:=AObj.cells [(.lst [] 0 .full),(I (0:Int)),(I (0:Int))]) (by first | with_reducible exact get_concat _ _ | exact get_concat _ _ | exact ga (get_concat _ _) | rfl | (simp [List.getElem?_append,AV.settle];done)) ?_
  conv=>whnf
  rw [set_concat]
  subst g_11
  unfold xrc30_11
  obtain ⟨c_12,g_12⟩:∃ c,xrc30_12=c:=⟨_,rfl⟩
  rw [g_12]
  conv=>whnf
  refine nthK_of (x:=AObj.cells [(.lst (((ix q1.1 s2).1).map I) ((ix q1.1 s2).1).length .shared),(I (ix q1.1 s2).2.1),(I (ix q1.1 s2).2.2)]) (by first | with_reducible exact get_concat _ _ | exact get_concat _ _ | exact ga (get_concat _ _) | rfl | (simp [List.getElem?_append,AV.settle];done)) ?_
  conv=>whnf
  subst g_12
  unfold xrc30_12
  obtain ⟨c_17,g_17⟩:∃ c,xrc30_17=c:=⟨_,rfl⟩
  rw [g_17]
  conv=>whnf
  subst g_17
  refine x30_l4_ok ?_ (by exact rfl) h
  intro z1 u0 u1 u2 u3 u6 u7 u9 u10 u13 u14 u15 u16 u17 u18 u19 u20 u21 u22 u23 u24 u25 u26 u27 u28 u29 u33 u34 u35 u36 u37 u38 u39 u40 u41 u42 u43 u44 u45 u46 u47 u48 u49 u50 u51 u52 u53 u54 u55 u56 Yq h
  conv=>whnf
  subst g_10
  unfold xrc30_10
  skip
  conv=>whnf
  exact ⟨m,Nat.lt_succ_self m,(w (s2+(1:Int))),z1,_,rfl,rfl,h⟩
 ·rw [hb11]
  conv=>whnf
  replace h:=it_f hb11 h
  exact hkl3_0 _ _ _ _ _ _ _ _ _ _ _ _ _ _ _ _ _ _ _ _ _ _ _ _ _ _ _ _ _ _ _ _ _ _ _ _ _ _ _ _ _ _ _ _ _ _ _ _ _ _ _ _ _ _ _ h
theorem x30_ok {b:(Int×(List Int)×Int×Int)} {panels:(List (Int×Int))} {turns:(List (List Int))} {v:((List Int)×Int)} (h:x30 b panels turns=some v):PO 30 [(.agg [(I b.1),(.lst (b.2.1.map I) b.2.1.length .shared),(I b.2.2.1),(I b.2.2.2)]),(.lst (panels.flatMap pr) panels.length .shared),(.lst (turns.map L1) turns.length .shared)] (.tuple [(.lst (v.1.map I) v.1.length .shared),(I v.2)]):=by
 refine fn_pureW hmix lxx30 rfl (pu_tup (allc (pu_map (fun _=>rfl) _ _ _) (allc rfl rfl))) fun Q hQ=>?_
 have hR:∀ T H,RetW [.tmp 6,.tmp 7] (.tuple [(.lst (v.1.map I) v.1.length .shared),(I v.2)]) .ret T H→Q .ret T H:=fun T H hh=>hQ _ T H hh
 unfold x30 at h
 unfold xrc30
 obtain ⟨c_1,g_1⟩:∃ c,xrc30_1=c:=⟨_,rfl⟩
 rw [g_1]
 conv=>whnf
 subst g_1
 unfold xrc30_1
 obtain ⟨c_2,g_2⟩:∃ c,xrc30_2=c:=⟨_,rfl⟩
 rw [g_2]
 conv=>whnf
 obtain ⟨r1,hb1,h⟩:=bd_some h
 rcases r1 with ⟨_ | p1,q1⟩
 ·refine ⟨(allc (pu_agg (allc rfl (allc (pu_map (fun _=>rfl) _ _ _) (allc rfl (allc rfl rfl))))) (allc (pu_flat (fun _=>(allc rfl (allc rfl rfl))) _ _ _) (allc (pu_map (fun _=>(pu_map (fun _=>rfl) _ _ _)) _ _ _) rfl))),_,x65_ok hb1,?_⟩
  conv=>whnf
  subst g_2
  unfold xrc30_2
  obtain ⟨c_3,g_3⟩:∃ c,xrc30_3=c:=⟨_,rfl⟩
  rw [g_3]
  obtain ⟨c_4,g_4⟩:∃ c,xrc30_4=c:=⟨_,rfl⟩
  rw [g_4]
  conv=>whnf
  subst g_4
  unfold xrc30_4
  skip
  conv=>whnf
  rcases bt (decide (q1.2≠(0:Int))) with hb2 | hb2
  ·rw [hb2]
   conv=>whnf
   replace h:=it_t hb2 h
   obtain rfl:=Option.some.inj h
   exact hR _ _ ⟨.inr rfl,_,rfl,_,frz_pure (pu_tup (allc rfl (allc rfl rfl))),rfl⟩
  ·rw [hb2]
   conv=>whnf
   replace h:=it_f hb2 h
   subst g_3
   unfold xrc30_3
   obtain ⟨c_5,g_5⟩:∃ c,xrc30_5=c:=⟨_,rfl⟩
   rw [g_5]
   conv=>whnf
   obtain ⟨hb3,h⟩:=gd_some h
   refine ⟨hb3.1,hb3.2.1,hb3.2.2,?_⟩
   rw [replMap I (0:Int)]
   conv=>whnf
   subst g_5
   unfold xrc30_5
   obtain ⟨c_6,g_6⟩:∃ c,xrc30_6=c:=⟨_,rfl⟩
   rw [g_6]
   obtain ⟨c_7,g_7⟩:∃ c,xrc30_7=c:=⟨_,rfl⟩
   rw [g_7]
   conv=>whnf
   subst g_7
   unfold xrc30_7
   obtain ⟨c_18,g_18⟩:∃ c,xrc30_18=c:=⟨_,rfl⟩
   rw [g_18]
   conv=>whnf
   subst g_18
   refine x30_l1_ok ?_ (by exact rfl) h
   intro u0 u1 u2 u3 u6 u7 u8 u9 u10 u13 u14 u15 u16 u17 u18 u19 u20 u21 u22 u23 u24 u25 u26 u27 u28 u29 u30 u31 u32 u33 u34 u35 u36 u37 u38 u39 u40 u41 u42 u43 u44 u45 u46 u47 u48 u49 u50 u51 u52 u53 u54 u55 u56 Yq h
   conv=>whnf
   subst g_6
   unfold xrc30_6
   skip
   conv=>whnf
   obtain ⟨hb8,h⟩:=gd_some h
   obtain rfl:=Option.some.inj h
   exact hR _ _ ⟨.inr rfl,_,rfl,_,(frz_tup (mapO_cons' (frz_row (f:=I) (l:=(List.replicate (panels.length:Int).toNat (0:Int))) (by first | with_reducible exact get_concat _ _ | exact get_concat _ _ | exact ga (get_concat _ _) | rfl | (simp [List.getElem?_append,AV.settle];done)) hb8 (fun _=>rfl) (fun _=>rfl)) (mapO_cons' (frz_pure rfl) mapO_nil'))),by simp only [AV.settle,AV.view,AV.dim,List.map_cons,List.map_nil,dim0_frz];exact congrArg (fun n=>AV.tuple [AV.lst _ n .shared,_]) hb8⟩
 ·refine ⟨(allc (pu_agg (allc rfl (allc (pu_map (fun _=>rfl) _ _ _) (allc rfl (allc rfl rfl))))) (allc (pu_flat (fun _=>(allc rfl (allc rfl rfl))) _ _ _) (allc (pu_map (fun _=>(pu_map (fun _=>rfl) _ _ _)) _ _ _) rfl))),_,x65_ok hb1,?_⟩
  conv=>whnf
  subst g_2
  unfold xrc30_2
  obtain ⟨c_3,g_3⟩:∃ c,xrc30_3=c:=⟨_,rfl⟩
  rw [g_3]
  obtain ⟨c_4,g_4⟩:∃ c,xrc30_4=c:=⟨_,rfl⟩
  rw [g_4]
  conv=>whnf
  subst g_4
  unfold xrc30_4
  skip
  conv=>whnf
  rcases bt (decide (q1.2≠(0:Int))) with hb9 | hb9
  ·rw [hb9]
   conv=>whnf
   replace h:=it_t hb9 h
   obtain rfl:=Option.some.inj h
   exact hR _ _ ⟨.inr rfl,_,rfl,_,frz_pure (pu_tup (allc rfl (allc rfl rfl))),rfl⟩
  ·rw [hb9]
   conv=>whnf
   replace h:=it_f hb9 h
   subst g_3
   unfold xrc30_3
   obtain ⟨c_5,g_5⟩:∃ c,xrc30_5=c:=⟨_,rfl⟩
   rw [g_5]
   conv=>whnf
   obtain ⟨hb10,h⟩:=gd_some h
   refine ⟨hb10.1,hb10.2.1,hb10.2.2,?_⟩
   rw [replMap I (0:Int)]
   conv=>whnf
   subst g_5
   unfold xrc30_5
   obtain ⟨c_6,g_6⟩:∃ c,xrc30_6=c:=⟨_,rfl⟩
   rw [g_6]
   obtain ⟨c_7,g_7⟩:∃ c,xrc30_7=c:=⟨_,rfl⟩
   rw [g_7]
   conv=>whnf
   subst g_7
   unfold xrc30_7
   obtain ⟨c_18,g_18⟩:∃ c,xrc30_18=c:=⟨_,rfl⟩
   rw [g_18]
   conv=>whnf
   subst g_18
   refine x30_l3_ok ?_ (by exact rfl) h
   intro z2 u0 u1 u2 u3 u6 u7 u8 u9 u10 u13 u14 u15 u16 u17 u18 u19 u20 u21 u22 u23 u24 u25 u26 u27 u28 u29 u30 u31 u32 u33 u34 u35 u36 u37 u38 u39 u40 u41 u42 u43 u44 u45 u46 u47 u48 u49 u50 u51 u52 u53 u54 u55 u56 Yq h
   conv=>whnf
   subst g_6
   unfold xrc30_6
   skip
   conv=>whnf
   obtain ⟨hb17,h⟩:=gd_some h
   obtain rfl:=Option.some.inj h
   exact hR _ _ ⟨.inr rfl,_,rfl,_,(frz_tup (mapO_cons' (frz_row (f:=I) (l:=z2) (by first | with_reducible exact get_concat _ _ | exact get_concat _ _ | exact ga (get_concat _ _) | rfl | (simp [List.getElem?_append,AV.settle];done)) hb17 (fun _=>rfl) (fun _=>rfl)) (mapO_cons' (frz_pure rfl) mapO_nil'))),by simp only [AV.settle,AV.view,AV.dim,List.map_cons,List.map_nil,dim0_frz];exact congrArg (fun n=>AV.tuple [AV.lst _ n .shared,_]) hb17⟩
end Go.Proofs.YtbnbjjgagikobaaGreat.Ab

/- MADE BY PROGRAM (ex.py): functions as plain Lean, with their walks. -/
namespace Go.Proofs.YtbnbjjgagikobaaGreat.Ab
open Go
set_option maxRecDepth 20000
set_option maxHeartbeats 4000000
noncomputable def xrc31_1:RC :=
 .loop (some [o_,o_,i_,o_,o_,o_,o_,o_,o_,o_,o_,i_,i_,i_,i_,o_,o_,o_,o_,o_,o_,o_,o_,o_,o_,o_,o_,o_,o_,o_,o_,o_,o_,o_,o_,o_,o_,o_,o_,o_,o_,o_,o_,o_,o_,o_,o_,o_,o_,o_,o_,o_,o_,o_,o_,o_,o_,o_,o_,o_]) (.seq (.seq (.reg false
 [I_ 37 [.sl 14] .mv,I_ 38 [.sl 2] .mv,I_ 39 [.sl 13] .mv,I_ 40 [.tv 38,.tv 39] (.ia 1),I_ 41 [.tv 40] (.ld .one),I_ 42 [.tk 41] .lenS,I_ 43 [.tv 37,.tv 42] (.bin .lss)]) (.cond (.sl 43) .skip (.exit 2))) (.seq (.block 3
 (.reg true [I_ 46 [.sl 11] .mv,I_ 47 [.sl 2] .mv,I_ 48 [.sl 13] .mv,I_ 49 [.tv 47,.tv 48] (.ia 1),I_ 50 [.tv 49] (.ld .one),I_ 51 [.sl 14] .mv,I_ 52 [.tv 50,.tv 51] (.ia 1),I_ 53 [.tv 52] (.ld .one),I_ 54 [.sl 12]
 .mv,I_ 55 [.sl 14] .mv,I_ 56 [.tv 54,.tv 55] (.ia 1),I_ 57 [.tv 56] (.ld .one),I_ 58 [.tv 46,.tv 53] (.ia 1),⟨none,[.tk 58,.tk 57],none,none,.st 1⟩])) (.reg false [I_ 44 [.tk 14] .mv,I_ 45 [.tv 44,.cv (.int .i64
 1)] (.bin .add),I_ 14 [.tk 45] .mv])))
noncomputable def xrc31_2:RC :=
 .loop (some [o_,o_,i_,o_,o_,o_,o_,o_,o_,o_,o_,i_,i_,i_,o_,o_,o_,o_,o_,o_,o_,o_,o_,o_,o_,o_,o_,o_,o_,o_,o_,o_,o_,o_,o_,o_,o_,o_,o_,o_,o_,o_,o_,o_,o_,o_,o_,o_,o_,o_,o_,o_,o_,o_,o_,o_,o_,o_,o_,o_]) (.seq (.seq (.reg false
 [I_ 31 [.sl 13] .mv,I_ 32 [.sl 2] .mv,I_ 33 [.tk 32] .lenS,I_ 34 [.tv 31,.tv 33] (.bin .lss)]) (.cond (.sl 34) .skip (.exit 0))) (.seq (.block 1 (.seq (.reg false [I_ 14 [.cv (.int .i64 0)] .mv]) (.block 2 xrc31_1))) (.reg
 false [I_ 35 [.tk 13] .mv,I_ 36 [.tv 35,.cv (.int .i64 1)] (.bin .add),I_ 13 [.tk 36] .mv])))
noncomputable def xrc31:RC :=
 .seq (.reg false [I_ 3 [.tk 0] .boxF,I_ 6 [.cv (.lst [] 0 .full)] (.nil 1),I_ 7 [.cv (.int .i64 0)] .mv]) (.seq (.reg false [I_ 16 [.sl 3] (.ldF (.str 4)),I_ 17 [.sl 1] .mv,I_ 18 [.sl 2] .mv,I_ 19 [.cv (.func 27 [] []),.sl
 16,.sl 17,.sl 18] (.call 3),I_ 15 [.tk 19] .mv,I_ 20 [.sl 15] (.ext 0),I_ 21 [.sl 15] (.ext 1),I_ 22 [.tv 15] (.ext 2),I_ 8 [.tk 20] .mv,I_ 9 [.tk 21] .mv,I_ 10 [.tk 22] .mv]) (.seq (.seq (.reg false [I_ 23 [.sl 10]
 .mv,I_ 24 [.tv 23,.cv (.int .i64 0)] (.bin .neq)]) (.cond (.sl 24) (.seq (.reg false [I_ 25 [.tk 10] .mv,I_ 6 [.cv (.lst [] 0 .full)] (.nil 1),I_ 7 [.tk 25] .mv]) .ret) .skip)) (.seq (.reg true [I_ 26 [.tk 1] .mv,I_ 27
 [.tk 26] .lenS,I_ 28 [.sl 27,.tv 27] (.mkS [.int .i64 0] 1 8),I_ 29 [.tv 3] (.ldF (.str 4)),I_ 30 [.cv (.func 51 [] []),.sl 29] (.call 3),I_ 11 [.tk 28] .mv,I_ 12 [.tk 30] .mv]) (.seq (.seq (.reg false [I_ 13 [.cv (.int
 .i64 0)] .mv]) (.block 0 xrc31_2)) (.seq (.reg false [I_ 59 [.tk 11] .mv,I_ 6 [.tk 59] .mv,I_ 7 [.cv (.int .i64 0)] .mv]) .ret)))))
theorem lxx31:linkF Tryz.prog ann31 31=some (xrc31,60,[.tmp 6,.tmp 7]):=by kernel_rfl
def x31_l2 (panels:(List (Int×Int))) (turns:(List (List Int))) (r2:(List Int)) (s1:Int) (kl2_0:(List Int)→Option ((List Int)×Int)):Nat→Int→(List Int)→Option ((List Int)×Int)
 | 0,_,_=>none
 | m+1,s3,s4 =>
   gd (0≤s1∧s1<(turns.length:Int)) <|
   if (decide (s3<((ix turns s1).length:Int)))=true then
    gd (0≤s1∧s1<(turns.length:Int)) <|
    gd (0≤s3∧s3<((ix turns s1).length:Int)) <|
    gd (0≤s3∧s3<(r2.length:Int)) <|
    gd (0≤(ix (ix turns s1) s3)∧(ix (ix turns s1) s3)<(((panels.length:Int).toNat:Nat):Int)∧(panels.length:Int).toNat=s4.length) <|
    x31_l2 panels turns r2 s1 kl2_0 m (w (s3+(1:Int))) (s4.set (ix (ix turns s1) s3).toNat (ix r2 s3))
   else
    kl2_0 s4
def x31_l1 (panels:(List (Int×Int))) (turns:(List (List Int))) (r2:(List Int)) (kl1_0:(List Int)→Option ((List Int)×Int)):Nat→Int→(List Int)→Option ((List Int)×Int)
 | 0,_,_=>none
 | m+1,s1,s2 =>
   if (decide (s1<(turns.length:Int)))=true then
    x31_l2 panels turns r2 s1 (fun z1 =>
      x31_l1 panels turns r2 kl1_0 m (w (s1+(1:Int))) z1) FU (0:Int) s2
   else
    kl1_0 s2
/-- crossband/crossbandref08.Lie -/
def x31 (b:(Int×(List Int)×Int×Int)) (panels:(List (Int×Int))) (turns:(List (List Int))):Option ((List Int)×Int) :=
 (x27 b panels turns).bind fun r1 =>
 if (decide (r1.2.2≠(0:Int)))=true then
  some ([],r1.2.2)
 else
  gd (0≤(panels.length:Int)∧(panels.length:Int)≤(panels.length:Int)∧(panels.length:Int).toNat*8≤140737488355328) <|
  (x51 b).bind fun r2 =>
  x31_l1 panels turns r2 (fun z2 =>
    gd ((panels.length:Int).toNat=z2.length) <|
    some (z2,(0:Int))) FU (0:Int) (List.replicate (panels.length:Int).toNat (0:Int))
theorem x31_l2_ok {panels:(List (Int×Int))} {turns:(List (List Int))} {r2:(List Int)} {s1:Int} {kl2_0:(List Int)→Option ((List Int)×Int)} {s3:Int} {s4:(List Int)} {v:((List Int)×Int)} {Q:Ex→List AV→List AObj→Prop}   (hkl2_0:∀ (z1:(List Int)) (u0:AV) (u1:AV) (u3:AV) (u6:AV) (u7:AV) (u8:AV) (u9:AV) (u10:AV) (u14:AV) (u15:AV) (u16:AV) (u17:AV) (u18:AV) (u19:AV) (u20:AV) (u21:AV) (u22:AV) (u23:AV) (u24:AV) (u25:AV) (u26:AV) (u27:AV) (u28:AV) (u29:AV) (u30:AV) (u31:AV) (u32:AV) (u33:AV) (u34:AV) (u35:AV) (u36:AV) (u37:AV) (u38:AV) (u39:AV) (u40:AV) (u41:AV) (u42:AV) (u43:AV) (u44:AV) (u45:AV) (u46:AV) (u47:AV) (u48:AV) (u49:AV) (u50:AV) (u51:AV) (u52:AV) (u53:AV) (u54:AV) (u55:AV) (u56:AV) (u57:AV) (u58:AV) (u59:AV),kl2_0 z1=some v→Q (.exit 2) [u0,u1,(.lst (turns.map L1) turns.length .shared),u3,J,J,u6,u7,u8,u9,u10,(.ref 0 0 (panels.length:Int).toNat (some (panels.length:Int).toNat) 1),(.lst (r2.map I) r2.length .shared),(I s1),u14,u15,u16,u17,u18,u19,u20,u21,u22,u23,u24,u25,u26,u27,u28,u29,u30,u31,u32,u33,u34,u35,u36,u37,u38,u39,u40,u41,u42,u43,u44,u45,u46,u47,u48,u49,u50,u51,u52,u53,u54,u55,u56,u57,u58,u59] [AObj.cells (z1.map I)]) {T:List AV} (hT:zipKeep [o_,o_,i_,o_,o_,o_,o_,o_,o_,o_,o_,i_,i_,i_,i_,o_,o_,o_,o_,o_,o_,o_,o_,o_,o_,o_,o_,o_,o_,o_,o_,o_,o_,o_,o_,o_,o_,o_,o_,o_,o_,o_,o_,o_,o_,o_,o_,o_,o_,o_,o_,o_,o_,o_,o_,o_,o_,o_,o_,o_] T=slots 60 [(2,(.lst (turns.map L1) turns.length .shared)),(11,(.ref 0 0 (panels.length:Int).toNat (some (panels.length:Int).toNat) 1)),(12,(.lst (r2.map I) r2.length .shared)),(13,(I s1)),(14,(I s3))]) (h:x31_l2 panels turns r2 s1 kl2_0 FU s3 s4=some v) :
  wpR Tryz.prog ann31 31 0 none xrc31_1 T [AObj.cells (s4.map I)] Q:=by
 unfold xrc31_1
 skip
 refine wp_loop hT ?_
 refine .intro (fun m T H=>∃ (s3:Int) (s4:(List Int)),T=slots 60 [(2,(.lst (turns.map L1) turns.length .shared)),(11,(.ref 0 0 (panels.length:Int).toNat (some (panels.length:Int).toNat) 1)),(12,(.lst (r2.map I) r2.length .shared)),(13,(I s1)),(14,(I s3))]∧H=[AObj.cells (s4.map I)]∧x31_l2 panels turns r2 s1 kl2_0 m s3 s4=some v) FU ⟨s3,s4,rfl,rfl,h⟩ ?_
 clear h hT
 rintro m T H ⟨s3,s4,rfl,rfl,h⟩
 cases m
 ·exact none_ne h
 rename_i m
 rw [x31_l2.eq_2] at h
 conv=>whnf
 obtain ⟨hb6,h⟩:=gd_some h
 refine ⟨hb6,?_⟩
 rw [drop1 L1 turns s1 hb6]
 conv=>whnf
 rcases bt (decide (s3<((ix turns s1).length:Int))) with hb7 | hb7
 ·rw [hb7]
  conv=>whnf
  replace h:=it_t hb7 h
  obtain ⟨hb8,h⟩:=gd_some h
  refine ⟨hb8,?_⟩
  rw [drop1 L1 turns s1 hb8]
  conv=>whnf
  obtain ⟨hb9,h⟩:=gd_some h
  refine ⟨hb9,?_⟩
  rw [drop1 I (ix turns s1) s3 hb9]
  conv=>whnf
  obtain ⟨hb10,h⟩:=gd_some h
  refine ⟨hb10,?_⟩
  rw [drop1 I r2 s3 hb10]
  conv=>whnf
  obtain ⟨hb11,h⟩:=gd_some h
  refine ⟨⟨hb11.1,hb11.2.1⟩,?_⟩
  replace hb11:0≤(ix (ix turns s1) s3)∧(ix (ix turns s1) s3)<(s4.length:Int):=⟨hb11.1,by have:=hb11.2;omega⟩
  conv=>whnf
  refine updD I s4 (ix (ix turns s1) s3) (ix r2 s3) hb11 ?_
  conv=>whnf
  exact ⟨m,Nat.lt_succ_self m,(w (s3+(1:Int))),(s4.set (ix (ix turns s1) s3).toNat (ix r2 s3)),rfl,rfl,h⟩
 ·rw [hb7]
  conv=>whnf
  replace h:=it_f hb7 h
  exact hkl2_0 _ _ _ _ _ _ _ _ _ _ _ _ _ _ _ _ _ _ _ _ _ _ _ _ _ _ _ _ _ _ _ _ _ _ _ _ _ _ _ _ _ _ _ _ _ _ _ _ _ _ _ _ _ _ _ h
theorem x31_l1_ok {panels:(List (Int×Int))} {turns:(List (List Int))} {r2:(List Int)} {kl1_0:(List Int)→Option ((List Int)×Int)} {s1:Int} {s2:(List Int)} {v:((List Int)×Int)} {Q:Ex→List AV→List AObj→Prop}   (hkl1_0:∀ (z2:(List Int)) (u0:AV) (u1:AV) (u2:AV) (u3:AV) (u6:AV) (u7:AV) (u8:AV) (u9:AV) (u10:AV) (u12:AV) (u13:AV) (u14:AV) (u15:AV) (u16:AV) (u17:AV) (u18:AV) (u19:AV) (u20:AV) (u21:AV) (u22:AV) (u23:AV) (u24:AV) (u25:AV) (u26:AV) (u27:AV) (u28:AV) (u29:AV) (u30:AV) (u31:AV) (u32:AV) (u33:AV) (u34:AV) (u35:AV) (u36:AV) (u37:AV) (u38:AV) (u39:AV) (u40:AV) (u41:AV) (u42:AV) (u43:AV) (u44:AV) (u45:AV) (u46:AV) (u47:AV) (u48:AV) (u49:AV) (u50:AV) (u51:AV) (u52:AV) (u53:AV) (u54:AV) (u55:AV) (u56:AV) (u57:AV) (u58:AV) (u59:AV),kl1_0 z2=some v→Q (.exit 0) [u0,u1,u2,u3,J,J,u6,u7,u8,u9,u10,(.ref 0 0 (panels.length:Int).toNat (some (panels.length:Int).toNat) 1),u12,u13,u14,u15,u16,u17,u18,u19,u20,u21,u22,u23,u24,u25,u26,u27,u28,u29,u30,u31,u32,u33,u34,u35,u36,u37,u38,u39,u40,u41,u42,u43,u44,u45,u46,u47,u48,u49,u50,u51,u52,u53,u54,u55,u56,u57,u58,u59] [AObj.cells (z2.map I)]) {T:List AV} (hT:zipKeep [o_,o_,i_,o_,o_,o_,o_,o_,o_,o_,o_,i_,i_,i_,o_,o_,o_,o_,o_,o_,o_,o_,o_,o_,o_,o_,o_,o_,o_,o_,o_,o_,o_,o_,o_,o_,o_,o_,o_,o_,o_,o_,o_,o_,o_,o_,o_,o_,o_,o_,o_,o_,o_,o_,o_,o_,o_,o_,o_,o_] T=slots 60 [(2,(.lst (turns.map L1) turns.length .shared)),(11,(.ref 0 0 (panels.length:Int).toNat (some (panels.length:Int).toNat) 1)),(12,(.lst (r2.map I) r2.length .shared)),(13,(I s1))]) (h:x31_l1 panels turns r2 kl1_0 FU s1 s2=some v) :
  wpR Tryz.prog ann31 31 0 none xrc31_2 T [AObj.cells (s2.map I)] Q:=by
 unfold xrc31_2
 obtain ⟨c_1,g_1⟩:∃ c,xrc31_1=c:=⟨_,rfl⟩
 rw [g_1]
 refine wp_loop hT ?_
 refine .intro (fun m T H=>∃ (s1:Int) (s2:(List Int)),T=slots 60 [(2,(.lst (turns.map L1) turns.length .shared)),(11,(.ref 0 0 (panels.length:Int).toNat (some (panels.length:Int).toNat) 1)),(12,(.lst (r2.map I) r2.length .shared)),(13,(I s1))]∧H=[AObj.cells (s2.map I)]∧x31_l1 panels turns r2 kl1_0 m s1 s2=some v) FU ⟨s1,s2,rfl,rfl,h⟩ ?_
 clear h hT
 rintro m T H ⟨s1,s2,rfl,rfl,h⟩
 cases m
 ·exact none_ne h
 rename_i m
 rw [x31_l1.eq_2] at h
 conv=>whnf
 rcases bt (decide (s1<(turns.length:Int))) with hb5 | hb5
 ·rw [hb5]
  conv=>whnf
  replace h:=it_t hb5 h
  subst g_1
  refine x31_l2_ok ?_ (by exact rfl) h
  intro z1 u0 u1 u3 u6 u7 u8 u9 u10 u14 u15 u16 u17 u18 u19 u20 u21 u22 u23 u24 u25 u26 u27 u28 u29 u30 u31 u32 u33 u34 u35 u36 u37 u38 u39 u40 u41 u42 u43 u44 u45 u46 u47 u48 u49 u50 u51 u52 u53 u54 u55 u56 u57 u58 u59 h
  conv=>whnf
  exact ⟨m,Nat.lt_succ_self m,(w (s1+(1:Int))),z1,rfl,rfl,h⟩
 ·rw [hb5]
  conv=>whnf
  replace h:=it_f hb5 h
  exact hkl1_0 _ _ _ _ _ _ _ _ _ _ _ _ _ _ _ _ _ _ _ _ _ _ _ _ _ _ _ _ _ _ _ _ _ _ _ _ _ _ _ _ _ _ _ _ _ _ _ _ _ _ _ _ _ _ _ _ _ _ h
theorem x31_ok {b:(Int×(List Int)×Int×Int)} {panels:(List (Int×Int))} {turns:(List (List Int))} {v:((List Int)×Int)} (h:x31 b panels turns=some v):PO 31 [(.agg [(I b.1),(.lst (b.2.1.map I) b.2.1.length .shared),(I b.2.2.1),(I b.2.2.2)]),(.lst (panels.flatMap pr) panels.length .shared),(.lst (turns.map L1) turns.length .shared)] (.tuple [(.lst (v.1.map I) v.1.length .shared),(I v.2)]):=by
 refine fn_pureW hmix lxx31 rfl (pu_tup (allc (pu_map (fun _=>rfl) _ _ _) (allc rfl rfl))) fun Q hQ=>?_
 have hR:∀ T H,RetW [.tmp 6,.tmp 7] (.tuple [(.lst (v.1.map I) v.1.length .shared),(I v.2)]) .ret T H→Q .ret T H:=fun T H hh=>hQ _ T H hh
 unfold x31 at h
 unfold xrc31
 obtain ⟨c_2,g_2⟩:∃ c,xrc31_2=c:=⟨_,rfl⟩
 rw [g_2]
 conv=>whnf
 refine ⟨rfl,?_⟩
 conv=>whnf
 obtain ⟨r1,hb1,h⟩:=bd_some h
 refine ⟨(allc (pu_agg (allc rfl (allc (pu_map (fun _=>rfl) _ _ _) (allc rfl (allc rfl rfl))))) (allc (pu_flat (fun _=>(allc rfl (allc rfl rfl))) _ _ _) (allc (pu_map (fun _=>(pu_map (fun _=>rfl) _ _ _)) _ _ _) rfl))),_,x27_ok hb1,?_⟩
 conv=>whnf
 rcases bt (decide (r1.2.2≠(0:Int))) with hb2 | hb2
 ·rw [hb2]
  conv=>whnf
  replace h:=it_t hb2 h
  obtain rfl:=Option.some.inj h
  exact hR _ _ ⟨.inr rfl,_,rfl,_,frz_pure (pu_tup (allc rfl (allc rfl rfl))),rfl⟩
 ·rw [hb2]
  conv=>whnf
  replace h:=it_f hb2 h
  obtain ⟨hb3,h⟩:=gd_some h
  refine ⟨hb3.1,hb3.2.1,hb3.2.2,?_⟩
  rw [replMap I (0:Int)]
  conv=>whnf
  obtain ⟨r2,hb4,h⟩:=bd_some h
  refine ⟨(allc (pu_agg (allc rfl (allc (pu_map (fun _=>rfl) _ _ _) (allc rfl (allc rfl rfl))))) rfl),_,x51_ok hb4,acc0,?_⟩
  conv=>whnf
  subst g_2
  refine x31_l1_ok ?_ (by exact rfl) h
  intro z2 u0 u1 u2 u3 u6 u7 u8 u9 u10 u12 u13 u14 u15 u16 u17 u18 u19 u20 u21 u22 u23 u24 u25 u26 u27 u28 u29 u30 u31 u32 u33 u34 u35 u36 u37 u38 u39 u40 u41 u42 u43 u44 u45 u46 u47 u48 u49 u50 u51 u52 u53 u54 u55 u56 u57 u58 u59 h
  conv=>whnf
  obtain ⟨hb12,h⟩:=gd_some h
  obtain rfl:=Option.some.inj h
  exact hR _ _ ⟨.inr rfl,_,rfl,_,(frz_tup (mapO_cons' (frz_row (f:=I) (l:=z2) (by first | with_reducible exact get_concat _ _ | exact get_concat _ _ | exact ga (get_concat _ _) | rfl | (simp [List.getElem?_append,AV.settle];done)) hb12 (fun _=>rfl) (fun _=>rfl)) (mapO_cons' (frz_pure rfl) mapO_nil'))),by simp only [AV.settle,AV.view,AV.dim,List.map_cons,List.map_nil,dim0_frz];exact congrArg (fun n=>AV.tuple [AV.lst _ n .shared,_]) hb12⟩
end Go.Proofs.YtbnbjjgagikobaaGreat.Ab

/- MADE BY PROGRAM (ex.py): functions as plain Lean, with their walks. -/
namespace Go.Proofs.YtbnbjjgagikobaaGreat.Ab
open Go
set_option maxRecDepth 20000
set_option maxHeartbeats 4000000
noncomputable def xrc4:RC :=
 .seq (.reg false [I_ 3 [.tk 0] .box,I_ 6 [.cv (.bool false)] .mv]) (.seq (.seq (.reg false [I_ 21 [.sl 3] (.ld (.str 4)),I_ 22 [.sl 1] .mv,I_ 23 [.cv (.func 16 [] []),.sl 21,.sl 22] (.call 3),I_ 24 [.tk 23] .mv,⟨some 25,
 [.sl 2],some (24,false),none,.mv⟩,⟨some 26,[.cv (.func 25 [] []),.sl 25],some (24,false),none,.call 3⟩,I_ 27 [.tv 24,.cv (.bool true),.tv 26] .pick]) (.cond (.sl 27) (.seq (.reg false [I_ 28 [.cv (.func 17 [] [])]
 (.call 3),I_ 6 [.tk 28] .mv]) .ret) .skip)) (.seq (.reg false [I_ 30 [.sl 3] (.ld (.str 4)),I_ 31 [.sl 1] .mv,I_ 32 [.sl 2] .mv,I_ 33 [.cv (.func 26 [] []),.sl 30,.sl 31,.sl 32] (.call 3),I_ 29 [.tk 33] .mv,I_ 34 [.sl
 29] (.ext 0),I_ 35 [.sl 29] (.ext 1),I_ 36 [.tv 29] (.ext 2),I_ 7 [.tk 34] .mv,I_ 8 [.tk 35] .mv,I_ 9 [.tk 36] .mv]) (.seq (.reg false [I_ 38 [.sl 3] (.ld (.str 4)),I_ 39 [.sl 1] .mv,I_ 40 [.sl 2] .mv,I_ 41 [.cv (.func
 27 [] []),.sl 38,.sl 39,.sl 40] (.call 3),I_ 37 [.tk 41] .mv,I_ 42 [.sl 37] (.ext 0),I_ 43 [.sl 37] (.ext 1),I_ 44 [.tv 37] (.ext 2),I_ 10 [.tk 42] .mv,I_ 11 [.tk 43] .mv,I_ 12 [.tk 44] .mv]) (.seq (.reg false [I_ 46
 [.sl 3] (.ld (.str 4)),I_ 47 [.sl 1] .mv,I_ 48 [.sl 2] .mv,I_ 49 [.cv (.func 28 [] []),.sl 46,.sl 47,.sl 48] (.call 3),I_ 45 [.tk 49] .mv,I_ 50 [.sl 45] (.ext 0),I_ 51 [.tv 45] (.ext 1),I_ 13 [.tk 50] .mv,I_ 14 [.tk
 51] .mv]) (.seq (.reg false [I_ 53 [.sl 3] (.ld (.str 4)),I_ 54 [.sl 1] .mv,I_ 55 [.sl 2] .mv,I_ 56 [.cv (.func 29 [] []),.sl 53,.sl 54,.sl 55] (.call 3),I_ 52 [.tk 56] .mv,I_ 57 [.sl 52] (.ext 0),I_ 58 [.tv 52] (.ext
 1),I_ 15 [.tk 57] .mv,I_ 16 [.tk 58] .mv]) (.seq (.reg false [I_ 60 [.sl 3] (.ld (.str 4)),I_ 61 [.sl 1] .mv,I_ 62 [.sl 2] .mv,I_ 63 [.cv (.func 30 [] []),.sl 60,.sl 61,.sl 62] (.call 3),I_ 59 [.tk 63] .mv,I_ 64 [.sl
 59] (.ext 0),I_ 65 [.tv 59] (.ext 1),I_ 17 [.tk 64] .mv,I_ 18 [.tk 65] .mv]) (.seq (.reg false [I_ 67 [.tv 3] (.ld (.str 4)),I_ 68 [.tk 1] .mv,I_ 69 [.tk 2] .mv,I_ 70 [.cv (.func 31 [] []),.sl 67,.sl 68,.sl 69] (.call
 3),I_ 66 [.tk 70] .mv,I_ 71 [.sl 66] (.ext 0),I_ 72 [.tv 66] (.ext 1),I_ 19 [.tk 71] .mv,I_ 20 [.tk 72] .mv]) (.seq (.reg false [I_ 73 [.tk 7] .mv,I_ 74 [.tk 10] .mv,I_ 75 [.tv 73,.tv 74] (.bin .eql),I_ 76 [.tk 75]
 .mv,⟨some 77,[.tk 8],some (76,true),none,.mv⟩,⟨some 78,[.tk 11],some (76,true),none,.mv⟩,⟨some 79,[.tv 77,.tv 78],some (76,true),none,.bin .eql⟩,I_ 80 [.tv 76,.tv 79,.cv (.bool false)] .pick,I_ 81 [.tk
 80] .mv,⟨some 82,[.tk 9],some (81,true),none,.mv⟩,⟨some 83,[.tk 12],some (81,true),none,.mv⟩,⟨some 84,[.tv 82,.tv 83],some (81,true),none,.bin .eql⟩,I_ 85 [.tv 81,.tv 84,.cv (.bool false)] .pick,I_ 86
 [.tk 85] .mv,⟨some 87,[.tk 13],some (86,true),none,.mv⟩,⟨some 88,[.tk 15],some (86,true),none,.mv⟩,⟨some 89,[.cv (.func 32 [] []),.sl 87,.sl 88],some (86,true),none,.call 3⟩,I_ 90 [.tv 86,.tv 89,.cv
 (.bool false)] .pick,I_ 91 [.tk 90] .mv,⟨some 92,[.tk 14],some (91,true),none,.mv⟩,⟨some 93,[.tk 16],some (91,true),none,.mv⟩,⟨some 94,[.tv 92,.tv 93],some (91,true),none,.bin .eql⟩,I_ 95 [.tv 91,.tv 94,
 .cv (.bool false)] .pick,I_ 96 [.tk 95] .mv,⟨some 97,[.tk 17],some (96,true),none,.mv⟩,⟨some 98,[.tk 19],some (96,true),none,.mv⟩,⟨some 99,[.cv (.func 24 [] []),.sl 97,.sl 98],some (96,true),none,.call 3⟩,
 I_ 100 [.tv 96,.tv 99,.cv (.bool false)] .pick,I_ 101 [.tk 100] .mv,⟨some 102,[.tk 18],some (101,true),none,.mv⟩,⟨some 103,[.tk 20],some (101,true),none,.mv⟩,⟨some 104,[.tv 102,.tv 103],some (101,true),
 none,.bin .eql⟩,I_ 105 [.tv 101,.tv 104,.cv (.bool false)] .pick,I_ 106 [.tk 105] .mv,⟨some 107,[.cv (.func 17 [] [])],some (106,true),none,.call 3⟩,I_ 108 [.tv 106,.tv 107,.cv (.bool false)] .pick,I_ 6 [.tk 108]
 .mv]) .ret))))))))
theorem lxx4:linkF Tryz.prog ann4 4=some (xrc4,109,[.tmp 6]):=by kernel_rfl
/-- crossband/crossbandlaw08.PressTurns -/
def x4 (b:(Int×(List Int)×Int×Int)) (panels:(List (Int×Int))) (l:(List (List Int))):Option Bool :=
 (x16 b panels).bind fun r1 =>
 if r1=true then
  (x17).bind fun r2 =>
  some r2
 else
  (x25 l).bind fun r3 =>
  if r3=true then
   (x17).bind fun r4 =>
   some r4
  else
   (x26 b panels l).bind fun r5 =>
   (x27 b panels l).bind fun r6 =>
   (x28 b panels l).bind fun r7 =>
   (x29 b panels l).bind fun r8 =>
   (x30 b panels l).bind fun r9 =>
   (x31 b panels l).bind fun r10 =>
   if (decide (r5.1=r6.1))=true then
    if (decide (r5.2.1=r6.2.1))=true then
     if (decide (r5.2.2=r6.2.2))=true then
      (x32 r7.1 r8.1).bind fun r11 =>
      if r11=true then
       if (decide (r7.2=r8.2))=true then
        (x24 r9.1 r10.1).bind fun r12 =>
        if r12=true then
         if (decide (r9.2=r10.2))=true then
          (x17).bind fun r13 =>
          some r13
         else
          some false
        else
         some false
       else
        some false
      else
       some false
     else
      some false
    else
     some false
   else
    some false
theorem x4_ok {b:(Int×(List Int)×Int×Int)} {panels:(List (Int×Int))} {l:(List (List Int))} {v:Bool} (h:x4 b panels l=some v):PO 4 [(.agg [(I b.1),(.lst (b.2.1.map I) b.2.1.length .shared),(I b.2.2.1),(I b.2.2.2)]),(.lst (panels.flatMap pr) panels.length .shared),(.lst (l.map L1) l.length .shared)] (B v):=by
 refine fn_pureW hmix lxx4 rfl rfl fun Q hQ=>?_
 have hR:∀ T H,RetW [.tmp 6] (B v) .ret T H→Q .ret T H:=fun T H hh=>hQ _ T H hh
 unfold x4 at h
 unfold xrc4
 skip
 conv=>whnf
 obtain ⟨r1,hb1,h⟩:=bd_some h
 refine ⟨(allc (pu_agg (allc rfl (allc (pu_map (fun _=>rfl) _ _ _) (allc rfl (allc rfl rfl))))) (allc (pu_flat (fun _=>(allc rfl (allc rfl rfl))) _ _ _) rfl)),_,x16_ok hb1,?_⟩
 conv=>whnf
 cases r1
 ·conv=>whnf
  replace h:=it_f rfl h
  obtain ⟨r3,hb3,h⟩:=bd_some h
  refine ⟨(allc (pu_map (fun _=>(pu_map (fun _=>rfl) _ _ _)) _ _ _) rfl),_,x25_ok hb3,?_⟩
  conv=>whnf
  cases r3
  ·conv=>whnf
   replace h:=it_f rfl h
   obtain ⟨r5,hb5,h⟩:=bd_some h
   refine ⟨(allc (pu_agg (allc rfl (allc (pu_map (fun _=>rfl) _ _ _) (allc rfl (allc rfl rfl))))) (allc (pu_flat (fun _=>(allc rfl (allc rfl rfl))) _ _ _) (allc (pu_map (fun _=>(pu_map (fun _=>rfl) _ _ _)) _ _ _) rfl))),_,x26_ok hb5,?_⟩
   conv=>whnf
   obtain ⟨r6,hb6,h⟩:=bd_some h
   refine ⟨(allc (pu_agg (allc rfl (allc (pu_map (fun _=>rfl) _ _ _) (allc rfl (allc rfl rfl))))) (allc (pu_flat (fun _=>(allc rfl (allc rfl rfl))) _ _ _) (allc (pu_map (fun _=>(pu_map (fun _=>rfl) _ _ _)) _ _ _) rfl))),_,x27_ok hb6,?_⟩
   conv=>whnf
   obtain ⟨r7,hb7,h⟩:=bd_some h
   refine ⟨(allc (pu_agg (allc rfl (allc (pu_map (fun _=>rfl) _ _ _) (allc rfl (allc rfl rfl))))) (allc (pu_flat (fun _=>(allc rfl (allc rfl rfl))) _ _ _) (allc (pu_map (fun _=>(pu_map (fun _=>rfl) _ _ _)) _ _ _) rfl))),_,x28_ok hb7,?_⟩
   conv=>whnf
   obtain ⟨r8,hb8,h⟩:=bd_some h
   refine ⟨(allc (pu_agg (allc rfl (allc (pu_map (fun _=>rfl) _ _ _) (allc rfl (allc rfl rfl))))) (allc (pu_flat (fun _=>(allc rfl (allc rfl rfl))) _ _ _) (allc (pu_map (fun _=>(pu_map (fun _=>rfl) _ _ _)) _ _ _) rfl))),_,x29_ok hb8,?_⟩
   conv=>whnf
   obtain ⟨r9,hb9,h⟩:=bd_some h
   refine ⟨(allc (pu_agg (allc rfl (allc (pu_map (fun _=>rfl) _ _ _) (allc rfl (allc rfl rfl))))) (allc (pu_flat (fun _=>(allc rfl (allc rfl rfl))) _ _ _) (allc (pu_map (fun _=>(pu_map (fun _=>rfl) _ _ _)) _ _ _) rfl))),_,x30_ok hb9,?_⟩
   conv=>whnf
   obtain ⟨r10,hb10,h⟩:=bd_some h
   refine ⟨(allc (pu_agg (allc rfl (allc (pu_map (fun _=>rfl) _ _ _) (allc rfl (allc rfl rfl))))) (allc (pu_flat (fun _=>(allc rfl (allc rfl rfl))) _ _ _) (allc (pu_map (fun _=>(pu_map (fun _=>rfl) _ _ _)) _ _ _) rfl))),_,x31_ok hb10,?_⟩
   conv=>whnf
   rcases bt (decide (r5.1=r6.1)) with hb11 | hb11
   ·rw [hb11]
    conv=>whnf
    replace h:=it_t hb11 h
    rcases bt (decide (r5.2.1=r6.2.1)) with hb12 | hb12
    ·rw [hb12]
     conv=>whnf
     replace h:=it_t hb12 h
     rcases bt (decide (r5.2.2=r6.2.2)) with hb13 | hb13
     ·rw [hb13]
      conv=>whnf
      replace h:=it_t hb13 h
      obtain ⟨r11,hb14,h⟩:=bd_some h
      refine ⟨(allc (pu_map (fun _=>rfl) _ _ _) (allc (pu_map (fun _=>rfl) _ _ _) rfl)),_,x32_ok hb14,?_⟩
      conv=>whnf
      cases r11
      ·conv=>whnf
       replace h:=it_f rfl h
       obtain rfl:=Option.some.inj h
       exact hR _ _ ⟨.inr rfl,_,rfl,_,frz_pure rfl,rfl⟩
      ·conv=>whnf
       replace h:=it_t rfl h
       rcases bt (decide (r7.2=r8.2)) with hb15 | hb15
       ·rw [hb15]
        conv=>whnf
        replace h:=it_t hb15 h
        obtain ⟨r12,hb16,h⟩:=bd_some h
        refine ⟨(allc (pu_map (fun _=>rfl) _ _ _) (allc (pu_map (fun _=>rfl) _ _ _) rfl)),_,x24_ok hb16,?_⟩
        conv=>whnf
        cases r12
        ·conv=>whnf
         replace h:=it_f rfl h
         obtain rfl:=Option.some.inj h
         exact hR _ _ ⟨.inr rfl,_,rfl,_,frz_pure rfl,rfl⟩
        ·conv=>whnf
         replace h:=it_t rfl h
         rcases bt (decide (r9.2=r10.2)) with hb17 | hb17
         ·rw [hb17]
          conv=>whnf
          replace h:=it_t hb17 h
          obtain ⟨r13,hb18,h⟩:=bd_some h
          refine ⟨rfl,_,x17_ok hb18,?_⟩
          conv=>whnf
          obtain rfl:=Option.some.inj h
          exact hR _ _ ⟨.inr rfl,_,rfl,_,frz_pure rfl,rfl⟩
         ·rw [hb17]
          conv=>whnf
          replace h:=it_f hb17 h
          obtain rfl:=Option.some.inj h
          exact hR _ _ ⟨.inr rfl,_,rfl,_,frz_pure rfl,rfl⟩
       ·rw [hb15]
        conv=>whnf
        replace h:=it_f hb15 h
        obtain rfl:=Option.some.inj h
        exact hR _ _ ⟨.inr rfl,_,rfl,_,frz_pure rfl,rfl⟩
     ·rw [hb13]
      conv=>whnf
      replace h:=it_f hb13 h
      obtain rfl:=Option.some.inj h
      exact hR _ _ ⟨.inr rfl,_,rfl,_,frz_pure rfl,rfl⟩
    ·rw [hb12]
     conv=>whnf
     replace h:=it_f hb12 h
     obtain rfl:=Option.some.inj h
     exact hR _ _ ⟨.inr rfl,_,rfl,_,frz_pure rfl,rfl⟩
   ·rw [hb11]
    conv=>whnf
    replace h:=it_f hb11 h
    obtain rfl:=Option.some.inj h
    exact hR _ _ ⟨.inr rfl,_,rfl,_,frz_pure rfl,rfl⟩
  ·conv=>whnf
   replace h:=it_t rfl h
   obtain ⟨r4,hb4,h⟩:=bd_some h
   refine ⟨rfl,_,x17_ok hb4,?_⟩
   conv=>whnf
   obtain rfl:=Option.some.inj h
   exact hR _ _ ⟨.inr rfl,_,rfl,_,frz_pure rfl,rfl⟩
 ·conv=>whnf
  replace h:=it_t rfl h
  obtain ⟨r2,hb2,h⟩:=bd_some h
  refine ⟨rfl,_,x17_ok hb2,?_⟩
  conv=>whnf
  obtain rfl:=Option.some.inj h
  exact hR _ _ ⟨.inr rfl,_,rfl,_,frz_pure rfl,rfl⟩
end Go.Proofs.YtbnbjjgagikobaaGreat.Ab

/-
  Done and Lie: the two answer the same; PressTurns.
-/
namespace Go.Proofs.YtbnbjjgagikobaaGreat.Ab
open Go
set_option maxRecDepth 20000
set_option maxHeartbeats 4000000
def setAll (D t:List Int) (v:Int):List Int:=t.foldl (fun D x=>D.set x.toNat v) D
theorem setAll_snoc (D l:List Int) (x v:Int):setAll D (l++[x]) v=(setAll D l v).set x.toNat v:=by unfold setAll;rw [List.foldl_append];rfl
theorem setAll_len (v:Int):∀ (t D:List Int),(setAll D t v).length=D.length
 | [],_=>rfl
 | x::t,D=>by show (setAll (D.set x.toNat v) t v).length=_;rw [setAll_len v t,List.length_set]
/-- When panels are done. -/
def doneF (ps:List (Int×Int)) (c:Int):Int→Int→List (List Int)→List Int→List Int
 | _,_,[],D=>D
 | s,last,t::r,D=>doneF ps c (s+(c*max (last-heatT ps t) (heatT ps t-last)+hourT ps t)) (heatT ps t) r (setAll D t (s+(c*max (last-heatT ps t) (heatT ps t-last)+hourT ps t)))
theorem doneF_len (ps:List (Int×Int)) (c:Int):∀ (ts:List (List Int)) (s l:Int) (D:List Int),(doneF ps c s l ts D).length=D.length
 | [],_,_,_=>rfl
 | t::r,s,l,D=>by rw [doneF,doneF_len ps c r,setAll_len]
theorem x28_l4_eq {b:Bed} {ps:List (Int×Int)} {q1:List (List Int×Int×Int)×Int} {s6 s7:Int} {t:List Int} {hr fr v:Int} (ht:ix q1.1 s7=(t,hr,fr)) (hrn:∀ x∈t,0≤x∧x<(ps.length:Int)) (hl:t.length≤1000) (hv:w (s6+w (w (b.2.2.2*fr)+hr))=v) {D:List Int} (hD:D.length=ps.length) {k:List Int→Option (List Int×Int)}:∀ (m i:Nat) (z:Int),z=i→i≤t.length→t.length-i<m→x28_l4 b ps q1 s6 s7 k m z (setAll D (t.take i) v)=k (setAll D t v)
 | 0,i,_,_,_,h=>absurd h (by omega)
 | m+1,i,_,rfl,hi,hm=>by
   rw [x28_l4,ht]
   by_cases h:i<t.length
   ·have h1:=hrn _ (List.getElem_mem h)
    have ih:=x28_l4_eq (D:=D) (k:=k) ht hrn hl hv hD m (i+1) _ rfl (by omega) (by omega)
    rw [take_snoc h,setAll_snoc] at ih
    rw [iflt h,gdi h,ix_nat h,gd_pos ⟨h1.1,by omega,by rw [setAll_len];omega⟩,w_succ i (by omega),hv]
    exact ih
   ·obtain rfl:i=t.length:=by omega
    rw [ifge h,List.take_length]
theorem x28_l3_eq {b:Bed} {ps:List (Int×Int)} (hp:PsOk ps) (hc:0≤b.2.2.2∧b.2.2.2≤10) {R:List (List Int×Int×Int)} {e:Int} (hl:R.length≤1000) {k:List Int→Option (List Int×Int)}:∀ (ts:List (List Int)) (m i:Nat) (z s last:Int) (D:List Int),z=i→R.drop i=tRows ps last ts→R.length-i<m→(∀ t∈ts,0<t.length)→(∀ t∈ts,∀ x∈t,0≤x∧x<(ps.length:Int))→(∀ t∈ts,t.length≤1000)→0≤last∧last≤20→0≤s∧s≤1000*i→i≤R.length→D.length=ps.length→x28_l3 b ps (R,e) k m s z D=k (doneF ps b.2.2.2 s last ts D)
 | _,0,_,_,_,_,_,_,_,h,_,_,_,_,_,_,_=>absurd h (by omega)
 | [],m+1,i,_,s,last,D,rfl,hR,hm,_,_,_,_,_,hi,_=>by
   have h:¬ i<R.length:=fun h=>by rw [List.drop_eq_getElem_cons h,tRows] at hR;cases hR
   rw [x28_l3]
   show (if (decide ((i:Int)<(R.length:Int)))=true then _ else _)=_
   rw [ifge h];rfl
 | t::ts,m+1,i,_,s,last,D,rfl,hR,hm,h0,hrn,hlt,hla,hs,hi,hD=>by
   have h:i<R.length:=by
    rcases Nat.lt_or_ge i R.length with h | h
    ·exact h
    ·rw [List.drop_eq_nil_of_le h,tRows] at hR;cases hR
   rw [List.drop_eq_getElem_cons h,tRows] at hR
   obtain ⟨e1,e2⟩:=List.cons.inj hR
   have a0:=(List.forall_mem_cons.1 h0).1
   have ar:=(List.forall_mem_cons.1 hrn).1
   have al:=(List.forall_mem_cons.1 hlt).1
   have hh:=heatT_in hp a0 ar
   have hu:=hourT_in hp.hrs ar
   have hf:=farD_eq (a:=last) (b:=heatT ps t) (by omega) (by omega)
   rw [hf] at e1
   have hF:0≤max (last-heatT ps t) (heatT ps t-last)∧max (last-heatT ps t) (heatT ps t-last)≤20:=by omega
   have hix:ix (R,e).1 (i:Int)=(t,hourT ps t,max (last-heatT ps t) (heatT ps t-last)):=(ix_nat h).trans e1
   generalize hg:max (last-heatT ps t) (heatT ps t-last)=g at *
   have hcg:0≤b.2.2.2*g∧b.2.2.2*g≤200:=by
    refine ⟨Int.mul_nonneg hc.1 hF.1,?_⟩
    have:=Int.mul_le_mul hc.2 hF.2 hF.1 (by omega)
    omega
   have hv:w (s+w (w (b.2.2.2*g)+hourT ps t))=s+(b.2.2.2*g+hourT ps t):=by
    rw [w_id (n:=b.2.2.2*g) (by omega),w_id (n:=b.2.2.2*g+_) (by omega),w_id (by omega)]
   have e4:=x28_l4_eq (b:=b) (ps:=ps) (q1:=(R,e)) (s6:=s) hix ar al hv hD (k:=fun z3 =>
      x28_l3 b ps (R,e) k m (w (s+(w ((w (b.2.2.2*(ix (R,e).1 (i:Int)).2.2))+(ix (R,e).1 (i:Int)).2.1)))) (w ((i:Int)+(1:Int))) z3) FU 0 0 rfl (Nat.zero_le _) (FU_lt (by omega))
   rw [List.take_zero] at e4
   rw [x28_l3]
   show (if (decide ((i:Int)<(R.length:Int)))=true then gd (0≤(i:Int)∧(i:Int)<(R.length:Int)) (x28_l4 b ps (R,e) s (i:Int) _ FU 0 D) else _)=_
   rw [iflt h,gdi h]
   refine e4.trans ?_
   rw [hix]
   show x28_l3 b ps (R,e) k m (w (s+(w ((w (b.2.2.2*g))+hourT ps t)))) _ _=_
   rw [hv,w_succ i (by omega),doneF,hg]
   exact x28_l3_eq hp hc hl ts m (i+1) _ _ _ _ rfl e2 (by omega) (List.forall_mem_cons.1 h0).2 (List.forall_mem_cons.1 hrn).2 (List.forall_mem_cons.1 hlt).2 hh (by omega) (by omega) (by rw [setAll_len];exact hD)
/-- What Done answers. -/
def zeros (n:Nat):List Int:=List.replicate n 0
theorem x28_eq {b:Bed} (hb:bErr b=0) (hl:b.2.1.length≤20) {ps:List (Int×Int)} (hp:PsOk ps) {ts:List (List Int)} (hO:TOk (wn b) ps [] ts):x28 b ps ts=some (doneF ps b.2.2.2 0 b.2.2.1 ts (zeros ps.length),0):=by
 have hB:=bedOk hb
 have hpl:=hp.len
 have hT:=(tErr_iff _ [] nil_nodup).2 hO
 have hcn:=hO.cnt
 have e:=x28_l3_eq (R:=tRows ps b.2.2.1 ts) (e:=0) hp hB.c0 (by rw [tRows_len];omega) (k:=fun z4=>gd ((ps.length:Int).toNat=z4.length) <| some (z4,(0:Int))) ts FU 0 0 0 b.2.2.1 (zeros ps.length) rfl rfl (FU_lt (by rw [tRows_len];omega)) hO.ne hO.rng (fun t ht=>by have:=hO.one t ht;omega) hB.h0 (by omega) (Nat.zero_le _) (by simp [zeros])
 rw [x28,x65_eq hb hl hp (by omega) (fun t ht=>by have:=hO.one t ht;omega),Option.bind_some,if_pos hT]
 show (if (decide ((0:Int)≠0))=true then _ else gd (0≤(ps.length:Int)∧(ps.length:Int)≤(ps.length:Int)∧(ps.length:Int).toNat*8≤140737488355328) (x28_l3 b ps (tRows ps b.2.2.1 ts,0) _ FU 0 0 (List.replicate (ps.length:Int).toNat 0)))=_
 rw [if_neg (by decide),gd_pos ⟨by omega,by omega,by omega⟩]
 refine e.trans ?_
 rw [gd_pos (by rw [doneF_len];simp [zeros])]
theorem x29_l2_eq {b:Bed} {ps:List (Int×Int)} {turns:List (List Int)} {s1 r2 r3:Int} {j:Nat} (hj:j<turns.length) {t:List Int} (ht:ix turns (j:Int)=t) {v:Int} (hrn:∀ x∈t,0≤x∧x<(ps.length:Int)) (hl:t.length≤1000) (hv:w (s1+w (w (b.2.2.2*r2)+r3))=v) {D:List Int} (hD:D.length=ps.length) {k:List Int→Option (List Int×Int)}:∀ (m i:Nat) (z:Int),z=i→i≤t.length→t.length-i<m→x29_l2 b ps turns s1 (j:Int) r2 r3 k m z (setAll D (t.take i) v)=k (setAll D t v)
 | 0,i,_,_,_,h=>absurd h (by omega)
 | m+1,i,_,rfl,hi,hm=>by
   rw [x29_l2,gdi hj,ht]
   by_cases h:i<t.length
   ·have h1:=hrn _ (List.getElem_mem h)
    have ih:=x29_l2_eq (b:=b) (D:=D) (k:=k) hj ht hrn hl hv hD m (i+1) _ rfl (by omega) (by omega)
    rw [take_snoc h,setAll_snoc] at ih
    rw [iflt h,gdi hj,gdi h,ix_nat h,gd_pos ⟨h1.1,by omega,by rw [setAll_len];omega⟩,w_succ i (by omega),hv]
    exact ih
   ·obtain rfl:i=t.length:=by omega
    rw [ifge h,List.take_length]
theorem x29_l1_eq {b:Bed} {ps:List (Int×Int)} (hp:PsOk ps) (hc:0≤b.2.2.2∧b.2.2.2≤10) {turns:List (List Int)} (hts:turns.length≤1000) (h0:∀ t∈turns,0<t.length) (hrn:∀ t∈turns,∀ x∈t,0≤x∧x<(ps.length:Int)) (hlt:∀ t∈turns,t.length≤1000) {k:List Int→Option (List Int×Int)}:∀ (m i:Nat) (z s last:Int) (D:List Int),z=i→i≤turns.length→turns.length-i<m→0≤last∧last≤20→0≤s∧s≤1000*i→D.length=ps.length→x29_l1 b ps turns k m s last z D=k (doneF ps b.2.2.2 s last (turns.drop i) D)
 | 0,i,_,_,_,_,_,_,h,_,_,_=>absurd h (by omega)
 | m+1,i,_,s,last,D,rfl,hi,hm,hla,hs,hD=>by
   rw [x29_l1]
   by_cases h:i<turns.length
   ·have hmem:=List.getElem_mem h
    have a0:=h0 _ hmem
    have ar:=hrn _ hmem
    have al:=hlt _ hmem
    have ht:ix turns (i:Int)=turns[i]:=ix_nat h
    rw [List.drop_eq_getElem_cons h,doneF,iflt h,gdi h,ht]
    generalize turns[i]=t at a0 ar al ht
    have hh:=heatT_in hp a0 ar
    have hu:=hourT_in hp.hrs ar
    have hf:=farD_eq (a:=last) (b:=heatT ps t) (by omega) (by omega)
    have e52:x52 last (ix ps (ix t 0)).1=some (max (last-heatT ps t) (heatT ps t-last)):=by rw [←hf];rfl
    have hF:0≤max (last-heatT ps t) (heatT ps t-last)∧max (last-heatT ps t) (heatT ps t-last)≤20:=by omega
    rw [gd_pos ⟨by omega,by omega⟩,gd_pos (ar _ (ix0_mem a0)),e52,Option.bind_some,gdi h,x68_eq ar al,Option.bind_some]
    generalize max (last-heatT ps t) (heatT ps t-last)=g at *
    have hcg:0≤b.2.2.2*g∧b.2.2.2*g≤200:=by
     refine ⟨Int.mul_nonneg hc.1 hF.1,?_⟩
     have:=Int.mul_le_mul hc.2 hF.2 hF.1 (by omega)
     omega
    have hv:w (s+w (w (b.2.2.2*g)+hourT ps t))=s+(b.2.2.2*g+hourT ps t):=by
     rw [w_id (n:=b.2.2.2*g) (by omega),w_id (n:=b.2.2.2*g+_) (by omega),w_id (by omega)]
    have e4:=fun k=>x29_l2_eq (b:=b) (s1:=s) (k:=k) h ht ar al hv hD FU 0 0 rfl (Nat.zero_le _) (FU_lt (by omega))
    refine (e4 _).trans ?_
    rw [hv,w_succ i (by omega)]
    exact x29_l1_eq hp hc hts h0 hrn hlt m (i+1) _ _ (heatT ps t) _ rfl (by omega) (by omega) hh (by omega) (by rw [setAll_len];exact hD)
   ·obtain rfl:i=turns.length:=by omega
    rw [ifge h,List.drop_length];rfl
theorem x29_eq {b:Bed} (hb:bErr b=0) (hl:b.2.1.length≤20) {ps:List (Int×Int)} (hp:PsOk ps) {ts:List (List Int)} (hO:TOk (wn b) ps [] ts):x29 b ps ts=some (doneF ps b.2.2.2 0 b.2.2.1 ts (zeros ps.length),0):=by
 have hB:=bedOk hb
 have hpl:=hp.len
 have hcn:=hO.cnt
 have e:=x29_l1_eq hp hB.c0 (turns:=ts) (by omega) hO.ne hO.rng (fun t ht=>by have:=hO.one t ht;omega) (k:=fun z2=>gd ((ps.length:Int).toNat=z2.length) <| some (z2,(0:Int))) FU 0 0 0 b.2.2.1 (zeros ps.length) rfl (Nat.zero_le _) (FU_lt (by omega)) hB.h0 (by omega) (by simp [zeros])
 rw [List.drop_zero] at e
 rw [x29,x27_eq hl (by omega) (fun t ht=>by have:=hO.one t ht;omega),Option.bind_some,tAns_ok hb hp hO]
 show (if (decide ((0:Int)≠0))=true then _ else gd (0≤(ps.length:Int)∧(ps.length:Int)≤(ps.length:Int)∧(ps.length:Int).toNat*8≤140737488355328) (x29_l1 b ps ts _ FU 0 b.2.2.1 0 (List.replicate (ps.length:Int).toNat 0)))=_
 rw [if_neg (by decide),gd_pos ⟨by omega,by omega,by omega⟩]
 refine e.trans ?_
 rw [gd_pos (by rw [doneF_len];simp [zeros])]
end Go.Proofs.YtbnbjjgagikobaaGreat.Ab

/-
  Lie; PressTurns.
-/
namespace Go.Proofs.YtbnbjjgagikobaaGreat.Ab
open Go
set_option maxRecDepth 20000
set_option maxHeartbeats 4000000
def lieT (D t wl:List Int):Nat→List Int
 | 0=>D
 | i+1=>(lieT D t wl i).set (ix t (i:Int)).toNat (ix wl (i:Int))
theorem lieT_len (D t wl:List Int):∀ i,(lieT D t wl i).length=D.length
 | 0=>rfl
 | i+1=>by rw [lieT,List.length_set,lieT_len D t wl i]
/-- In which opening panels lie. -/
def lieF (wl:List Int):List (List Int)→List Int→List Int
 | [],D=>D
 | t::r,D=>lieF wl r (lieT D t wl t.length)
theorem lieF_len (wl:List Int):∀ (ts:List (List Int)) (D:List Int),(lieF wl ts D).length=D.length
 | [],_=>rfl
 | t::r,D=>by rw [lieF,lieF_len wl r,lieT_len]
theorem x30_l4_eq {ps:List (Int×Int)} {p1:Bench} {q1:List (List Int×Int×Int)×Int} {s2:Int} {t:List Int} {y:Int×Int} (ht:ix q1.1 s2=(t,y)) (hrn:∀ x∈t,0≤x∧x<(ps.length:Int)) (hl:t.length≤1000) (hw:t.length≤p1.2.2.1.length) {D:List Int} (hD:D.length=ps.length) {k:List Int→Option (List Int×Int)}:∀ (m i:Nat) (z:Int),z=i→i≤t.length→t.length-i<m→x30_l4 ps p1 q1 s2 k m z (lieT D t p1.2.2.1 i)=k (lieT D t p1.2.2.1 t.length)
 | 0,i,_,_,_,h=>absurd h (by omega)
 | m+1,i,_,rfl,hi,hm=>by
   rw [x30_l4,ht]
   by_cases h:i<t.length
   ·have h1:=hrn _ (List.getElem_mem h)
    have ih:=x30_l4_eq (D:=D) (k:=k) ht hrn hl hw hD m (i+1) _ rfl (by omega) (by omega)
    rw [lieT,ix_nat h] at ih
    rw [iflt h,gdi h,gdi (show i<p1.2.2.1.length by omega),ix_nat h,gd_pos ⟨h1.1,by omega,by rw [lieT_len];omega⟩,w_succ i (by omega)]
    exact ih
   ·obtain rfl:i=t.length:=by omega
    rw [ifge h]
theorem x30_l3_eq {ps:List (Int×Int)} {p1:Bench} {R:List (List Int×Int×Int)} {e:Int} (hl:R.length≤1000) {k:List Int→Option (List Int×Int)}:∀ (ts:List (List Int)) (m i:Nat) (z last:Int) (D:List Int),z=i→R.drop i=tRows ps last ts→R.length-i<m→(∀ t∈ts,∀ x∈t,0≤x∧x<(ps.length:Int))→(∀ t∈ts,t.length≤1000)→(∀ t∈ts,t.length≤p1.2.2.1.length)→i≤R.length→D.length=ps.length→x30_l3 ps p1 (R,e) k m z D=k (lieF p1.2.2.1 ts D)
 | _,0,_,_,_,_,_,_,h,_,_,_,_,_=>absurd h (by omega)
 | [],m+1,i,_,last,D,rfl,hR,hm,_,_,_,hi,_=>by
   have h:¬ i<R.length:=fun h=>by rw [List.drop_eq_getElem_cons h,tRows] at hR;cases hR
   rw [x30_l3]
   show (if (decide ((i:Int)<(R.length:Int)))=true then _ else _)=_
   rw [ifge h];rfl
 | t::ts,m+1,i,_,last,D,rfl,hR,hm,hrn,hlt,hw,hi,hD=>by
   have h:i<R.length:=by
    rcases Nat.lt_or_ge i R.length with h | h
    ·exact h
    ·rw [List.drop_eq_nil_of_le h,tRows] at hR;cases hR
   rw [List.drop_eq_getElem_cons h,tRows] at hR
   obtain ⟨e1,e2⟩:=List.cons.inj hR
   have hix:ix (R,e).1 (i:Int)=(t,hourT ps t,farD last (heatT ps t)):=(ix_nat h).trans e1
   have e4:=fun k=>x30_l4_eq (q1:=(R,e)) (p1:=p1) (k:=k) hix (List.forall_mem_cons.1 hrn).1 (List.forall_mem_cons.1 hlt).1 (List.forall_mem_cons.1 hw).1 hD FU 0 0 rfl (Nat.zero_le _) (FU_lt (by have:=(List.forall_mem_cons.1 hlt).1;omega))
   rw [x30_l3]
   show (if (decide ((i:Int)<(R.length:Int)))=true then gd (0≤(i:Int)∧(i:Int)<(R.length:Int)) (x30_l4 ps p1 (R,e) (i:Int) _ FU 0 D) else _)=_
   rw [iflt h,gdi h]
   refine (e4 _).trans ?_
   rw [w_succ i (by omega),lieF]
   exact x30_l3_eq hl ts m (i+1) _ _ _ rfl e2 (by omega) (List.forall_mem_cons.1 hrn).2 (List.forall_mem_cons.1 hlt).2 (List.forall_mem_cons.1 hw).2 (by omega) (by rw [lieT_len];exact hD)
theorem x30_eq {b:Bed} (hb:bErr b=0) (hl:b.2.1.length≤20) {ps:List (Int×Int)} (hp:PsOk ps) {ts:List (List Int)} (hO:TOk (wn b) ps [] ts):x30 b ps ts=some (lieF (wholeL b.1.toNat b.2.1) ts (zeros ps.length),0):=by
 have hpl:=hp.len
 have hT:=(tErr_iff _ [] nil_nodup).2 hO
 have hcn:=hO.cnt
 have e:=x30_l3_eq (R:=tRows ps b.2.2.1 ts) (e:=0) (p1:=(b,ps,wholeL b.1.toNat b.2.1,wantL ps)) (by rw [tRows_len];omega) (k:=fun z4=>gd ((ps.length:Int).toNat=z4.length) <| some (z4,(0:Int))) ts FU 0 0 b.2.2.1 (zeros ps.length) rfl rfl (FU_lt (by rw [tRows_len];omega)) hO.rng (fun t ht=>by have:=hO.one t ht;omega) hO.len (Nat.zero_le _) (by simp [zeros])
 rw [x30,x65_eq hb hl hp (by omega) (fun t ht=>by have:=hO.one t ht;omega),Option.bind_some,if_pos hT]
 show (if (decide ((0:Int)≠0))=true then _ else gd (0≤(ps.length:Int)∧(ps.length:Int)≤(ps.length:Int)∧(ps.length:Int).toNat*8≤140737488355328) (x30_l3 ps (b,ps,wholeL b.1.toNat b.2.1,wantL ps) (tRows ps b.2.2.1 ts,0) _ FU 0 (List.replicate (ps.length:Int).toNat 0)))=_
 rw [if_neg (by decide),gd_pos ⟨by omega,by omega,by omega⟩]
 refine e.trans ?_
 rw [gd_pos (by rw [lieF_len];simp [zeros])]
theorem x31_l2_eq {ps:List (Int×Int)} {turns:List (List Int)} {wl:List Int} {j:Nat} (hj:j<turns.length) {t:List Int} (ht:ix turns (j:Int)=t) (hrn:∀ x∈t,0≤x∧x<(ps.length:Int)) (hl:t.length≤1000) (hw:t.length≤wl.length) {D:List Int} (hD:D.length=ps.length) {k:List Int→Option (List Int×Int)}:∀ (m i:Nat) (z:Int),z=i→i≤t.length→t.length-i<m→x31_l2 ps turns wl (j:Int) k m z (lieT D t wl i)=k (lieT D t wl t.length)
 | 0,i,_,_,_,h=>absurd h (by omega)
 | m+1,i,_,rfl,hi,hm=>by
   rw [x31_l2,gdi hj,ht]
   by_cases h:i<t.length
   ·have h1:=hrn _ (List.getElem_mem h)
    have ih:=x31_l2_eq (D:=D) (k:=k) hj ht hrn hl hw hD m (i+1) _ rfl (by omega) (by omega)
    rw [lieT,ix_nat h] at ih
    rw [iflt h,gdi hj,gdi h,gdi (show i<wl.length by omega),ix_nat h,gd_pos ⟨h1.1,by omega,by rw [lieT_len];omega⟩,w_succ i (by omega)]
    exact ih
   ·obtain rfl:i=t.length:=by omega
    rw [ifge h]
theorem x31_l1_eq {ps:List (Int×Int)} {turns:List (List Int)} {wl:List Int} (hts:turns.length≤1000) (hrn:∀ t∈turns,∀ x∈t,0≤x∧x<(ps.length:Int)) (hlt:∀ t∈turns,t.length≤1000) (hw:∀ t∈turns,t.length≤wl.length) {k:List Int→Option (List Int×Int)}:∀ (m i:Nat) (z:Int) (D:List Int),z=i→i≤turns.length→turns.length-i<m→D.length=ps.length→x31_l1 ps turns wl k m z D=k (lieF wl (turns.drop i) D)
 | 0,i,_,_,_,_,h,_=>absurd h (by omega)
 | m+1,i,_,D,rfl,hi,hm,hD=>by
   rw [x31_l1]
   by_cases h:i<turns.length
   ·have hmem:=List.getElem_mem h
    have e4:=fun k=>x31_l2_eq (k:=k) h (ix_nat h) (hrn _ hmem) (hlt _ hmem) (hw _ hmem) hD FU 0 0 rfl (Nat.zero_le _) (FU_lt (by have:=hlt _ hmem;omega))
    rw [List.drop_eq_getElem_cons h,lieF,iflt h]
    refine (e4 _).trans ?_
    rw [w_succ i (by omega)]
    exact x31_l1_eq hts hrn hlt hw m (i+1) _ _ rfl (by omega) (by omega) (by rw [lieT_len];exact hD)
   ·obtain rfl:i=turns.length:=by omega
    rw [ifge h,List.drop_length];rfl
theorem x31_eq {b:Bed} (hb:bErr b=0) (hl:b.2.1.length≤20) {ps:List (Int×Int)} (hp:PsOk ps) {ts:List (List Int)} (hO:TOk (wn b) ps [] ts):x31 b ps ts=some (lieF (wholeL b.1.toNat b.2.1) ts (zeros ps.length),0):=by
 have hB:=bedOk hb
 have h1:=hB.o1;have h10:=hB.o10
 have hpl:=hp.len
 have hcn:=hO.cnt
 have e:=x31_l1_eq (ps:=ps) (turns:=ts) (wl:=wholeL b.1.toNat b.2.1) (by omega) hO.rng (fun t ht=>by have:=hO.one t ht;omega) hO.len (k:=fun z2=>gd ((ps.length:Int).toNat=z2.length) <| some (z2,(0:Int))) FU 0 0 (zeros ps.length) rfl (Nat.zero_le _) (FU_lt (by omega)) (by simp [zeros])
 rw [List.drop_zero] at e
 rw [x31,x27_eq hl (by omega) (fun t ht=>by have:=hO.one t ht;omega),Option.bind_some,tAns_ok hb hp hO]
 show (if (decide ((0:Int)≠0))=true then _ else gd (0≤(ps.length:Int)∧(ps.length:Int)≤(ps.length:Int)∧(ps.length:Int).toNat*8≤140737488355328) ((x51 b).bind fun r2=>x31_l1 ps ts r2 _ FU 0 (List.replicate (ps.length:Int).toNat 0)))=_
 rw [if_neg (by decide),gd_pos ⟨by omega,by omega,by omega⟩,x51_eq b (by omega) (by omega),Option.bind_some]
 refine e.trans ?_
 rw [gd_pos (by rw [lieF_len];simp [zeros])]
/-! ### Errors -/
theorem x65_bad {b:Bed} (hl:b.2.1.length≤20) {ps:List (Int×Int)} {ts:List (List Int)} (hts:ts.length≤1000) (ht:∀ t∈ts,t.length≤9223372036854775807) (he:(tAns b ps ts).2.2≠0):x65 b ps ts=some (none,[],(tAns b ps ts).2.2):=by
 unfold tAns at he ⊢
 by_cases h:eB b ps=0
 ·obtain ⟨hb,hp⟩:=eB_ok h
  rw [if_pos h] at he ⊢
  by_cases h2:tErr (wn b) ps [] ts=0
  ·rw [if_pos h2] at he;exact absurd rfl he
  ·rw [if_neg h2,x65_eq hb hl hp hts ht,if_neg h2]
 ·rw [if_neg h];exact x65_err (by omega) h ts
theorem x28_bad {b:Bed} (hl:b.2.1.length≤20) {ps:List (Int×Int)} {ts:List (List Int)} (hts:ts.length≤1000) (ht:∀ t∈ts,t.length≤9223372036854775807) (he:(tAns b ps ts).2.2≠0):x28 b ps ts=some ([],(tAns b ps ts).2.2):=by
 rw [x28,x65_bad hl hts ht he,Option.bind_some]
 exact if_pos (decide_eq_true he)
theorem x30_bad {b:Bed} (hl:b.2.1.length≤20) {ps:List (Int×Int)} {ts:List (List Int)} (hts:ts.length≤1000) (ht:∀ t∈ts,t.length≤9223372036854775807) (he:(tAns b ps ts).2.2≠0):x30 b ps ts=some ([],(tAns b ps ts).2.2):=by
 rw [x30,x65_bad hl hts ht he,Option.bind_some]
 exact if_pos (decide_eq_true he)
theorem x29_bad {b:Bed} (hl:b.2.1.length≤20) {ps:List (Int×Int)} {ts:List (List Int)} (hts:ts.length≤1000) (ht:∀ t∈ts,t.length≤9223372036854775807) (he:(tAns b ps ts).2.2≠0):x29 b ps ts=some ([],(tAns b ps ts).2.2):=by
 rw [x29,x27_eq hl hts ht,Option.bind_some]
 exact if_pos (decide_eq_true he)
theorem x31_bad {b:Bed} (hl:b.2.1.length≤20) {ps:List (Int×Int)} {ts:List (List Int)} (hts:ts.length≤1000) (ht:∀ t∈ts,t.length≤9223372036854775807) (he:(tAns b ps ts).2.2≠0):x31 b ps ts=some ([],(tAns b ps ts).2.2):=by
 rw [x31,x27_eq hl hts ht,Option.bind_some]
 exact if_pos (decide_eq_true he)
theorem tAns_TOk {b:Bed} {ps:List (Int×Int)} {ts:List (List Int)} (h:(tAns b ps ts).2.2=0):bErr b=0∧PsOk ps∧TOk (wn b) ps [] ts:=by
 unfold tAns at h
 by_cases h1:eB b ps=0
 ·obtain ⟨hb,hp⟩:=eB_ok h1
  rw [if_pos h1] at h
  by_cases h2:tErr (wn b) ps [] ts=0
  ·exact ⟨hb,hp,(tErr_iff _ [] nil_nodup).1 h2⟩
  ·rw [if_neg h2] at h;exact absurd h h2
 ·rw [if_neg h1] at h;exact absurd h h1
/-! ### PressTurns -/
theorem x25_l1_any {l:List (List Int)} (hl:l.length≤1000) {k:Int→Option Bool}:∀ (m i:Nat) (z s:Int),z=i→i≤l.length→l.length-i<m→∃ q,x25_l1 l k m s z=k q
 | 0,i,_,_,_,_,h=>absurd h (by omega)
 | m+1,i,_,s,rfl,hi,hm=>by
   rw [x25_l1]
   by_cases h:i<l.length
   ·rw [iflt h,gdi h,w_succ i (by omega)]
    exact x25_l1_any hl m (i+1) _ _ rfl (by omega) (by omega)
   ·rw [ifge h];exact ⟨s,rfl⟩
theorem x25_any (l:List (List Int)):∃ r,x25 l=some r∧(r=false→l.length≤20):=by
 rw [x25]
 by_cases h:20<l.length
 ·rw [if_pos (decide_eq_true (by omega))];exact ⟨true,rfl,fun h=>by cases h⟩
 ·rw [if_neg (by rw [decide_eq_true_eq];omega)]
  obtain ⟨q,e⟩:=x25_l1_any (l:=l) (by omega) (k:=fun z1=>some (decide ((40:Int)<z1))) FU 0 0 0 rfl (Nat.zero_le _) (FU_lt (by omega))
  exact ⟨_,e,fun _=>by omega⟩
theorem x32_l1_eq {a:List Int} (ha:a.length≤1000) {k:Unit→Option Bool}:∀ (m i:Nat) (z:Int),z=i→i≤a.length→a.length-i<m→x32_l1 a a k m z=k ()
 | 0,i,_,_,_,h=>absurd h (by omega)
 | m+1,i,_,rfl,hi,hm=>by
   rw [x32_l1]
   by_cases h:i<a.length
   ·rw [iflt h,gdi h,gdi h,if_neg (by simp),w_succ i (by omega)]
    exact x32_l1_eq ha m (i+1) _ rfl (by omega) (by omega)
   ·rw [ifge h]
theorem x32_same {a:List Int} (ha:a.length≤1000):x32 a a=some true:=by
 rw [x32,if_neg (by simp)]
 exact x32_l1_eq ha FU 0 0 rfl (Nat.zero_le _) (FU_lt (by omega))
theorem x4_eq (b:Bed) (ps:List (Int×Int)) {l:List (List Int)} (ht:∀ t∈l,t.length≤9223372036854775807):x4 b ps l=some true:=by
 rw [x4,x16_eq,Option.bind_some]
 by_cases h:20<b.2.1.length∨20<ps.length
 ·rw [if_pos (by simpa using h)];rfl
 ·rw [if_neg (by simpa using h)]
  have hl:b.2.1.length≤20:=by omega
  obtain ⟨r,e,hr⟩:=x25_any l
  rw [e,Option.bind_some]
  cases r with
  | true=>rw [if_pos rfl];rfl
  | false =>
    have hts:=hr rfl
    rw [if_neg (by decide),x26_eq hl (by omega) ht,Option.bind_some,x27_eq hl (by omega) ht,Option.bind_some]
    have key:∃ D L e2,D.length≤1000∧L.length≤1000∧x28 b ps l=some (D,e2)∧x29 b ps l=some (D,e2)∧x30 b ps l=some (L,e2)∧x31 b ps l=some (L,e2):=by
     by_cases he:(tAns b ps l).2.2=0
     ·obtain ⟨hb,hp,hO⟩:=tAns_TOk he
      have hpl:=hp.len
      exact ⟨_,_,_,by rw [doneF_len];simp [zeros];omega,by rw [lieF_len];simp [zeros];omega,x28_eq hb hl hp hO,x29_eq hb hl hp hO,x30_eq hb hl hp hO,x31_eq hb hl hp hO⟩
     ·exact ⟨[],[],_,by simp,by simp,x28_bad hl (by omega) ht he,x29_bad hl (by omega) ht he,x30_bad hl (by omega) ht he,x31_bad hl (by omega) ht he⟩
    obtain ⟨D,L,e2,hD,hL,a1,a2,a3,a4⟩:=key
    rw [a1,Option.bind_some,a2,Option.bind_some,a3,Option.bind_some,a4,Option.bind_some]
    simp only [decide_true,if_true]
    rw [x32_same hD,Option.bind_some,if_pos rfl,x24_eq _ _ (by omega),Option.bind_some]
    simp only [decide_true,if_true]
    rfl
theorem pressTurns_ok (b:Bed) (ps:List (Int×Int)) (l:List (List Int)) {P1 P2:Prop} (_:P1) (_:P2) (h:Fl2 l) :
  PO 4 [.agg [I b.1,L1 b.2.1,I b.2.2.1,I b.2.2.2],PL ps,L2 l] (B true):=x4_ok (x4_eq b ps fun t ht=>(h.v t ht).n)
end Go.Proofs.YtbnbjjgagikobaaGreat.Ab
