
import Derived.Test.YtbnbjjgagikobaaGreatJf4
import Derived.Test.YtbnbjjgagikobaaGreatJf5
import Derived.KernelRfl
set_option linter.unusedSimpArgs false
set_option linter.unusedVariables false
set_option linter.unusedSectionVars false

namespace Go.Proofs.YtbnbjjgagikobaaGreat.Ab
open Go
set_option maxRecDepth 20000
set_option maxHeartbeats 4000000
def E_turn (x:((List Int)×Int×Int)):List AV:=[(.lst (x.1.map I) x.1.length .shared),(I x.2.1),(I x.2.2)]
theorem E_turn_len (x:((List Int)×Int×Int)):(E_turn x).length=3:=rfl
noncomputable def xrc65_1:RC :=
 .cond (.sl 40) (.seq (.reg false [I_ 6 [.cv .nilp] .mv,I_ 7 [.cv (.lst [] 0 .full)] (.nil 3),I_ 8 [.cv (.int .i64 2)] .mv]) .ret) (.seq (.reg true [I_ 52 [.sl 16] (.ld .one),I_ 53 [.tk 52] .lenS,I_ 54 [.sl 9] .mv,I_ 55 [.tv
 54] .nilc,I_ 56 [.tv 55] (.fa 5),I_ 57 [.tv 56] (.ld .one),I_ 58 [.tk 57] .lenS,I_ 59 [.tv 53,.tv 58] (.bin .gtr),I_ 51 [.tk 59] .mv]) (.cond (.sl 51) (.seq (.reg false [I_ 6 [.cv .nilp] .mv,I_ 7 [.cv (.lst [] 0 .full)]
 (.nil 3),I_ 8 [.cv (.int .i64 10)] .mv]) .ret) (.seq (.reg false [I_ 61 [.sl 16] (.ld .one),I_ 62 [.sl 4,.sl 16] (.mkF 89 0 2),I_ 63 [.cv (.func 86 [] []),.sl 61,.sl 62] (.call 6),I_ 60 [.tk 63] .mv]) (.cond (.sl 60)
 (.seq (.reg false [I_ 6 [.cv .nilp] .mv,I_ 7 [.cv (.lst [] 0 .full)] (.nil 3),I_ 8 [.cv (.int .i64 24)] .mv]) .ret) (.seq (.reg false [I_ 65 [.sl 16] (.ld .one),I_ 66 [.sl 11] (.mkF 90 0 1),I_ 67 [.cv (.func 86 [] []),.sl
 65,.sl 66] (.call 6),I_ 64 [.tk 67] .mv]) (.cond (.sl 64) (.seq (.reg false [I_ 6 [.cv .nilp] .mv,I_ 7 [.cv (.lst [] 0 .full)] (.nil 3),I_ 8 [.cv (.int .i64 16)] .mv]) .ret) .skip))))))
noncomputable def xrc65_3:RC :=
 .loop (some [o_,o_,o_,o_,i_,o_,o_,o_,o_,i_,o_,i_,i_,i_,i_,o_,i_,o_,o_,o_,o_,o_,o_,o_,o_,o_,o_,o_,o_,o_,o_,o_,o_,o_,i_,i_,i_,o_,o_,o_,o_,o_,o_,o_,o_,o_,o_,o_,o_,o_,o_,o_,o_,o_,o_,o_,o_,o_,o_,o_,o_,o_,o_,o_,o_,o_,o_,o_,i_,i_,i_,o_,o_,o_,o_,o_,o_,o_,o_,o_,o_,o_,o_,o_,o_,o_,o_,o_,o_,o_,o_,o_,o_,o_,o_,o_,o_,o_,o_,o_,o_,o_,o_,o_,o_,o_,o_,o_,o_,o_,o_,o_,o_,o_,o_,o_]) (.seq (.reg false [I_ 71 [.sl 70,.sl 69] (.bin .lss)]) (.seq (.cond (.sl 71) .skip (.exit 3)) (.seq
 (.block 4 (.seq (.reg false [I_ 72 [.sl 68,.sl 70] (.ia 1),I_ 73 [.tv 72] (.ld .one),I_ 18 [.tk 73] .mv]) (.reg false [I_ 74 [.sl 11] (.ld .one),I_ 75 [.tk 18] .mv,I_ 76 [.sl 74,.sl 75] (.ia 1),I_ 77 [.tv 76] (.ld .one),
 I_ 78 [.tv 77,.cv (.int .i64 1)] (.bin .add),I_ 79 [.tv 74,.tv 75] (.ia 1),⟨none,[.tk 79,.tk 78],none,none,.st 1⟩]))) (.reg false [I_ 80 [.tv 70,.cv (.int .i64 1)] (.bin .add),I_ 70 [.tk 80] .mv]))))
noncomputable def xrc65_4:RC :=
 .seq (.seq (.reg false [I_ 68 [.sl 16] (.ld .one),I_ 69 [.sl 68] .lenS,I_ 70 [.cv (.int .i64 0)] .mv]) (.block 3 xrc65_3)) (.seq (.reg false [I_ 81 [.tk 14] .mv,I_ 82 [.sl 16] (.ld .one),I_ 83 [.tk 82] .lenS,I_ 84 [.tv 81,
 .tv 83] (.bin .add),I_ 14 [.tk 84] .mv]) (.seq (.reg true [I_ 85 [.sl 4] (.ld .one),I_ 86 [.sl 16] (.ld .one),I_ 87 [.tv 86,.cv (.int .i64 0)] (.ia 1),I_ 88 [.tv 87] (.ld .one),I_ 89 [.tv 85,.tv 88] (.ia 2),I_ 90 [.tv
 89] (.fa 0),I_ 91 [.tv 90] (.ld .one),I_ 19 [.tk 91] .mv]) (.seq (.reg true [I_ 92 [.tk 12] .mv,I_ 93 [.sl 16] (.ld .one),I_ 94 [.sl 4] (.ld .one),I_ 95 [.sl 16] (.ld .one),I_ 96 [.sl 9] .mv,I_ 97 [.tv 96] (.mkF 92 1 0),
 I_ 98 [.cv (.func 91 [] []),.sl 95,.sl 97] (.call 3),I_ 99 [.tv 94,.tv 98] (.ia 2),I_ 100 [.tv 99] (.fa 1),I_ 101 [.tv 100] (.ld .one),I_ 102 [.tk 13] .mv,I_ 103 [.sl 19] .mv,I_ 104 [.cv (.func 93 [] []),.sl 102,.sl
 103] (.call 3),I_ 105 [.tv 93,.tv 101,.tv 104] (.build [.lst [] 0 .full,.int .i64 0,.int .i64 0] [(0,1),(1,1),(2,1)]),I_ 106 [.tv 105] (.buildS 1 3 [.lst [] 0 .full,.int .i64 0,.int .i64 0] [0]),I_ 107 [.tk 92,
 .tk 106] (.app 3 40),I_ 12 [.tk 107] .mv]) (.reg false [I_ 108 [.tk 19] .mv,I_ 13 [.tk 108] .mv]))))
noncomputable def xrc65_2:RC :=
 .loop (some [o_,o_,o_,o_,i_,o_,o_,o_,o_,i_,o_,i_,i_,i_,i_,o_,o_,o_,o_,o_,o_,o_,o_,o_,o_,o_,o_,o_,o_,o_,o_,o_,o_,o_,i_,i_,i_,o_,o_,o_,o_,o_,o_,o_,o_,o_,o_,o_,o_,o_,o_,o_,o_,o_,o_,o_,o_,o_,o_,o_,o_,o_,o_,o_,o_,o_,o_,o_,o_,o_,o_,o_,o_,o_,o_,o_,o_,o_,o_,o_,o_,o_,o_,o_,o_,o_,o_,o_,o_,o_,o_,o_,o_,o_,o_,o_,o_,o_,o_,o_,o_,o_,o_,o_,o_,o_,o_,o_,o_,o_,o_,o_,o_,o_,o_,o_]) (.seq (.reg false [I_ 37 [.sl 36,.sl 35] (.bin .lss)]) (.seq (.cond (.sl 37) .skip
 (.exit 0)) (.seq (.block 1 (.seq (.reg false [I_ 38 [.sl 34,.sl 36] (.ia 1),I_ 39 [.tv 38] (.ld .one),I_ 16 [] (.alloc [.lst [] 0 .full]),⟨none,[.sl 16,.tk 39],none,none,.st 1⟩]) (.seq (.block 2 (.seq (.reg false [I_
 41 [.sl 16] (.ld .one),I_ 42 [.tk 41] .lenS,I_ 43 [.tv 42,.cv (.int .i64 0)] (.bin .eql),I_ 44 [.tk 43] .mv,⟨some 45,[.sl 16],some (44,false),none,.ld .one⟩,⟨some 46,[.sl 4],some (44,false),none,.ld .one⟩,⟨some
 47,[.tk 46],some (44,false),none,.lenS⟩,⟨some 48,[.cv (.func 61 [] []),.sl 45,.sl 47],some (44,false),none,.call 3⟩,⟨some 49,[.tv 48],some (44,false),none,.un .not⟩,I_ 50 [.tv 44,.cv (.bool true),.tv 49]
 .pick,I_ 40 [.tk 50] .mv]) xrc65_1)) xrc65_4))) (.reg false [I_ 109 [.tv 36,.cv (.int .i64 1)] (.bin .add),I_ 36 [.tk 109] .mv]))))
noncomputable def xrc65:RC :=
 .seq (.reg false [I_ 3 [.tk 0] .box,I_ 4 [.tk 1] .box,I_ 6 [.cv .nilp] .mv,I_ 7 [.cv (.lst [] 0 .full)] (.nil 3),I_ 8 [.cv (.int .i64 0)] .mv]) (.seq (.reg false [I_ 21 [.sl 3] (.ld (.str 4)),I_ 22 [.sl 4] (.ld .one),I_ 23
 [.cv (.func 69 [] []),.sl 21,.sl 22] (.call 3),I_ 20 [.tk 23] .mv,I_ 24 [.sl 20] (.ext 0),I_ 25 [.tv 20] (.ext 1),I_ 9 [.tk 24] .mv,I_ 10 [.tk 25] .mv]) (.seq (.seq (.reg false [I_ 26 [.sl 10] .mv,I_ 27 [.tv 26,.cv
 (.int .i64 0)] (.bin .neq)]) (.cond (.sl 27) (.seq (.reg false [I_ 28 [.tk 10] .mv,I_ 6 [.cv .nilp] .mv,I_ 7 [.cv (.lst [] 0 .full)] (.nil 3),I_ 8 [.tk 28] .mv]) .ret) .skip)) (.seq (.reg false [I_ 29 [.sl 4] (.ld .one),I_
 30 [.tk 29] .lenS,I_ 31 [.sl 30,.tv 30] (.mkS [.int .i64 0] 1 8),I_ 11 [] (.alloc [.lst [] 0 .full]),⟨none,[.sl 11,.tk 31],none,none,.st 1⟩]) (.seq (.reg false [I_ 12 [.cv (.lst [] 0 .full)] (.nil 3)]) (.seq (.reg
 false [I_ 32 [.tv 3] (.fa 2),I_ 33 [.tv 32] (.ld .one),I_ 13 [.tk 33] .mv,I_ 14 [.cv (.int .i64 0)] .mv]) (.seq (.seq (.reg false [I_ 34 [.tk 2] .mv,I_ 35 [.sl 34] .lenS,I_ 36 [.cv (.int .i64 0)] .mv]) (.block 0 xrc65_2))
 (.seq (.seq (.reg false [I_ 110 [.tk 14] .mv,I_ 111 [.tv 4] (.ld .one),I_ 112 [.tk 111] .lenS,I_ 113 [.tv 110,.tv 112] (.bin .lss)]) (.cond (.sl 113) (.seq (.reg false [I_ 6 [.cv .nilp] .mv,I_ 7 [.cv (.lst [] 0 .full)]
 (.nil 3),I_ 8 [.cv (.int .i64 14)] .mv]) .ret) .skip)) (.seq (.reg false [I_ 114 [.tk 9] .mv,I_ 115 [.tk 12] .mv,I_ 6 [.tk 114] .mv,I_ 7 [.tk 115] .mv,I_ 8 [.cv (.int .i64 0)] .mv]) .ret))))))))
theorem lxx65:linkF Tryz.prog ann65 65=some (xrc65,116,[.tmp 6,.tmp 7,.tmp 8]):=by kernel_rfl
def x65_j2  (j1:Bool):Option ((Option ((Int×(List Int)×Int×Int)×(List (Int×Int))×(List Int)×(List Int)))×(List ((List Int)×Int×Int))×Int) :=
 if j1=true then
  some (none,[],(2:Int))
 else
  none
def x65_l1 (panels:(List (Int×Int))) (turns:(List (List Int))) (kl1_0:Unit→Option ((Option ((Int×(List Int)×Int×Int)×(List (Int×Int))×(List Int)×(List Int)))×(List ((List Int)×Int×Int))×Int)):Nat→Option ((Option ((Int×(List Int)×Int×Int)×(List (Int×Int))×(List Int)×(List Int)))×(List ((List Int)×Int×Int))×Int)
 | 0=>none
 | m+1 =>
   if (decide ((0:Int)<(turns.length:Int)))=true then
    gd (0≤(0:Int)∧(0:Int)<(turns.length:Int)) <|
    if (decide (((ix turns (0:Int)).length:Int)=(0:Int)))=true then
     x65_j2 true
    else
     (x61 (ix turns (0:Int)) (panels.length:Int)).bind fun r2 =>
     x65_j2 (!r2)
   else
    kl1_0 ()
def x65_j4 (panels:(List (Int×Int))) (turns:(List (List Int))) (p1:((Int×(List Int)×Int×Int)×(List (Int×Int))×(List Int)×(List Int))) (s4:Int) (s5:(List Int)) (kj4_0:Unit→Option ((Option ((Int×(List Int)×Int×Int)×(List (Int×Int))×(List Int)×(List Int)))×(List ((List Int)×Int×Int))×Int)) (j2:Bool):Option ((Option ((Int×(List Int)×Int×Int)×(List (Int×Int))×(List Int)×(List Int)))×(List ((List Int)×Int×Int))×Int) :=
 if j2=true then
  some (none,[],(2:Int))
 else
  if (decide ((p1.2.2.1.length:Int)<((ix turns s4).length:Int)))=true then
   some (none,[],(10:Int))
  else
   (x86 (ix turns s4) (fun y0=>x89 y0 panels (ix turns s4))).bind fun r3 =>
   if r3=true then
    some (none,[],(24:Int))
   else
    gd ((panels.length:Int).toNat=s5.length) <|
    (x86 (ix turns s4) (fun y0=>x90 y0 s5)).bind fun r4 =>
    if r4=true then
     some (none,[],(16:Int))
    else
     kj4_0 ()
def x65_l6 (panels:(List (Int×Int))) (turns:(List (List Int))) (s4:Int) (kl6_0:(List Int)→Option ((Option ((Int×(List Int)×Int×Int)×(List (Int×Int))×(List Int)×(List Int)))×(List ((List Int)×Int×Int))×Int)):Nat→Int→(List Int)→Option ((Option ((Int×(List Int)×Int×Int)×(List (Int×Int))×(List Int)×(List Int)))×(List ((List Int)×Int×Int))×Int)
 | 0,_,_=>none
 | m+1,s6,s7 =>
   if (decide (s6<((ix turns s4).length:Int)))=true then
    gd (0≤s6∧s6<((ix turns s4).length:Int)) <|
    gd (0≤(ix (ix turns s4) s6)∧(ix (ix turns s4) s6)<(((panels.length:Int).toNat:Nat):Int)∧(panels.length:Int).toNat=s7.length) <|
    gd (0≤(ix (ix turns s4) s6)∧(ix (ix turns s4) s6)<(((panels.length:Int).toNat:Nat):Int)∧(panels.length:Int).toNat=s7.length) <|
    x65_l6 panels turns s4 kl6_0 m (w (s6+(1:Int))) (s7.set (ix (ix turns s4) s6).toNat (w ((ix s7 (ix (ix turns s4) s6))+(1:Int))))
   else
    kl6_0 s7
def x65_j5 (panels:(List (Int×Int))) (turns:(List (List Int))) (p1:((Int×(List Int)×Int×Int)×(List (Int×Int))×(List Int)×(List Int))) (s1:(List ((List Int)×Int×Int))) (s2:Int) (s4:Int) (s5:(List Int)) (kj5_0:(List ((List Int)×Int×Int))→(List Int)→Option ((Option ((Int×(List Int)×Int×Int)×(List (Int×Int))×(List Int)×(List Int)))×(List ((List Int)×Int×Int))×Int))  : Option ((Option ((Int×(List Int)×Int×Int)×(List (Int×Int))×(List Int)×(List Int)))×(List ((List Int)×Int×Int))×Int) :=
 x65_l6 panels turns s4 (fun z1 =>
   gd (0≤(0:Int)∧(0:Int)<((ix turns s4).length:Int)) <|
   gd (0≤(ix (ix turns s4) (0:Int))∧(ix (ix turns s4) (0:Int))<(panels.length:Int)) <|
   (x91 (ix turns s4) (fun y0 y1=>x92 p1 y0 y1)).bind fun r5 =>
   gd (0≤r5∧r5<(panels.length:Int)) <|
   (x93 s2 ((ix panels (ix (ix turns s4) (0:Int))).1)).bind fun r6 =>
   gd ((s1.length+1)*40≤140737488355328) <|
   kj5_0 (s1++[((ix turns s4),(ix panels r5).2,r6)]) z1) FU (0:Int) s5
def x65_l3 (panels:(List (Int×Int))) (turns:(List (List Int))) (p1:((Int×(List Int)×Int×Int)×(List (Int×Int))×(List Int)×(List Int))) (kl3_0:(List ((List Int)×Int×Int))→Int→Option ((Option ((Int×(List Int)×Int×Int)×(List (Int×Int))×(List Int)×(List Int)))×(List ((List Int)×Int×Int))×Int)):Nat→(List ((List Int)×Int×Int))→Int→Int→Int→(List Int)→Option ((Option ((Int×(List Int)×Int×Int)×(List (Int×Int))×(List Int)×(List Int)))×(List ((List Int)×Int×Int))×Int)
 | 0,_,_,_,_,_=>none
 | m+1,s1,s2,s3,s4,s5 =>
   if (decide (s4<(turns.length:Int)))=true then
    gd (0≤s4∧s4<(turns.length:Int)) <|
    if (decide (((ix turns s4).length:Int)=(0:Int)))=true then
     x65_j4 panels turns p1 s4 s5 (fun _ =>
       x65_j5 panels turns p1 s1 s2 s4 s5 (fun z2 z3 =>
         x65_l3 panels turns p1 kl3_0 m z2 ((ix panels (ix (ix turns s4) (0:Int))).1) (w (s3+((ix turns s4).length:Int))) (w (s4+(1:Int))) z3)) true
    else
     (x61 (ix turns s4) (panels.length:Int)).bind fun r7 =>
     x65_j4 panels turns p1 s4 s5 (fun _ =>
       x65_j5 panels turns p1 s1 s2 s4 s5 (fun z2 z3 =>
         x65_l3 panels turns p1 kl3_0 m z2 ((ix panels (ix (ix turns s4) (0:Int))).1) (w (s3+((ix turns s4).length:Int))) (w (s4+(1:Int))) z3)) (!r7)
   else
    kl3_0 s1 s3
def x65 (b:(Int×(List Int)×Int×Int)) (panels:(List (Int×Int))) (turns:(List (List Int))):Option ((Option ((Int×(List Int)×Int×Int)×(List (Int×Int))×(List Int)×(List Int)))×(List ((List Int)×Int×Int))×Int) :=
 (x69 b panels).bind fun r1 =>
 match r1 with
 | (none,q1) =>
   if (decide (q1≠(0:Int)))=true then
    some (none,[],q1)
   else
    gd (0≤(panels.length:Int)∧(panels.length:Int)≤(panels.length:Int)∧(panels.length:Int).toNat*8≤140737488355328) <|
    x65_l1 panels turns (fun _ =>
      if (decide ((0:Int)<(panels.length:Int)))=true then
       some (none,[],(14:Int))
      else
       some (none,[],(0:Int))) FU
 | (some p1,q1) =>
   if (decide (q1≠(0:Int)))=true then
    some (none,[],q1)
   else
    gd (0≤(panels.length:Int)∧(panels.length:Int)≤(panels.length:Int)∧(panels.length:Int).toNat*8≤140737488355328) <|
    x65_l3 panels turns p1 (fun z4 z5 =>
      if (decide (z5<(panels.length:Int)))=true then
       some (none,[],(14:Int))
      else
       some ((some p1),z4,(0:Int))) FU ([]:List ((List Int)×Int×Int)) b.2.2.1 (0:Int) (0:Int) (List.replicate (panels.length:Int).toNat (0:Int))
theorem x65_j2_ok {j1:Bool} {b:(Int×(List Int)×Int×Int)} {panels:(List (Int×Int))} {turns:(List (List Int))} {v:((Option ((Int×(List Int)×Int×Int)×(List (Int×Int))×(List Int)×(List Int)))×(List ((List Int)×Int×Int))×Int)} {Q:Ex→List AV→List AObj→Prop} {u0:AV} {u1:AV} {u2:AV} {u3:AV} {u6:AV} {u7:AV} {u8:AV} {u10:AV} {u17:AV} {u18:AV} {u19:AV} {u20:AV} {u21:AV} {u22:AV} {u23:AV} {u24:AV} {u25:AV} {u26:AV} {u27:AV} {u28:AV} {u29:AV} {u30:AV} {u31:AV} {u32:AV} {u33:AV} {u37:AV} {u38:AV} {u39:AV} {u41:AV} {u42:AV} {u43:AV} {u44:AV} {u45:AV} {u46:AV} {u47:AV} {u48:AV} {u49:AV} {u50:AV} {u51:AV} {u52:AV} {u53:AV} {u54:AV} {u55:AV} {u56:AV} {u57:AV} {u58:AV} {u59:AV} {u60:AV} {u61:AV} {u62:AV} {u63:AV} {u64:AV} {u65:AV} {u66:AV} {u67:AV} {u68:AV} {u69:AV} {u70:AV} {u71:AV} {u72:AV} {u73:AV} {u74:AV} {u75:AV} {u76:AV} {u77:AV} {u78:AV} {u79:AV} {u80:AV} {u81:AV} {u82:AV} {u83:AV} {u84:AV} {u85:AV} {u86:AV} {u87:AV} {u88:AV} {u89:AV} {u90:AV} {u91:AV} {u92:AV} {u93:AV} {u94:AV} {u95:AV} {u96:AV} {u97:AV} {u98:AV} {u99:AV} {u100:AV} {u101:AV} {u102:AV} {u103:AV} {u104:AV} {u105:AV} {u106:AV} {u107:AV} {u108:AV} {u109:AV} {u110:AV} {u111:AV} {u112:AV} {u113:AV} {u114:AV} {u115:AV} {o1:AObj}  (hR:∀ T H,RetW [.tmp 6,.tmp 7,.tmp 8] (.tuple [(optP E_bench v.1),(.lst (v.2.1.flatMap E_turn) v.2.1.length .shared),(I v.2.2)]) .ret T H→Q .ret T H) (h:x65_j2  j1=some v) :
  wpR Tryz.prog ann65 65 0 none xrc65_1 [u0,u1,u2,u3,(.ptr 1 0),J,u6,u7,u8,.nilp,u10,(.ptr 3 0),(.lst [] 0 (.uniq 3)),(I b.2.2.1),(I (0:Int)),J,(.ptr 4 0),u17,u18,u19,u20,u21,u22,u23,u24,u25,u26,u27,u28,u29,u30,u31,u32,u33,(.lst (turns.map L1) turns.length .shared),(I (turns.length:Int)),(I (0:Int)),u37,u38,u39,(B j1),u41,u42,u43,u44,u45,u46,u47,u48,u49,u50,u51,u52,u53,u54,u55,u56,u57,u58,u59,u60,u61,u62,u63,u64,u65,u66,u67,u68,u69,u70,u71,u72,u73,u74,u75,u76,u77,u78,u79,u80,u81,u82,u83,u84,u85,u86,u87,u88,u89,u90,u91,u92,u93,u94,u95,u96,u97,u98,u99,u100,u101,u102,u103,u104,u105,u106,u107,u108,u109,u110,u111,u112,u113,u114,u115] [o1,AObj.cells [(.lst (panels.flatMap pr) panels.length .shared)],AObj.cells ((List.replicate (panels.length:Int).toNat (0:Int)).map I),AObj.cells [(.ref 2 0 (panels.length:Int).toNat (some (panels.length:Int).toNat) 1)],AObj.cells [(.lst ((ix turns (0:Int)).map I) (ix turns (0:Int)).length .shared)]] Q:=by
 unfold x65_j2 at h
 unfold xrc65_1
 skip
 conv=>whnf
 cases j1
 ·conv=>whnf
  replace h:=it_f rfl h
  exact none_ne h
 ·conv=>whnf
  replace h:=it_t rfl h
  obtain rfl:=Option.some.inj h
  exact hR _ _ ⟨.inr rfl,_,rfl,_,frz_pure (pu_tup (allc rfl (allc rfl (allc rfl rfl)))),rfl⟩
theorem x65_l1_ok {panels:(List (Int×Int))} {turns:(List (List Int))} {kl1_0:Unit→Option ((Option ((Int×(List Int)×Int×Int)×(List (Int×Int))×(List Int)×(List Int)))×(List ((List Int)×Int×Int))×Int)} {b:(Int×(List Int)×Int×Int)} {v:((Option ((Int×(List Int)×Int×Int)×(List (Int×Int))×(List Int)×(List Int)))×(List ((List Int)×Int×Int))×Int)} {Q:Ex→List AV→List AObj→Prop} {o1:AObj}  (hR:∀ T H,RetW [.tmp 6,.tmp 7,.tmp 8] (.tuple [(optP E_bench v.1),(.lst (v.2.1.flatMap E_turn) v.2.1.length .shared),(I v.2.2)]) .ret T H→Q .ret T H) (hkl1_0:∀ (u0:AV) (u1:AV) (u2:AV) (u3:AV) (u6:AV) (u7:AV) (u8:AV) (u10:AV) (u11:AV) (u13:AV) (u16:AV) (u17:AV) (u18:AV) (u19:AV) (u20:AV) (u21:AV) (u22:AV) (u23:AV) (u24:AV) (u25:AV) (u26:AV) (u27:AV) (u28:AV) (u29:AV) (u30:AV) (u31:AV) (u32:AV) (u33:AV) (u34:AV) (u35:AV) (u36:AV) (u37:AV) (u38:AV) (u39:AV) (u40:AV) (u41:AV) (u42:AV) (u43:AV) (u44:AV) (u45:AV) (u46:AV) (u47:AV) (u48:AV) (u49:AV) (u50:AV) (u51:AV) (u52:AV) (u53:AV) (u54:AV) (u55:AV) (u56:AV) (u57:AV) (u58:AV) (u59:AV) (u60:AV) (u61:AV) (u62:AV) (u63:AV) (u64:AV) (u65:AV) (u66:AV) (u67:AV) (u68:AV) (u69:AV) (u70:AV) (u71:AV) (u72:AV) (u73:AV) (u74:AV) (u75:AV) (u76:AV) (u77:AV) (u78:AV) (u79:AV) (u80:AV) (u81:AV) (u82:AV) (u83:AV) (u84:AV) (u85:AV) (u86:AV) (u87:AV) (u88:AV) (u89:AV) (u90:AV) (u91:AV) (u92:AV) (u93:AV) (u94:AV) (u95:AV) (u96:AV) (u97:AV) (u98:AV) (u99:AV) (u100:AV) (u101:AV) (u102:AV) (u103:AV) (u104:AV) (u105:AV) (u106:AV) (u107:AV) (u108:AV) (u109:AV) (u110:AV) (u111:AV) (u112:AV) (u113:AV) (u114:AV) (u115:AV) (o3:AObj) (o4:AObj),kl1_0 ()=some v→Q (.exit 0) [u0,u1,u2,u3,(.ptr 1 0),J,u6,u7,u8,.nilp,u10,u11,(.lst [] 0 (.uniq 3)),u13,(I (0:Int)),J,u16,u17,u18,u19,u20,u21,u22,u23,u24,u25,u26,u27,u28,u29,u30,u31,u32,u33,u34,u35,u36,u37,u38,u39,u40,u41,u42,u43,u44,u45,u46,u47,u48,u49,u50,u51,u52,u53,u54,u55,u56,u57,u58,u59,u60,u61,u62,u63,u64,u65,u66,u67,u68,u69,u70,u71,u72,u73,u74,u75,u76,u77,u78,u79,u80,u81,u82,u83,u84,u85,u86,u87,u88,u89,u90,u91,u92,u93,u94,u95,u96,u97,u98,u99,u100,u101,u102,u103,u104,u105,u106,u107,u108,u109,u110,u111,u112,u113,u114,u115] [o1,AObj.cells [(.lst (panels.flatMap pr) panels.length .shared)],o3,o4]) {T:List AV} (hT:zipKeep [o_,o_,o_,o_,i_,o_,o_,o_,o_,i_,o_,i_,i_,i_,i_,o_,o_,o_,o_,o_,o_,o_,o_,o_,o_,o_,o_,o_,o_,o_,o_,o_,o_,o_,i_,i_,i_,o_,o_,o_,o_,o_,o_,o_,o_,o_,o_,o_,o_,o_,o_,o_,o_,o_,o_,o_,o_,o_,o_,o_,o_,o_,o_,o_,o_,o_,o_,o_,o_,o_,o_,o_,o_,o_,o_,o_,o_,o_,o_,o_,o_,o_,o_,o_,o_,o_,o_,o_,o_,o_,o_,o_,o_,o_,o_,o_,o_,o_,o_,o_,o_,o_,o_,o_,o_,o_,o_,o_,o_,o_,o_,o_,o_,o_,o_,o_] T=slots 116 [(4,(.ptr 1 0)),(9,.nilp),(11,(.ptr 3 0)),(12,(.lst [] 0 (.uniq 3))),(13,(I b.2.2.1)),(14,(I (0:Int))),(34,(.lst (turns.map L1) turns.length .shared)),(35,(I (turns.length:Int))),(36,(I (0:Int)))]) (h:x65_l1 panels turns kl1_0 FU  = some v) :
  wpR Tryz.prog ann65 65 0 none xrc65_2 T [o1,AObj.cells [(.lst (panels.flatMap pr) panels.length .shared)],AObj.cells ((List.replicate (panels.length:Int).toNat (0:Int)).map I),AObj.cells [(.ref 2 0 (panels.length:Int).toNat (some (panels.length:Int).toNat) 1)]] Q:=by
 unfold xrc65_2
 obtain ⟨c_1,g_1⟩:∃ c,xrc65_1=c:=⟨_,rfl⟩
 rw [g_1]
 obtain ⟨c_4,g_4⟩:∃ c,xrc65_4=c:=⟨_,rfl⟩
 rw [g_4]
 refine wp_loop hT ?_
 refine .intro (fun m T H=>T=slots 116 [(4,(.ptr 1 0)),(9,.nilp),(11,(.ptr 3 0)),(12,(.lst [] 0 (.uniq 3))),(13,(I b.2.2.1)),(14,(I (0:Int))),(34,(.lst (turns.map L1) turns.length .shared)),(35,(I (turns.length:Int))),(36,(I (0:Int)))]∧H=[o1,AObj.cells [(.lst (panels.flatMap pr) panels.length .shared)],AObj.cells ((List.replicate (panels.length:Int).toNat (0:Int)).map I),AObj.cells [(.ref 2 0 (panels.length:Int).toNat (some (panels.length:Int).toNat) 1)]]∧x65_l1 panels turns kl1_0 m  = some v) FU ⟨rfl,rfl,h⟩ ?_
 clear h hT
 rintro m T H ⟨rfl,rfl,h⟩
 cases m
 ·exact none_ne h
 rename_i m
 rw [x65_l1.eq_2] at h
 conv=>whnf
 rcases bt (decide ((0:Int)<(turns.length:Int))) with hb4 | hb4
 ·rw [hb4]
  conv=>whnf
  replace h:=it_t hb4 h
  obtain ⟨hb5,h⟩:=gd_some h
  refine ⟨hb5,?_⟩
  rw [drop1 L1 turns (0:Int) hb5]
  conv=>whnf
  rcases bt (decide (((ix turns (0:Int)).length:Int)=(0:Int))) with hb6 | hb6
  ·rw [hb6]
   conv=>whnf
   replace h:=it_t hb6 h
   subst g_1
   refine x65_j2_ok ?_ h
   exact fun T H hh=>hR T H hh
  ·rw [hb6]
   conv=>whnf
   replace h:=it_f hb6 h
   obtain ⟨r2,hb7,h⟩:=bd_some h
   refine ⟨(allc (pu_map (fun _=>rfl) _ _ _) (allc rfl rfl)),_,x61_ok hb7,?_⟩
   conv=>whnf
   subst g_1
   refine x65_j2_ok ?_ h
   exact fun T H hh=>hR T H hh
 ·rw [hb4]
  conv=>whnf
  replace h:=it_f hb4 h
  exact hkl1_0 _ _ _ _ _ _ _ _ _ _ _ _ _ _ _ _ _ _ _ _ _ _ _ _ _ _ _ _ _ _ _ _ _ _ _ _ _ _ _ _ _ _ _ _ _ _ _ _ _ _ _ _ _ _ _ _ _ _ _ _ _ _ _ _ _ _ _ _ _ _ _ _ _ _ _ _ _ _ _ _ _ _ _ _ _ _ _ _ _ _ _ _ _ _ _ _ _ _ _ _ _ _ _ _ _ _ _ _ _ _ _ _ h
theorem x65_j4_ok {panels:(List (Int×Int))} {turns:(List (List Int))} {p1:((Int×(List Int)×Int×Int)×(List (Int×Int))×(List Int)×(List Int))} {s4:Int} {s5:(List Int)} {kj4_0:Unit→Option ((Option ((Int×(List Int)×Int×Int)×(List (Int×Int))×(List Int)×(List Int)))×(List ((List Int)×Int×Int))×Int)} {j2:Bool} {s1:(List ((List Int)×Int×Int))} {s2:Int} {s3:Int} {v:((Option ((Int×(List Int)×Int×Int)×(List (Int×Int))×(List Int)×(List Int)))×(List ((List Int)×Int×Int))×Int)} {Q:Ex→List AV→List AObj→Prop} {u0:AV} {u1:AV} {u2:AV} {u3:AV} {u6:AV} {u7:AV} {u8:AV} {u10:AV} {u17:AV} {u18:AV} {u19:AV} {u20:AV} {u21:AV} {u22:AV} {u23:AV} {u24:AV} {u25:AV} {u26:AV} {u27:AV} {u28:AV} {u29:AV} {u30:AV} {u31:AV} {u32:AV} {u33:AV} {u37:AV} {u38:AV} {u39:AV} {u41:AV} {u42:AV} {u43:AV} {u44:AV} {u45:AV} {u46:AV} {u47:AV} {u48:AV} {u49:AV} {u50:AV} {u51:AV} {u52:AV} {u53:AV} {u54:AV} {u55:AV} {u56:AV} {u57:AV} {u58:AV} {u59:AV} {u60:AV} {u61:AV} {u62:AV} {u63:AV} {u64:AV} {u65:AV} {u66:AV} {u67:AV} {u68:AV} {u69:AV} {u70:AV} {u71:AV} {u72:AV} {u73:AV} {u74:AV} {u75:AV} {u76:AV} {u77:AV} {u78:AV} {u79:AV} {u80:AV} {u81:AV} {u82:AV} {u83:AV} {u84:AV} {u85:AV} {u86:AV} {u87:AV} {u88:AV} {u89:AV} {u90:AV} {u91:AV} {u92:AV} {u93:AV} {u94:AV} {u95:AV} {u96:AV} {u97:AV} {u98:AV} {u99:AV} {u100:AV} {u101:AV} {u102:AV} {u103:AV} {u104:AV} {u105:AV} {u106:AV} {u107:AV} {u108:AV} {u109:AV} {u110:AV} {u111:AV} {u112:AV} {u113:AV} {u114:AV} {u115:AV} {o1:AObj} {Y65_1:List AObj} (hR:∀ T H,RetW [.tmp 6,.tmp 7,.tmp 8] (.tuple [(optP E_bench v.1),(.lst (v.2.1.flatMap E_turn) v.2.1.length .shared),(I v.2.2)]) .ret T H→Q .ret T H) (hkj4_0:∀ (u0:AV) (u1:AV) (u2:AV) (u3:AV) (u6:AV) (u7:AV) (u8:AV) (u10:AV) (u17:AV) (u18:AV) (u19:AV) (u20:AV) (u21:AV) (u22:AV) (u23:AV) (u24:AV) (u25:AV) (u26:AV) (u27:AV) (u28:AV) (u29:AV) (u30:AV) (u31:AV) (u32:AV) (u33:AV) (u37:AV) (u38:AV) (u39:AV) (u40:AV) (u41:AV) (u42:AV) (u43:AV) (u44:AV) (u45:AV) (u46:AV) (u47:AV) (u48:AV) (u49:AV) (u50:AV) (u51:AV) (u52:AV) (u53:AV) (u54:AV) (u55:AV) (u56:AV) (u57:AV) (u58:AV) (u59:AV) (u60:AV) (u61:AV) (u62:AV) (u63:AV) (u64:AV) (u65:AV) (u66:AV) (u67:AV) (u68:AV) (u69:AV) (u70:AV) (u71:AV) (u72:AV) (u73:AV) (u74:AV) (u75:AV) (u76:AV) (u77:AV) (u78:AV) (u79:AV) (u80:AV) (u81:AV) (u82:AV) (u83:AV) (u84:AV) (u85:AV) (u86:AV) (u87:AV) (u88:AV) (u89:AV) (u90:AV) (u91:AV) (u92:AV) (u93:AV) (u94:AV) (u95:AV) (u96:AV) (u97:AV) (u98:AV) (u99:AV) (u100:AV) (u101:AV) (u102:AV) (u103:AV) (u104:AV) (u105:AV) (u106:AV) (u107:AV) (u108:AV) (u109:AV) (u110:AV) (u111:AV) (u112:AV) (u113:AV) (u114:AV) (u115:AV),kj4_0 ()=some v→Q .normal [u0,u1,u2,u3,(.ptr 1 0),J,u6,u7,u8,(.lptr ((I p1.1.1)::(.lst (p1.1.2.1.map I) p1.1.2.1.length .shared)::(I p1.1.2.2.1)::(I p1.1.2.2.2)::(.lst (p1.2.1.flatMap pr) p1.2.1.length .shared)::(.lst (p1.2.2.1.map I) p1.2.2.1.length .shared)::(p1.2.2.2.map I))),u10,(.ptr 3 0),(.lst (s1.flatMap E_turn) s1.length (.uniq 3)),(I s2),(I s3),J,(.ptr (o1::AObj.cells [(.lst (panels.flatMap pr) panels.length .shared)]::AObj.cells (s5.map I)::AObj.cells [(.ref 2 0 (panels.length:Int).toNat (some (panels.length:Int).toNat) 1)]::Y65_1).length 0),u17,u18,u19,u20,u21,u22,u23,u24,u25,u26,u27,u28,u29,u30,u31,u32,u33,(.lst (turns.map L1) turns.length .shared),(I (turns.length:Int)),(I s4),u37,u38,u39,u40,u41,u42,u43,u44,u45,u46,u47,u48,u49,u50,u51,u52,u53,u54,u55,u56,u57,u58,u59,u60,u61,u62,u63,u64,u65,u66,u67,u68,u69,u70,u71,u72,u73,u74,u75,u76,u77,u78,u79,u80,u81,u82,u83,u84,u85,u86,u87,u88,u89,u90,u91,u92,u93,u94,u95,u96,u97,u98,u99,u100,u101,u102,u103,u104,u105,u106,u107,u108,u109,u110,u111,u112,u113,u114,u115] ((o1::AObj.cells [(.lst (panels.flatMap pr) panels.length .shared)]::AObj.cells (s5.map I)::AObj.cells [(.ref 2 0 (panels.length:Int).toNat (some (panels.length:Int).toNat) 1)]::Y65_1)++[AObj.cells [(.lst ((ix turns s4).map I) (ix turns s4).length .shared)]])) (h:x65_j4 panels turns p1 s4 s5 kj4_0 j2=some v) :
  wpR Tryz.prog ann65 65 0 none xrc65_1 [u0,u1,u2,u3,(.ptr 1 0),J,u6,u7,u8,(.lptr ((I p1.1.1)::(.lst (p1.1.2.1.map I) p1.1.2.1.length .shared)::(I p1.1.2.2.1)::(I p1.1.2.2.2)::(.lst (p1.2.1.flatMap pr) p1.2.1.length .shared)::(.lst (p1.2.2.1.map I) p1.2.2.1.length .shared)::(p1.2.2.2.map I))),u10,(.ptr 3 0),(.lst (s1.flatMap E_turn) s1.length (.uniq 3)),(I s2),(I s3),J,(.ptr (o1::AObj.cells [(.lst (panels.flatMap pr) panels.length .shared)]::AObj.cells (s5.map I)::AObj.cells [(.ref 2 0 (panels.length:Int).toNat (some (panels.length:Int).toNat) 1)]::Y65_1).length 0),u17,u18,u19,u20,u21,u22,u23,u24,u25,u26,u27,u28,u29,u30,u31,u32,u33,(.lst (turns.map L1) turns.length .shared),(I (turns.length:Int)),(I s4),u37,u38,u39,(B j2),u41,u42,u43,u44,u45,u46,u47,u48,u49,u50,u51,u52,u53,u54,u55,u56,u57,u58,u59,u60,u61,u62,u63,u64,u65,u66,u67,u68,u69,u70,u71,u72,u73,u74,u75,u76,u77,u78,u79,u80,u81,u82,u83,u84,u85,u86,u87,u88,u89,u90,u91,u92,u93,u94,u95,u96,u97,u98,u99,u100,u101,u102,u103,u104,u105,u106,u107,u108,u109,u110,u111,u112,u113,u114,u115] ((o1::AObj.cells [(.lst (panels.flatMap pr) panels.length .shared)]::AObj.cells (s5.map I)::AObj.cells [(.ref 2 0 (panels.length:Int).toNat (some (panels.length:Int).toNat) 1)]::Y65_1)++[AObj.cells [(.lst ((ix turns s4).map I) (ix turns s4).length .shared)]]) Q:=by
 unfold x65_j4 at h
 unfold xrc65_1
 skip
 conv=>whnf
 cases j2
 ·conv=>whnf
  replace h:=it_f rfl h
  refine nthK_of (x:=AObj.cells [(.lst ((ix turns s4).map I) (ix turns s4).length .shared)]) (by first | with_reducible exact get_concat _ _ | exact get_concat _ _ | exact ga (get_concat _ _) | rfl | (simp [List.getElem?_append,AV.settle];done)) ?_
  conv=>whnf
  rcases bt (decide ((p1.2.2.1.length:Int)<((ix turns s4).length:Int))) with hb14 | hb14
  ·rw [hb14]
   conv=>whnf
   replace h:=it_t hb14 h
   obtain rfl:=Option.some.inj h
   exact hR _ _ ⟨.inr rfl,_,rfl,_,frz_pure (pu_tup (allc rfl (allc rfl (allc rfl rfl)))),rfl⟩
  ·rw [hb14]
   conv=>whnf
   replace h:=it_f hb14 h
   refine nthK_of (x:=AObj.cells [(.lst ((ix turns s4).map I) (ix turns s4).length .shared)]) (by first | with_reducible exact get_concat _ _ | exact get_concat _ _ | exact ga (get_concat _ _) | rfl | (simp [List.getElem?_append,AV.settle];done)) ?_
   conv=>whnf
   obtain ⟨r3,hb15,h⟩:=bd_some h
   refine ⟨_,_,call6' (cs:=[(.lst ((ix turns s4).map I) (ix turns s4).length .shared),(.func 89 [] [(.lptr [(.lst (panels.flatMap pr) panels.length .shared)]),(.lptr [(.lst ((ix turns s4).map I) (ix turns s4).length .shared)])])]) (bs:=[(.lst ((ix turns s4).map I) (ix turns s4).length .shared),(.func 89 [] [(.lptr [(.lst (panels.flatMap pr) panels.length .shared)]),(.lptr [(.lst ((ix turns s4).map I) (ix turns s4).length .shared)])])]) (map_cons' rfl (map_cons' (shz_func map_nil' (map_cons' (shz0_ptr' (cs:=[(.lst (panels.flatMap pr) panels.length .shared)]) (by first | with_reducible exact get_concat _ _ | exact get_concat _ _ | exact ga (get_concat _ _) | rfl | (simp [List.getElem?_append,AV.settle];done)) rfl) (map_cons' (shz0_ptr' (cs:=[(.lst ((ix turns s4).map I) (ix turns s4).length .shared)]) (by first | with_reducible exact get_concat _ _ | exact get_concat _ _ | exact ga (get_concat _ _) | rfl | (simp [List.getElem?_append,AV.settle];done)) rfl) map_nil'))) map_nil')) (by rfl) (by exact (allc (pu_map (fun _=>rfl) _ _ _) (allc (pu_fn rfl (allc (pu_lptr (allc (pu_flat (fun _=>(allc rfl (allc rfl rfl))) _ _ _) rfl)) (allc (pu_lptr (allc (pu_map (fun _=>rfl) _ _ _) rfl)) rfl))) rfl))) (x86_ok ⟨(allc (pu_lptr (allc (pu_flat (fun _=>(allc rfl (allc rfl rfl))) _ _ _) rfl)) (allc (pu_lptr (allc (pu_map (fun _=>rfl) _ _ _) rfl)) rfl)),by simp⟩ (fun _ _ hy=>x89_ok hy) hb15) rfl,?_⟩
   conv=>whnf
   cases r3
   ·conv=>whnf
    replace h:=it_f rfl h
    refine nthK_of (x:=AObj.cells [(.lst ((ix turns s4).map I) (ix turns s4).length .shared)]) (by first | with_reducible exact get_concat _ _ | exact get_concat _ _ | exact ga (get_concat _ _) | rfl | (simp [List.getElem?_append,AV.settle];done)) ?_
    conv=>whnf
    obtain ⟨hb16,h⟩:=gd_some h
    obtain ⟨r4,hb17,h⟩:=bd_some h
    refine ⟨_,_,call6' (cs:=[(.lst ((ix turns s4).map I) (ix turns s4).length .shared),(.func 90 [] [(.lptr [(.lst (s5.map I) s5.length .shared)])])]) (bs:=[(.lst ((ix turns s4).map I) (ix turns s4).length .shared),(.func 90 [] [(.lptr [(.lst (s5.map I) s5.length .shared)])])]) (map_cons' rfl (map_cons' (shz_func map_nil' (map_cons' (shz0_ptr' (cs:=[(.ref 2 0 (panels.length:Int).toNat (some (panels.length:Int).toNat) 1)]) (by first | with_reducible exact get_concat _ _ | exact get_concat _ _ | exact ga (get_concat _ _) | rfl | (simp [List.getElem?_append,AV.settle];done)) (map_cons' (shzR_row (f:=I) (l:=s5) (by first | with_reducible exact get_concat _ _ | exact get_concat _ _ | exact ga (get_concat _ _) | rfl | (simp [List.getElem?_append,AV.settle];done)) hb16 (fun _=>rfl)) map_nil')) map_nil')) map_nil')) (by rfl) (by exact (allc (pu_map (fun _=>rfl) _ _ _) (allc (pu_fn rfl (allc (pu_lptr (allc (pu_map (fun _=>rfl) _ _ _) rfl)) rfl)) rfl))) (x86_ok ⟨(allc (pu_lptr (allc (pu_map (fun _=>rfl) _ _ _) rfl)) rfl),by simp⟩ (fun _ _ hy=>x90_ok hy) hb17) rfl,?_⟩
    conv=>whnf
    cases r4
    ·conv=>whnf
     replace h:=it_f rfl h
     exact hkj4_0 _ _ _ _ _ _ _ _ _ _ _ _ _ _ _ _ _ _ _ _ _ _ _ _ _ _ _ _ _ _ _ _ _ _ _ _ _ _ _ _ _ _ _ _ _ _ _ _ _ _ _ _ _ _ _ _ _ _ _ _ _ _ _ _ _ _ _ _ _ _ _ _ _ _ _ _ _ _ _ _ _ _ _ _ _ _ _ _ _ _ _ _ _ _ _ _ _ _ _ _ _ _ _ _ h
    ·conv=>whnf
     replace h:=it_t rfl h
     obtain rfl:=Option.some.inj h
     exact hR _ _ ⟨.inr rfl,_,rfl,_,frz_pure (pu_tup (allc rfl (allc rfl (allc rfl rfl)))),rfl⟩
   ·conv=>whnf
    replace h:=it_t rfl h
    obtain rfl:=Option.some.inj h
    exact hR _ _ ⟨.inr rfl,_,rfl,_,frz_pure (pu_tup (allc rfl (allc rfl (allc rfl rfl)))),rfl⟩
 ·conv=>whnf
  replace h:=it_t rfl h
  obtain rfl:=Option.some.inj h
  exact hR _ _ ⟨.inr rfl,_,rfl,_,frz_pure (pu_tup (allc rfl (allc rfl (allc rfl rfl)))),rfl⟩
theorem x65_l6_ok {panels:(List (Int×Int))} {turns:(List (List Int))} {s4:Int} {kl6_0:(List Int)→Option ((Option ((Int×(List Int)×Int×Int)×(List (Int×Int))×(List Int)×(List Int)))×(List ((List Int)×Int×Int))×Int)} {s6:Int} {s7:(List Int)} {p1:((Int×(List Int)×Int×Int)×(List (Int×Int))×(List Int)×(List Int))} {s1:(List ((List Int)×Int×Int))} {s2:Int} {s3:Int} {v:((Option ((Int×(List Int)×Int×Int)×(List (Int×Int))×(List Int)×(List Int)))×(List ((List Int)×Int×Int))×Int)} {Q:Ex→List AV→List AObj→Prop} {o1:AObj} {Y65_1:List AObj} (hkl6_0:∀ (z1:(List Int)) (u0:AV) (u1:AV) (u2:AV) (u3:AV) (u6:AV) (u7:AV) (u8:AV) (u10:AV) (u17:AV) (u18:AV) (u19:AV) (u20:AV) (u21:AV) (u22:AV) (u23:AV) (u24:AV) (u25:AV) (u26:AV) (u27:AV) (u28:AV) (u29:AV) (u30:AV) (u31:AV) (u32:AV) (u33:AV) (u37:AV) (u38:AV) (u39:AV) (u40:AV) (u41:AV) (u42:AV) (u43:AV) (u44:AV) (u45:AV) (u46:AV) (u47:AV) (u48:AV) (u49:AV) (u50:AV) (u51:AV) (u52:AV) (u53:AV) (u54:AV) (u55:AV) (u56:AV) (u57:AV) (u58:AV) (u59:AV) (u60:AV) (u61:AV) (u62:AV) (u63:AV) (u64:AV) (u65:AV) (u66:AV) (u67:AV) (u68:AV) (u69:AV) (u70:AV) (u71:AV) (u72:AV) (u73:AV) (u74:AV) (u75:AV) (u76:AV) (u77:AV) (u78:AV) (u79:AV) (u80:AV) (u81:AV) (u82:AV) (u83:AV) (u84:AV) (u85:AV) (u86:AV) (u87:AV) (u88:AV) (u89:AV) (u90:AV) (u91:AV) (u92:AV) (u93:AV) (u94:AV) (u95:AV) (u96:AV) (u97:AV) (u98:AV) (u99:AV) (u100:AV) (u101:AV) (u102:AV) (u103:AV) (u104:AV) (u105:AV) (u106:AV) (u107:AV) (u108:AV) (u109:AV) (u110:AV) (u111:AV) (u112:AV) (u113:AV) (u114:AV) (u115:AV),kl6_0 z1=some v→Q (.exit 3) [u0,u1,u2,u3,(.ptr 1 0),J,u6,u7,u8,(.lptr ((I p1.1.1)::(.lst (p1.1.2.1.map I) p1.1.2.1.length .shared)::(I p1.1.2.2.1)::(I p1.1.2.2.2)::(.lst (p1.2.1.flatMap pr) p1.2.1.length .shared)::(.lst (p1.2.2.1.map I) p1.2.2.1.length .shared)::(p1.2.2.2.map I))),u10,(.ptr 3 0),(.lst (s1.flatMap E_turn) s1.length (.uniq 3)),(I s2),(I s3),J,(.ptr (o1::AObj.cells [(.lst (panels.flatMap pr) panels.length .shared)]::AObj.cells (z1.map I)::AObj.cells [(.ref 2 0 (panels.length:Int).toNat (some (panels.length:Int).toNat) 1)]::Y65_1).length 0),u17,u18,u19,u20,u21,u22,u23,u24,u25,u26,u27,u28,u29,u30,u31,u32,u33,(.lst (turns.map L1) turns.length .shared),(I (turns.length:Int)),(I s4),u37,u38,u39,u40,u41,u42,u43,u44,u45,u46,u47,u48,u49,u50,u51,u52,u53,u54,u55,u56,u57,u58,u59,u60,u61,u62,u63,u64,u65,u66,u67,u68,u69,u70,u71,u72,u73,u74,u75,u76,u77,u78,u79,u80,u81,u82,u83,u84,u85,u86,u87,u88,u89,u90,u91,u92,u93,u94,u95,u96,u97,u98,u99,u100,u101,u102,u103,u104,u105,u106,u107,u108,u109,u110,u111,u112,u113,u114,u115] ((o1::AObj.cells [(.lst (panels.flatMap pr) panels.length .shared)]::AObj.cells (z1.map I)::AObj.cells [(.ref 2 0 (panels.length:Int).toNat (some (panels.length:Int).toNat) 1)]::Y65_1)++[AObj.cells [(.lst ((ix turns s4).map I) (ix turns s4).length .shared)]])) {T:List AV} (hT:zipKeep [o_,o_,o_,o_,i_,o_,o_,o_,o_,i_,o_,i_,i_,i_,i_,o_,i_,o_,o_,o_,o_,o_,o_,o_,o_,o_,o_,o_,o_,o_,o_,o_,o_,o_,i_,i_,i_,o_,o_,o_,o_,o_,o_,o_,o_,o_,o_,o_,o_,o_,o_,o_,o_,o_,o_,o_,o_,o_,o_,o_,o_,o_,o_,o_,o_,o_,o_,o_,i_,i_,i_,o_,o_,o_,o_,o_,o_,o_,o_,o_,o_,o_,o_,o_,o_,o_,o_,o_,o_,o_,o_,o_,o_,o_,o_,o_,o_,o_,o_,o_,o_,o_,o_,o_,o_,o_,o_,o_,o_,o_,o_,o_,o_,o_,o_,o_] T=slots 116 [(4,(.ptr 1 0)),(9,(.lptr ((I p1.1.1)::(.lst (p1.1.2.1.map I) p1.1.2.1.length .shared)::(I p1.1.2.2.1)::(I p1.1.2.2.2)::(.lst (p1.2.1.flatMap pr) p1.2.1.length .shared)::(.lst (p1.2.2.1.map I) p1.2.2.1.length .shared)::(p1.2.2.2.map I)))),(11,(.ptr 3 0)),(12,(.lst (s1.flatMap E_turn) s1.length (.uniq 3))),(13,(I s2)),(14,(I s3)),(16,(.ptr (o1::AObj.cells [(.lst (panels.flatMap pr) panels.length .shared)]::AObj.cells (s7.map I)::AObj.cells [(.ref 2 0 (panels.length:Int).toNat (some (panels.length:Int).toNat) 1)]::Y65_1).length 0)),(34,(.lst (turns.map L1) turns.length .shared)),(35,(I (turns.length:Int))),(36,(I s4)),(68,(.lst ((ix turns s4).map I) (ix turns s4).length .shared)),(69,(I ((ix turns s4).length:Int))),(70,(I s6))]) (h:x65_l6 panels turns s4 kl6_0 FU s6 s7=some v) :
  wpR Tryz.prog ann65 65 0 none xrc65_3 T ((o1::AObj.cells [(.lst (panels.flatMap pr) panels.length .shared)]::AObj.cells (s7.map I)::AObj.cells [(.ref 2 0 (panels.length:Int).toNat (some (panels.length:Int).toNat) 1)]::Y65_1)++[AObj.cells [(.lst ((ix turns s4).map I) (ix turns s4).length .shared)]]) Q:=by
 unfold xrc65_3
 skip
 refine wp_loop hT ?_
 refine .intro (fun m T H=>∃ (s6:Int) (s7:(List Int)),T=slots 116 [(4,(.ptr 1 0)),(9,(.lptr ((I p1.1.1)::(.lst (p1.1.2.1.map I) p1.1.2.1.length .shared)::(I p1.1.2.2.1)::(I p1.1.2.2.2)::(.lst (p1.2.1.flatMap pr) p1.2.1.length .shared)::(.lst (p1.2.2.1.map I) p1.2.2.1.length .shared)::(p1.2.2.2.map I)))),(11,(.ptr 3 0)),(12,(.lst (s1.flatMap E_turn) s1.length (.uniq 3))),(13,(I s2)),(14,(I s3)),(16,(.ptr (o1::AObj.cells [(.lst (panels.flatMap pr) panels.length .shared)]::AObj.cells (s7.map I)::AObj.cells [(.ref 2 0 (panels.length:Int).toNat (some (panels.length:Int).toNat) 1)]::Y65_1).length 0)),(34,(.lst (turns.map L1) turns.length .shared)),(35,(I (turns.length:Int))),(36,(I s4)),(68,(.lst ((ix turns s4).map I) (ix turns s4).length .shared)),(69,(I ((ix turns s4).length:Int))),(70,(I s6))]∧H=((o1::AObj.cells [(.lst (panels.flatMap pr) panels.length .shared)]::AObj.cells (s7.map I)::AObj.cells [(.ref 2 0 (panels.length:Int).toNat (some (panels.length:Int).toNat) 1)]::Y65_1)++[AObj.cells [(.lst ((ix turns s4).map I) (ix turns s4).length .shared)]])∧x65_l6 panels turns s4 kl6_0 m s6 s7=some v) FU ⟨s6,s7,rfl,rfl,h⟩ ?_
 clear h hT
 rintro m T H ⟨s6,s7,rfl,rfl,h⟩
 cases m
 ·exact none_ne h
 rename_i m
 rw [x65_l6.eq_2] at h
 conv=>whnf
 rcases bt (decide (s6<((ix turns s4).length:Int))) with hb18 | hb18
 ·rw [hb18]
  conv=>whnf
  replace h:=it_t hb18 h
  obtain ⟨hb19,h⟩:=gd_some h
  refine ⟨hb19,?_⟩
  rw [drop1 I (ix turns s4) s6 hb19]
  conv=>whnf
  obtain ⟨hb20,h⟩:=gd_some h
  refine ⟨⟨hb20.1,hb20.2.1⟩,?_⟩
  replace hb20:0≤(ix (ix turns s4) s6)∧(ix (ix turns s4) s6)<(s7.length:Int):=⟨hb20.1,by have:=hb20.2;omega⟩
  conv=>whnf
  refine rdD I s7 (ix (ix turns s4) s6) hb20 ?_
  conv=>whnf
  obtain ⟨hb21,h⟩:=gd_some h
  refine ⟨⟨hb21.1,hb21.2.1⟩,?_⟩
  replace hb21:0≤(ix (ix turns s4) s6)∧(ix (ix turns s4) s6)<(s7.length:Int):=⟨hb21.1,by have:=hb21.2;omega⟩
  conv=>whnf
  refine updD I s7 (ix (ix turns s4) s6) (w ((ix s7 (ix (ix turns s4) s6))+(1:Int))) hb21 ?_
  conv=>whnf
  exact ⟨m,Nat.lt_succ_self m,(w (s6+(1:Int))),(s7.set (ix (ix turns s4) s6).toNat (w ((ix s7 (ix (ix turns s4) s6))+(1:Int)))),rfl,rfl,h⟩
 ·rw [hb18]
  conv=>whnf
  replace h:=it_f hb18 h
  exact hkl6_0 _ _ _ _ _ _ _ _ _ _ _ _ _ _ _ _ _ _ _ _ _ _ _ _ _ _ _ _ _ _ _ _ _ _ _ _ _ _ _ _ _ _ _ _ _ _ _ _ _ _ _ _ _ _ _ _ _ _ _ _ _ _ _ _ _ _ _ _ _ _ _ _ _ _ _ _ _ _ _ _ _ _ _ _ _ _ _ _ _ _ _ _ _ _ _ _ _ _ _ _ _ _ _ _ _ h
theorem x65_j5_ok {panels:(List (Int×Int))} {turns:(List (List Int))} {p1:((Int×(List Int)×Int×Int)×(List (Int×Int))×(List Int)×(List Int))} {s1:(List ((List Int)×Int×Int))} {s2:Int} {s4:Int} {s5:(List Int)} {kj5_0:(List ((List Int)×Int×Int))→(List Int)→Option ((Option ((Int×(List Int)×Int×Int)×(List (Int×Int))×(List Int)×(List Int)))×(List ((List Int)×Int×Int))×Int)} {s3:Int} {v:((Option ((Int×(List Int)×Int×Int)×(List (Int×Int))×(List Int)×(List Int)))×(List ((List Int)×Int×Int))×Int)} {Q:Ex→List AV→List AObj→Prop} {u0:AV} {u1:AV} {u2:AV} {u3:AV} {u6:AV} {u7:AV} {u8:AV} {u10:AV} {u17:AV} {u18:AV} {u19:AV} {u20:AV} {u21:AV} {u22:AV} {u23:AV} {u24:AV} {u25:AV} {u26:AV} {u27:AV} {u28:AV} {u29:AV} {u30:AV} {u31:AV} {u32:AV} {u33:AV} {u37:AV} {u38:AV} {u39:AV} {u40:AV} {u41:AV} {u42:AV} {u43:AV} {u44:AV} {u45:AV} {u46:AV} {u47:AV} {u48:AV} {u49:AV} {u50:AV} {u51:AV} {u52:AV} {u53:AV} {u54:AV} {u55:AV} {u56:AV} {u57:AV} {u58:AV} {u59:AV} {u60:AV} {u61:AV} {u62:AV} {u63:AV} {u64:AV} {u65:AV} {u66:AV} {u67:AV} {u68:AV} {u69:AV} {u70:AV} {u71:AV} {u72:AV} {u73:AV} {u74:AV} {u75:AV} {u76:AV} {u77:AV} {u78:AV} {u79:AV} {u80:AV} {u81:AV} {u82:AV} {u83:AV} {u84:AV} {u85:AV} {u86:AV} {u87:AV} {u88:AV} {u89:AV} {u90:AV} {u91:AV} {u92:AV} {u93:AV} {u94:AV} {u95:AV} {u96:AV} {u97:AV} {u98:AV} {u99:AV} {u100:AV} {u101:AV} {u102:AV} {u103:AV} {u104:AV} {u105:AV} {u106:AV} {u107:AV} {u108:AV} {u109:AV} {u110:AV} {u111:AV} {u112:AV} {u113:AV} {u114:AV} {u115:AV} {o1:AObj} {Y65_1:List AObj} (hkj5_0:∀ (z2:(List ((List Int)×Int×Int))) (z3:(List Int)) (u0:AV) (u1:AV) (u2:AV) (u3:AV) (u6:AV) (u7:AV) (u8:AV) (u10:AV) (u16:AV) (u17:AV) (u18:AV) (u19:AV) (u20:AV) (u21:AV) (u22:AV) (u23:AV) (u24:AV) (u25:AV) (u26:AV) (u27:AV) (u28:AV) (u29:AV) (u30:AV) (u31:AV) (u32:AV) (u33:AV) (u37:AV) (u38:AV) (u39:AV) (u40:AV) (u41:AV) (u42:AV) (u43:AV) (u44:AV) (u45:AV) (u46:AV) (u47:AV) (u48:AV) (u49:AV) (u50:AV) (u51:AV) (u52:AV) (u53:AV) (u54:AV) (u55:AV) (u56:AV) (u57:AV) (u58:AV) (u59:AV) (u60:AV) (u61:AV) (u62:AV) (u63:AV) (u64:AV) (u65:AV) (u66:AV) (u67:AV) (u68:AV) (u69:AV) (u70:AV) (u71:AV) (u72:AV) (u73:AV) (u74:AV) (u75:AV) (u76:AV) (u77:AV) (u78:AV) (u79:AV) (u80:AV) (u81:AV) (u82:AV) (u83:AV) (u84:AV) (u85:AV) (u86:AV) (u87:AV) (u88:AV) (u89:AV) (u90:AV) (u91:AV) (u92:AV) (u93:AV) (u94:AV) (u95:AV) (u96:AV) (u97:AV) (u98:AV) (u99:AV) (u100:AV) (u101:AV) (u102:AV) (u103:AV) (u104:AV) (u105:AV) (u106:AV) (u107:AV) (u108:AV) (u109:AV) (u110:AV) (u111:AV) (u112:AV) (u113:AV) (u114:AV) (u115:AV) (Yq:List AObj),kj5_0 z2 z3=some v→Q .normal [u0,u1,u2,u3,(.ptr 1 0),J,u6,u7,u8,(.lptr ((I p1.1.1)::(.lst (p1.1.2.1.map I) p1.1.2.1.length .shared)::(I p1.1.2.2.1)::(I p1.1.2.2.2)::(.lst (p1.2.1.flatMap pr) p1.2.1.length .shared)::(.lst (p1.2.2.1.map I) p1.2.2.1.length .shared)::(p1.2.2.2.map I))),u10,(.ptr 3 0),(.lst (z2.flatMap E_turn) z2.length (.uniq 3)),(I (ix panels (ix (ix turns s4) (0:Int))).1),(I (w (s3+((ix turns s4).length:Int)))),J,u16,u17,u18,u19,u20,u21,u22,u23,u24,u25,u26,u27,u28,u29,u30,u31,u32,u33,(.lst (turns.map L1) turns.length .shared),(I (turns.length:Int)),(I s4),u37,u38,u39,u40,u41,u42,u43,u44,u45,u46,u47,u48,u49,u50,u51,u52,u53,u54,u55,u56,u57,u58,u59,u60,u61,u62,u63,u64,u65,u66,u67,u68,u69,u70,u71,u72,u73,u74,u75,u76,u77,u78,u79,u80,u81,u82,u83,u84,u85,u86,u87,u88,u89,u90,u91,u92,u93,u94,u95,u96,u97,u98,u99,u100,u101,u102,u103,u104,u105,u106,u107,u108,u109,u110,u111,u112,u113,u114,u115] (o1::AObj.cells [(.lst (panels.flatMap pr) panels.length .shared)]::AObj.cells (z3.map I)::AObj.cells [(.ref 2 0 (panels.length:Int).toNat (some (panels.length:Int).toNat) 1)]::Yq)) (h:x65_j5 panels turns p1 s1 s2 s4 s5 kj5_0  = some v) :
  wpR Tryz.prog ann65 65 0 none xrc65_4 [u0,u1,u2,u3,(.ptr 1 0),J,u6,u7,u8,(.lptr ((I p1.1.1)::(.lst (p1.1.2.1.map I) p1.1.2.1.length .shared)::(I p1.1.2.2.1)::(I p1.1.2.2.2)::(.lst (p1.2.1.flatMap pr) p1.2.1.length .shared)::(.lst (p1.2.2.1.map I) p1.2.2.1.length .shared)::(p1.2.2.2.map I))),u10,(.ptr 3 0),(.lst (s1.flatMap E_turn) s1.length (.uniq 3)),(I s2),(I s3),J,(.ptr (o1::AObj.cells [(.lst (panels.flatMap pr) panels.length .shared)]::AObj.cells (s5.map I)::AObj.cells [(.ref 2 0 (panels.length:Int).toNat (some (panels.length:Int).toNat) 1)]::Y65_1).length 0),u17,u18,u19,u20,u21,u22,u23,u24,u25,u26,u27,u28,u29,u30,u31,u32,u33,(.lst (turns.map L1) turns.length .shared),(I (turns.length:Int)),(I s4),u37,u38,u39,u40,u41,u42,u43,u44,u45,u46,u47,u48,u49,u50,u51,u52,u53,u54,u55,u56,u57,u58,u59,u60,u61,u62,u63,u64,u65,u66,u67,u68,u69,u70,u71,u72,u73,u74,u75,u76,u77,u78,u79,u80,u81,u82,u83,u84,u85,u86,u87,u88,u89,u90,u91,u92,u93,u94,u95,u96,u97,u98,u99,u100,u101,u102,u103,u104,u105,u106,u107,u108,u109,u110,u111,u112,u113,u114,u115] ((o1::AObj.cells [(.lst (panels.flatMap pr) panels.length .shared)]::AObj.cells (s5.map I)::AObj.cells [(.ref 2 0 (panels.length:Int).toNat (some (panels.length:Int).toNat) 1)]::Y65_1)++[AObj.cells [(.lst ((ix turns s4).map I) (ix turns s4).length .shared)]]) Q:=by
 unfold x65_j5 at h
 unfold xrc65_4
 obtain ⟨c_3,g_3⟩:∃ c,xrc65_3=c:=⟨_,rfl⟩
 rw [g_3]
 conv=>whnf
 refine nthK_of (x:=AObj.cells [(.lst ((ix turns s4).map I) (ix turns s4).length .shared)]) (by first | with_reducible exact get_concat _ _ | exact get_concat _ _ | exact ga (get_concat _ _) | rfl | (simp [List.getElem?_append,AV.settle];done)) ?_
 conv=>whnf
 subst g_3
 refine x65_l6_ok ?_ (by exact rfl) h
 intro z1 u0 u1 u2 u3 u6 u7 u8 u10 u17 u18 u19 u20 u21 u22 u23 u24 u25 u26 u27 u28 u29 u30 u31 u32 u33 u37 u38 u39 u40 u41 u42 u43 u44 u45 u46 u47 u48 u49 u50 u51 u52 u53 u54 u55 u56 u57 u58 u59 u60 u61 u62 u63 u64 u65 u66 u67 u68 u69 u70 u71 u72 u73 u74 u75 u76 u77 u78 u79 u80 u81 u82 u83 u84 u85 u86 u87 u88 u89 u90 u91 u92 u93 u94 u95 u96 u97 u98 u99 u100 u101 u102 u103 u104 u105 u106 u107 u108 u109 u110 u111 u112 u113 u114 u115 h
 conv=>whnf
 refine nthK_of (x:=AObj.cells [(.lst ((ix turns s4).map I) (ix turns s4).length .shared)]) (by first | with_reducible exact get_concat _ _ | exact get_concat _ _ | exact ga (get_concat _ _) | rfl | (simp [List.getElem?_append,AV.settle];done)) ?_
 conv=>whnf
 refine nthK_of (x:=AObj.cells [(.lst ((ix turns s4).map I) (ix turns s4).length .shared)]) (by first | with_reducible exact get_concat _ _ | exact get_concat _ _ | exact ga (get_concat _ _) | rfl | (simp [List.getElem?_append,AV.settle];done)) ?_
 conv=>whnf
 obtain ⟨hb22,h⟩:=gd_some h
 refine ⟨hb22,?_⟩
 rw [drop1 I (ix turns s4) (0:Int) hb22]
 conv=>whnf
 obtain ⟨hb23,h⟩:=gd_some h
 refine ⟨hb23,?_⟩
 rw [dropS pr 2 pr_len panels (ix (ix turns s4) (0:Int)) hb23]
 conv=>whnf
 refine nthK_of (x:=AObj.cells [(.lst ((ix turns s4).map I) (ix turns s4).length .shared)]) (by first | with_reducible exact get_concat _ _ | exact get_concat _ _ | exact ga (get_concat _ _) | rfl | (simp [List.getElem?_append,AV.settle];done)) ?_
 conv=>whnf
 refine nthK_of (x:=AObj.cells [(.lst ((ix turns s4).map I) (ix turns s4).length .shared)]) (by first | with_reducible exact get_concat _ _ | exact get_concat _ _ | exact ga (get_concat _ _) | rfl | (simp [List.getElem?_append,AV.settle];done)) ?_
 conv=>whnf
 obtain ⟨r5,hb24,h⟩:=bd_some h
 refine ⟨(allc (pu_map (fun _=>rfl) _ _ _) (allc (pu_fn (allc (pu_lptr (allc rfl (allc (pu_map (fun _=>rfl) _ _ _) (allc rfl (allc rfl (allc (pu_flat (fun _=>(allc rfl (allc rfl rfl))) _ _ _) (allc (pu_map (fun _=>rfl) _ _ _) (pu_run (fun _=>rfl) _)))))))) rfl) rfl) rfl)),_,x91_ok (allc rfl (allc (pu_map (fun _=>rfl) _ _ _) (allc rfl (allc rfl (allc (pu_flat (fun _=>(allc rfl (allc rfl rfl))) _ _ _) (allc (pu_map (fun _=>rfl) _ _ _) (pu_run (fun _=>rfl) _))))))) (fun _ _ _ hy=>x92_ok hy) hb24,acc0,?_⟩
 conv=>whnf
 obtain ⟨hb25,h⟩:=gd_some h
 refine ⟨hb25,?_⟩
 rw [dropS pr 2 pr_len panels r5 hb25]
 conv=>whnf
 obtain ⟨r6,hb26,h⟩:=bd_some h
 refine ⟨(allc rfl (allc rfl rfl)),_,x93_ok hb26,accN rfl,?_⟩
 conv=>whnf
 obtain ⟨hb27,h⟩:=gd_some h
 refine ⟨by first | rfl | (simp;done) | exact flatLen E_turn _ E_turn_len _,by have:=hb27;omega,rfl,hb27,?_⟩
 erw [apndS E_turn s1 ((ix turns s4),(ix panels r5).2,r6)]
 conv=>whnf
 exact hkj5_0 _ _ _ _ _ _ _ _ _ _ _ _ _ _ _ _ _ _ _ _ _ _ _ _ _ _ _ _ _ _ _ _ _ _ _ _ _ _ _ _ _ _ _ _ _ _ _ _ _ _ _ _ _ _ _ _ _ _ _ _ _ _ _ _ _ _ _ _ _ _ _ _ _ _ _ _ _ _ _ _ _ _ _ _ _ _ _ _ _ _ _ _ _ _ _ _ _ _ _ _ _ _ _ _ _ _ _ _ h
theorem x65_l3_ok {panels:(List (Int×Int))} {turns:(List (List Int))} {p1:((Int×(List Int)×Int×Int)×(List (Int×Int))×(List Int)×(List Int))} {kl3_0:(List ((List Int)×Int×Int))→Int→Option ((Option ((Int×(List Int)×Int×Int)×(List (Int×Int))×(List Int)×(List Int)))×(List ((List Int)×Int×Int))×Int)} {s1:(List ((List Int)×Int×Int))} {s2:Int} {s3:Int} {s4:Int} {s5:(List Int)} {v:((Option ((Int×(List Int)×Int×Int)×(List (Int×Int))×(List Int)×(List Int)))×(List ((List Int)×Int×Int))×Int)} {Q:Ex→List AV→List AObj→Prop} {o1:AObj}  (hR:∀ T H,RetW [.tmp 6,.tmp 7,.tmp 8] (.tuple [(optP E_bench v.1),(.lst (v.2.1.flatMap E_turn) v.2.1.length .shared),(I v.2.2)]) .ret T H→Q .ret T H) (hkl3_0:∀ (z4:(List ((List Int)×Int×Int))) (z5:Int) (u0:AV) (u1:AV) (u2:AV) (u3:AV) (u6:AV) (u7:AV) (u8:AV) (u10:AV) (u11:AV) (u13:AV) (u16:AV) (u17:AV) (u18:AV) (u19:AV) (u20:AV) (u21:AV) (u22:AV) (u23:AV) (u24:AV) (u25:AV) (u26:AV) (u27:AV) (u28:AV) (u29:AV) (u30:AV) (u31:AV) (u32:AV) (u33:AV) (u34:AV) (u35:AV) (u36:AV) (u37:AV) (u38:AV) (u39:AV) (u40:AV) (u41:AV) (u42:AV) (u43:AV) (u44:AV) (u45:AV) (u46:AV) (u47:AV) (u48:AV) (u49:AV) (u50:AV) (u51:AV) (u52:AV) (u53:AV) (u54:AV) (u55:AV) (u56:AV) (u57:AV) (u58:AV) (u59:AV) (u60:AV) (u61:AV) (u62:AV) (u63:AV) (u64:AV) (u65:AV) (u66:AV) (u67:AV) (u68:AV) (u69:AV) (u70:AV) (u71:AV) (u72:AV) (u73:AV) (u74:AV) (u75:AV) (u76:AV) (u77:AV) (u78:AV) (u79:AV) (u80:AV) (u81:AV) (u82:AV) (u83:AV) (u84:AV) (u85:AV) (u86:AV) (u87:AV) (u88:AV) (u89:AV) (u90:AV) (u91:AV) (u92:AV) (u93:AV) (u94:AV) (u95:AV) (u96:AV) (u97:AV) (u98:AV) (u99:AV) (u100:AV) (u101:AV) (u102:AV) (u103:AV) (u104:AV) (u105:AV) (u106:AV) (u107:AV) (u108:AV) (u109:AV) (u110:AV) (u111:AV) (u112:AV) (u113:AV) (u114:AV) (u115:AV) (o6:AObj) (o7:AObj) (Yq:List AObj),kl3_0 z4 z5=some v→Q (.exit 0) [u0,u1,u2,u3,(.ptr 1 0),J,u6,u7,u8,(.lptr ((I p1.1.1)::(.lst (p1.1.2.1.map I) p1.1.2.1.length .shared)::(I p1.1.2.2.1)::(I p1.1.2.2.2)::(.lst (p1.2.1.flatMap pr) p1.2.1.length .shared)::(.lst (p1.2.2.1.map I) p1.2.2.1.length .shared)::(p1.2.2.2.map I))),u10,u11,(.lst (z4.flatMap E_turn) z4.length (.uniq 3)),u13,(I z5),J,u16,u17,u18,u19,u20,u21,u22,u23,u24,u25,u26,u27,u28,u29,u30,u31,u32,u33,u34,u35,u36,u37,u38,u39,u40,u41,u42,u43,u44,u45,u46,u47,u48,u49,u50,u51,u52,u53,u54,u55,u56,u57,u58,u59,u60,u61,u62,u63,u64,u65,u66,u67,u68,u69,u70,u71,u72,u73,u74,u75,u76,u77,u78,u79,u80,u81,u82,u83,u84,u85,u86,u87,u88,u89,u90,u91,u92,u93,u94,u95,u96,u97,u98,u99,u100,u101,u102,u103,u104,u105,u106,u107,u108,u109,u110,u111,u112,u113,u114,u115] (o1::AObj.cells [(.lst (panels.flatMap pr) panels.length .shared)]::o6::o7::Yq)) {T:List AV} (hT:zipKeep [o_,o_,o_,o_,i_,o_,o_,o_,o_,i_,o_,i_,i_,i_,i_,o_,o_,o_,o_,o_,o_,o_,o_,o_,o_,o_,o_,o_,o_,o_,o_,o_,o_,o_,i_,i_,i_,o_,o_,o_,o_,o_,o_,o_,o_,o_,o_,o_,o_,o_,o_,o_,o_,o_,o_,o_,o_,o_,o_,o_,o_,o_,o_,o_,o_,o_,o_,o_,o_,o_,o_,o_,o_,o_,o_,o_,o_,o_,o_,o_,o_,o_,o_,o_,o_,o_,o_,o_,o_,o_,o_,o_,o_,o_,o_,o_,o_,o_,o_,o_,o_,o_,o_,o_,o_,o_,o_,o_,o_,o_,o_,o_,o_,o_,o_,o_] T=slots 116 [(4,(.ptr 1 0)),(9,(.lptr ((I p1.1.1)::(.lst (p1.1.2.1.map I) p1.1.2.1.length .shared)::(I p1.1.2.2.1)::(I p1.1.2.2.2)::(.lst (p1.2.1.flatMap pr) p1.2.1.length .shared)::(.lst (p1.2.2.1.map I) p1.2.2.1.length .shared)::(p1.2.2.2.map I)))),(11,(.ptr 3 0)),(12,(.lst (s1.flatMap E_turn) s1.length (.uniq 3))),(13,(I s2)),(14,(I s3)),(34,(.lst (turns.map L1) turns.length .shared)),(35,(I (turns.length:Int))),(36,(I s4))]) (h:x65_l3 panels turns p1 kl3_0 FU s1 s2 s3 s4 s5=some v) :
  wpR Tryz.prog ann65 65 0 none xrc65_2 T [o1,AObj.cells [(.lst (panels.flatMap pr) panels.length .shared)],AObj.cells (s5.map I),AObj.cells [(.ref 2 0 (panels.length:Int).toNat (some (panels.length:Int).toNat) 1)]] Q:=by
 unfold xrc65_2
 obtain ⟨c_1,g_1⟩:∃ c,xrc65_1=c:=⟨_,rfl⟩
 rw [g_1]
 obtain ⟨c_4,g_4⟩:∃ c,xrc65_4=c:=⟨_,rfl⟩
 rw [g_4]
 refine wp_loop hT ?_
 refine .intro (fun m T H=>∃ (s1:(List ((List Int)×Int×Int))) (s2:Int) (s3:Int) (s4:Int) (s5:(List Int)) (Y65_1:List AObj),T=slots 116 [(4,(.ptr 1 0)),(9,(.lptr ((I p1.1.1)::(.lst (p1.1.2.1.map I) p1.1.2.1.length .shared)::(I p1.1.2.2.1)::(I p1.1.2.2.2)::(.lst (p1.2.1.flatMap pr) p1.2.1.length .shared)::(.lst (p1.2.2.1.map I) p1.2.2.1.length .shared)::(p1.2.2.2.map I)))),(11,(.ptr 3 0)),(12,(.lst (s1.flatMap E_turn) s1.length (.uniq 3))),(13,(I s2)),(14,(I s3)),(34,(.lst (turns.map L1) turns.length .shared)),(35,(I (turns.length:Int))),(36,(I s4))]∧H=(o1::AObj.cells [(.lst (panels.flatMap pr) panels.length .shared)]::AObj.cells (s5.map I)::AObj.cells [(.ref 2 0 (panels.length:Int).toNat (some (panels.length:Int).toNat) 1)]::Y65_1)∧x65_l3 panels turns p1 kl3_0 m s1 s2 s3 s4 s5=some v) FU ⟨s1,s2,s3,s4,s5,[],rfl,rfl,h⟩ ?_
 clear h hT
 rintro m T H ⟨s1,s2,s3,s4,s5,Y65_1,rfl,rfl,h⟩
 cases m
 ·exact none_ne h
 rename_i m
 rw [x65_l3.eq_2] at h
 conv=>whnf
 rcases bt (decide (s4<(turns.length:Int))) with hb11 | hb11
 ·rw [hb11]
  conv=>whnf
  replace h:=it_t hb11 h
  obtain ⟨hb12,h⟩:=gd_some h
  refine ⟨hb12,?_⟩
  rw [drop1 L1 turns s4 hb12]
  conv=>whnf
  refine nthK_of (x:=AObj.cells [(.lst [] 0 .full)]) (by first | with_reducible exact get_concat _ _ | exact get_concat _ _ | exact ga (get_concat _ _) | rfl | (simp [List.getElem?_append,AV.settle];done)) ?_
  conv=>whnf
  rw [set_concat]
  refine nthK_of (x:=AObj.cells [(.lst ((ix turns s4).map I) (ix turns s4).length .shared)]) (by first | with_reducible exact get_concat _ _ | exact get_concat _ _ | exact ga (get_concat _ _) | rfl | (simp [List.getElem?_append,AV.settle];done)) ?_
  conv=>whnf
  rcases bt (decide (((ix turns s4).length:Int)=(0:Int))) with hb13 | hb13
  ·rw [hb13]
   conv=>whnf
   replace h:=it_t hb13 h
   subst g_1
   refine x65_j4_ok ?_ ?_ h
   ·exact fun T H hh=>hR T H hh
   ·intro u0 u1 u2 u3 u6 u7 u8 u10 u17 u18 u19 u20 u21 u22 u23 u24 u25 u26 u27 u28 u29 u30 u31 u32 u33 u37 u38 u39 u40 u41 u42 u43 u44 u45 u46 u47 u48 u49 u50 u51 u52 u53 u54 u55 u56 u57 u58 u59 u60 u61 u62 u63 u64 u65 u66 u67 u68 u69 u70 u71 u72 u73 u74 u75 u76 u77 u78 u79 u80 u81 u82 u83 u84 u85 u86 u87 u88 u89 u90 u91 u92 u93 u94 u95 u96 u97 u98 u99 u100 u101 u102 u103 u104 u105 u106 u107 u108 u109 u110 u111 u112 u113 u114 u115 h
    conv=>whnf
    subst g_4
    refine x65_j5_ok ?_ h
    intro z2 z3 u0 u1 u2 u3 u6 u7 u8 u10 u16 u17 u18 u19 u20 u21 u22 u23 u24 u25 u26 u27 u28 u29 u30 u31 u32 u33 u37 u38 u39 u40 u41 u42 u43 u44 u45 u46 u47 u48 u49 u50 u51 u52 u53 u54 u55 u56 u57 u58 u59 u60 u61 u62 u63 u64 u65 u66 u67 u68 u69 u70 u71 u72 u73 u74 u75 u76 u77 u78 u79 u80 u81 u82 u83 u84 u85 u86 u87 u88 u89 u90 u91 u92 u93 u94 u95 u96 u97 u98 u99 u100 u101 u102 u103 u104 u105 u106 u107 u108 u109 u110 u111 u112 u113 u114 u115 Yq h
    conv=>whnf
    exact ⟨m,Nat.lt_succ_self m,z2,(ix panels (ix (ix turns s4) (0:Int))).1,(w (s3+((ix turns s4).length:Int))),(w (s4+(1:Int))),z3,_,rfl,rfl,h⟩
  ·rw [hb13]
   conv=>whnf
   replace h:=it_f hb13 h
   refine nthK_of (x:=AObj.cells [(.lst ((ix turns s4).map I) (ix turns s4).length .shared)]) (by first | with_reducible exact get_concat _ _ | exact get_concat _ _ | exact ga (get_concat _ _) | rfl | (simp [List.getElem?_append,AV.settle];done)) ?_
   conv=>whnf
   obtain ⟨r7,hb28,h⟩:=bd_some h
   refine ⟨(allc (pu_map (fun _=>rfl) _ _ _) (allc rfl rfl)),_,x61_ok hb28,?_⟩
   conv=>whnf
   subst g_1
   refine x65_j4_ok ?_ ?_ h
   ·exact fun T H hh=>hR T H hh
   ·intro u0 u1 u2 u3 u6 u7 u8 u10 u17 u18 u19 u20 u21 u22 u23 u24 u25 u26 u27 u28 u29 u30 u31 u32 u33 u37 u38 u39 u40 u41 u42 u43 u44 u45 u46 u47 u48 u49 u50 u51 u52 u53 u54 u55 u56 u57 u58 u59 u60 u61 u62 u63 u64 u65 u66 u67 u68 u69 u70 u71 u72 u73 u74 u75 u76 u77 u78 u79 u80 u81 u82 u83 u84 u85 u86 u87 u88 u89 u90 u91 u92 u93 u94 u95 u96 u97 u98 u99 u100 u101 u102 u103 u104 u105 u106 u107 u108 u109 u110 u111 u112 u113 u114 u115 h
    conv=>whnf
    subst g_4
    refine x65_j5_ok ?_ h
    intro z2 z3 u0 u1 u2 u3 u6 u7 u8 u10 u16 u17 u18 u19 u20 u21 u22 u23 u24 u25 u26 u27 u28 u29 u30 u31 u32 u33 u37 u38 u39 u40 u41 u42 u43 u44 u45 u46 u47 u48 u49 u50 u51 u52 u53 u54 u55 u56 u57 u58 u59 u60 u61 u62 u63 u64 u65 u66 u67 u68 u69 u70 u71 u72 u73 u74 u75 u76 u77 u78 u79 u80 u81 u82 u83 u84 u85 u86 u87 u88 u89 u90 u91 u92 u93 u94 u95 u96 u97 u98 u99 u100 u101 u102 u103 u104 u105 u106 u107 u108 u109 u110 u111 u112 u113 u114 u115 Yq h
    conv=>whnf
    exact ⟨m,Nat.lt_succ_self m,z2,(ix panels (ix (ix turns s4) (0:Int))).1,(w (s3+((ix turns s4).length:Int))),(w (s4+(1:Int))),z3,_,rfl,rfl,h⟩
 ·rw [hb11]
  conv=>whnf
  replace h:=it_f hb11 h
  exact hkl3_0 _ _ _ _ _ _ _ _ _ _ _ _ _ _ _ _ _ _ _ _ _ _ _ _ _ _ _ _ _ _ _ _ _ _ _ _ _ _ _ _ _ _ _ _ _ _ _ _ _ _ _ _ _ _ _ _ _ _ _ _ _ _ _ _ _ _ _ _ _ _ _ _ _ _ _ _ _ _ _ _ _ _ _ _ _ _ _ _ _ _ _ _ _ _ _ _ _ _ _ _ _ _ _ _ _ _ _ _ _ _ _ _ _ _ _ h
theorem x65_ok {b:(Int×(List Int)×Int×Int)} {panels:(List (Int×Int))} {turns:(List (List Int))} {v:((Option ((Int×(List Int)×Int×Int)×(List (Int×Int))×(List Int)×(List Int)))×(List ((List Int)×Int×Int))×Int)} (h:x65 b panels turns=some v):PO 65 [(.agg [(I b.1),(.lst (b.2.1.map I) b.2.1.length .shared),(I b.2.2.1),(I b.2.2.2)]),(.lst (panels.flatMap pr) panels.length .shared),(.lst (turns.map L1) turns.length .shared)] (.tuple [(optP E_bench v.1),(.lst (v.2.1.flatMap E_turn) v.2.1.length .shared),(I v.2.2)]):=by
 refine fn_pureW hmix lxx65 rfl (pu_tup (allc (pu_opt (fun _=>(allc rfl (allc (pu_map (fun _=>rfl) _ _ _) (allc rfl (allc rfl (allc (pu_flat (fun _=>(allc rfl (allc rfl rfl))) _ _ _) (allc (pu_map (fun _=>rfl) _ _ _) (pu_run (fun _=>rfl) _)))))))) _) (allc (pu_flat (fun _=>(allc (pu_map (fun _=>rfl) _ _ _) (allc rfl (allc rfl rfl)))) _ _ _) (allc rfl rfl)))) fun Q hQ=>?_
 have hR:∀ T H,RetW [.tmp 6,.tmp 7,.tmp 8] (.tuple [(optP E_bench v.1),(.lst (v.2.1.flatMap E_turn) v.2.1.length .shared),(I v.2.2)]) .ret T H→Q .ret T H:=fun T H hh=>hQ _ T H hh
 unfold x65 at h
 unfold xrc65
 obtain ⟨c_2,g_2⟩:∃ c,xrc65_2=c:=⟨_,rfl⟩
 rw [g_2]
 conv=>whnf
 obtain ⟨r1,hb1,h⟩:=bd_some h
 rcases r1 with ⟨_ | p1,q1⟩
 ·refine ⟨(allc (pu_agg (allc rfl (allc (pu_map (fun _=>rfl) _ _ _) (allc rfl (allc rfl rfl))))) (allc (pu_flat (fun _=>(allc rfl (allc rfl rfl))) _ _ _) rfl)),_,x69_ok hb1,?_⟩
  conv=>whnf
  rcases bt (decide (q1≠(0:Int))) with hb2 | hb2
  ·rw [hb2]
   conv=>whnf
   replace h:=it_t hb2 h
   obtain rfl:=Option.some.inj h
   exact hR _ _ ⟨.inr rfl,_,rfl,_,frz_pure (pu_tup (allc rfl (allc rfl (allc rfl rfl)))),rfl⟩
  ·rw [hb2]
   conv=>whnf
   replace h:=it_f hb2 h
   obtain ⟨hb3,h⟩:=gd_some h
   refine ⟨hb3.1,hb3.2.1,hb3.2.2,?_⟩
   rw [replMap I (0:Int)]
   conv=>whnf
   subst g_2
   refine x65_l1_ok ?_ ?_ (by exact rfl) h
   ·exact fun T H hh=>hR T H hh
   ·intro u0 u1 u2 u3 u6 u7 u8 u10 u11 u13 u16 u17 u18 u19 u20 u21 u22 u23 u24 u25 u26 u27 u28 u29 u30 u31 u32 u33 u34 u35 u36 u37 u38 u39 u40 u41 u42 u43 u44 u45 u46 u47 u48 u49 u50 u51 u52 u53 u54 u55 u56 u57 u58 u59 u60 u61 u62 u63 u64 u65 u66 u67 u68 u69 u70 u71 u72 u73 u74 u75 u76 u77 u78 u79 u80 u81 u82 u83 u84 u85 u86 u87 u88 u89 u90 u91 u92 u93 u94 u95 u96 u97 u98 u99 u100 u101 u102 u103 u104 u105 u106 u107 u108 u109 u110 u111 u112 u113 u114 u115 o3 o4 h
    conv=>whnf
    rcases bt (decide ((0:Int)<(panels.length:Int))) with hb8 | hb8
    ·rw [hb8]
     conv=>whnf
     replace h:=it_t hb8 h
     obtain rfl:=Option.some.inj h
     exact hR _ _ ⟨.inr rfl,_,rfl,_,frz_pure (pu_tup (allc rfl (allc rfl (allc rfl rfl)))),rfl⟩
    ·rw [hb8]
     conv=>whnf
     replace h:=it_f hb8 h
     obtain rfl:=Option.some.inj h
     exact hR _ _ ⟨.inr rfl,_,rfl,_,frz_pure (pu_tup (allc rfl (allc rfl (allc rfl rfl)))),rfl⟩
 ·refine ⟨(allc (pu_agg (allc rfl (allc (pu_map (fun _=>rfl) _ _ _) (allc rfl (allc rfl rfl))))) (allc (pu_flat (fun _=>(allc rfl (allc rfl rfl))) _ _ _) rfl)),_,x69_ok hb1,?_⟩
  conv=>whnf
  rcases bt (decide (q1≠(0:Int))) with hb9 | hb9
  ·rw [hb9]
   conv=>whnf
   replace h:=it_t hb9 h
   obtain rfl:=Option.some.inj h
   exact hR _ _ ⟨.inr rfl,_,rfl,_,frz_pure (pu_tup (allc rfl (allc rfl (allc rfl rfl)))),rfl⟩
  ·rw [hb9]
   conv=>whnf
   replace h:=it_f hb9 h
   obtain ⟨hb10,h⟩:=gd_some h
   refine ⟨hb10.1,hb10.2.1,hb10.2.2,?_⟩
   rw [replMap I (0:Int)]
   conv=>whnf
   subst g_2
   refine x65_l3_ok ?_ ?_ (by exact rfl) h
   ·exact fun T H hh=>hR T H hh
   ·intro z4 z5 u0 u1 u2 u3 u6 u7 u8 u10 u11 u13 u16 u17 u18 u19 u20 u21 u22 u23 u24 u25 u26 u27 u28 u29 u30 u31 u32 u33 u34 u35 u36 u37 u38 u39 u40 u41 u42 u43 u44 u45 u46 u47 u48 u49 u50 u51 u52 u53 u54 u55 u56 u57 u58 u59 u60 u61 u62 u63 u64 u65 u66 u67 u68 u69 u70 u71 u72 u73 u74 u75 u76 u77 u78 u79 u80 u81 u82 u83 u84 u85 u86 u87 u88 u89 u90 u91 u92 u93 u94 u95 u96 u97 u98 u99 u100 u101 u102 u103 u104 u105 u106 u107 u108 u109 u110 u111 u112 u113 u114 u115 o6 o7 Yq h
    conv=>whnf
    rcases bt (decide (z5<(panels.length:Int))) with hb29 | hb29
    ·rw [hb29]
     conv=>whnf
     replace h:=it_t hb29 h
     obtain rfl:=Option.some.inj h
     exact hR _ _ ⟨.inr rfl,_,rfl,_,frz_pure (pu_tup (allc rfl (allc rfl (allc rfl rfl)))),rfl⟩
    ·rw [hb29]
     conv=>whnf
     replace h:=it_f hb29 h
     obtain rfl:=Option.some.inj h
     exact hR _ _ ⟨.inr rfl,_,rfl,_,frz_pure (pu_tup (allc (pu_lptr (allc rfl (allc (pu_map (fun _=>rfl) _ _ _) (allc rfl (allc rfl (allc (pu_flat (fun _=>(allc rfl (allc rfl rfl))) _ _ _) (allc (pu_map (fun _=>rfl) _ _ _) (pu_run (fun _=>rfl) _)))))))) (allc (pu_flat (fun _=>(allc (pu_map (fun _=>rfl) _ _ _) (allc rfl (allc rfl rfl)))) _ _ _) (allc rfl rfl)))),rfl⟩

noncomputable def xrc26_10:RC :=
 .reg false [I_ 34 [.tk 13] .mv,I_ 35 [.tv 15] (.fa 2),I_ 36 [.tv 35] (.ld .one),I_ 37 [.tv 34,.tv 36] (.bin .add),I_ 13 [.tk 37] .mv]
noncomputable def xrc26_9:RC :=
 .seq (.reg false [I_ 30 [.tk 12] .mv,I_ 31 [.sl 15] (.fa 1),I_ 32 [.tv 31] (.ld .one),I_ 33 [.tv 30,.tv 32] (.bin .add),I_ 12 [.tk 33] .mv]) xrc26_10
noncomputable def xrc26_8:RC :=
 .reg false [I_ 38 [.tv 26,.cv (.int .i64 1)] (.bin .add),I_ 26 [.tk 38] .mv]
noncomputable def xrc26_7:RC :=
 .seq (.block 1 (.seq (.reg false [I_ 28 [.sl 24,.sl 26] (.ia 3),I_ 29 [.tv 28] (.ld (.str 3)),I_ 15 [] (.alloc [.lst [] 0 .full,.int .i64 0,.int .i64 0]),⟨none,[.sl 15,.tk 29],none,none,.st 3⟩]) xrc26_9)) xrc26_8
noncomputable def xrc26_6:RC :=
 .seq (.cond (.sl 27) .skip (.exit 0)) xrc26_7
noncomputable def xrc26_11:RC :=
 .loop (some [o_,o_,o_,o_,o_,o_,o_,o_,o_,o_,o_,i_,i_,i_,o_,o_,o_,o_,o_,o_,o_,o_,o_,o_,i_,i_,i_,o_,o_,o_,o_,o_,o_,o_,o_,o_,o_,o_,o_,o_,o_,o_]) (.seq (.reg false [I_ 27 [.sl 26,.sl 25] (.bin .lss)]) xrc26_6)
noncomputable def xrc26_5:RC :=
 .block 0 xrc26_11
noncomputable def xrc26_4:RC :=
 .seq (.reg false [I_ 39 [.tk 12] .mv,I_ 40 [.tk 13] .mv,I_ 41 [.tk 11] .mv,I_ 6 [.tk 39] .mv,I_ 7 [.tk 40] .mv,I_ 8 [.tk 41] .mv]) .ret
noncomputable def xrc26_3:RC :=
 .seq (.seq (.reg false [I_ 24 [.tk 10] .mv,I_ 25 [.sl 24] .lenS,I_ 26 [.cv (.int .i64 0)] .mv]) xrc26_5) xrc26_4
noncomputable def xrc26_2:RC :=
 .seq (.reg false [I_ 12 [.cv (.int .i64 0)] .mv,I_ 13 [.cv (.int .i64 0)] .mv]) xrc26_3
noncomputable def xrc26_1:RC :=
 .seq (.reg false [I_ 17 [.tv 3] (.ld (.str 4)),I_ 18 [.tk 1] .mv,I_ 19 [.tk 2] .mv,I_ 20 [.cv (.func 65 [] []),.sl 17,.sl 18,.sl 19] (.call 3),I_ 16 [.tk 20] .mv,I_ 21 [.sl 16] (.ext 0),I_ 22 [.sl 16] (.ext 1),I_ 23
 [.tv 16] (.ext 2),I_ 9 [.tk 21] .mv,I_ 10 [.tk 22] .mv,I_ 11 [.tk 23] .mv]) xrc26_2
noncomputable def xrc26:RC :=
 .seq (.reg false [I_ 3 [.tk 0] .box,I_ 6 [.cv (.int .i64 0)] .mv,I_ 7 [.cv (.int .i64 0)] .mv,I_ 8 [.cv (.int .i64 0)] .mv]) xrc26_1
theorem lxx26:linkF Tryz.prog ann26 26=some (xrc26,42,[.tmp 6,.tmp 7,.tmp 8]):=by kernel_rfl
def x26_l1 (q1:((List ((List Int)×Int×Int))×Int)) (kl1_0:Int→Int→Option (Int×Int×Int)):Nat→Int→Int→Int→Option (Int×Int×Int)
 | 0,_,_,_=>none
 | m+1,s1,s2,s3 =>
   if (decide (s3<(q1.1.length:Int)))=true then
    gd (0≤s3∧s3<(q1.1.length:Int)) <|
    x26_l1 q1 kl1_0 m (w (s1+(ix q1.1 s3).2.1)) (w (s2+(ix q1.1 s3).2.2)) (w (s3+(1:Int)))
   else
    kl1_0 s1 s2
def x26 (b:(Int×(List Int)×Int×Int)) (panels:(List (Int×Int))) (turns:(List (List Int))):Option (Int×Int×Int) :=
 (x65 b panels turns).bind fun r1 =>
 match r1 with
 | (none,q1) =>
   x26_l1 q1 (fun z1 z2 =>
     some (z1,z2,q1.2)) FU (0:Int) (0:Int) (0:Int)
 | (some p1,q1) =>
   x26_l1 q1 (fun z3 z4 =>
     some (z3,z4,q1.2)) FU (0:Int) (0:Int) (0:Int)
theorem x26_l1_ok {q1:((List ((List Int)×Int×Int))×Int)} {kl1_0:Int→Int→Option (Int×Int×Int)} {s1:Int} {s2:Int} {s3:Int} {v:(Int×Int×Int)} {Q:Ex→List AV→List AObj→Prop} {o1:AObj}  (hkl1_0:∀ (z1:Int) (z2:Int) (u0:AV) (u1:AV) (u2:AV) (u3:AV) (u6:AV) (u7:AV) (u8:AV) (u9:AV) (u10:AV) (u15:AV) (u16:AV) (u17:AV) (u18:AV) (u19:AV) (u20:AV) (u21:AV) (u22:AV) (u23:AV) (u24:AV) (u25:AV) (u26:AV) (u27:AV) (u28:AV) (u29:AV) (u30:AV) (u31:AV) (u32:AV) (u33:AV) (u34:AV) (u35:AV) (u36:AV) (u37:AV) (u38:AV) (u39:AV) (u40:AV) (u41:AV) (Yq:List AObj),kl1_0 z1 z2=some v→Q (.exit 0) [u0,u1,u2,u3,J,J,u6,u7,u8,u9,u10,(I q1.2),(I z1),(I z2),J,u15,u16,u17,u18,u19,u20,u21,u22,u23,u24,u25,u26,u27,u28,u29,u30,u31,u32,u33,u34,u35,u36,u37,u38,u39,u40,u41] (o1::Yq)) {T:List AV} (hT:zipKeep [o_,o_,o_,o_,o_,o_,o_,o_,o_,o_,o_,i_,i_,i_,o_,o_,o_,o_,o_,o_,o_,o_,o_,o_,i_,i_,i_,o_,o_,o_,o_,o_,o_,o_,o_,o_,o_,o_,o_,o_,o_,o_] T=slots 42 [(11,(I q1.2)),(12,(I s1)),(13,(I s2)),(24,(.lst (q1.1.flatMap E_turn) q1.1.length .shared)),(25,(I (q1.1.length:Int))),(26,(I s3))]) (h:x26_l1 q1 kl1_0 FU s1 s2 s3=some v) :
  wpR Tryz.prog ann26 26 0 none xrc26_11 T [o1] Q:=by
 unfold xrc26_11
 obtain ⟨c_6,g_6⟩:∃ c,xrc26_6=c:=⟨_,rfl⟩
 rw [g_6]
 refine wp_loop hT ?_
 refine .intro (fun m T H=>∃ (s1:Int) (s2:Int) (s3:Int) (Y26_1:List AObj),T=slots 42 [(11,(I q1.2)),(12,(I s1)),(13,(I s2)),(24,(.lst (q1.1.flatMap E_turn) q1.1.length .shared)),(25,(I (q1.1.length:Int))),(26,(I s3))]∧H=(o1::Y26_1)∧x26_l1 q1 kl1_0 m s1 s2 s3=some v) FU ⟨s1,s2,s3,[],rfl,rfl,h⟩ ?_
 clear h hT
 rintro m T H ⟨s1,s2,s3,Y26_1,rfl,rfl,h⟩
 cases m
 ·exact none_ne h
 rename_i m
 rw [x26_l1.eq_2] at h
 conv=>whnf
 subst g_6
 unfold xrc26_6
 obtain ⟨c_7,g_7⟩:∃ c,xrc26_7=c:=⟨_,rfl⟩
 rw [g_7]
 conv=>whnf
 rcases bt (decide (s3<(q1.1.length:Int))) with hb2 | hb2
 ·rw [hb2]
  conv=>whnf
  replace h:=it_t hb2 h
  subst g_7
  unfold xrc26_7
  obtain ⟨c_8,g_8⟩:∃ c,xrc26_8=c:=⟨_,rfl⟩
  rw [g_8]
  obtain ⟨c_9,g_9⟩:∃ c,xrc26_9=c:=⟨_,rfl⟩
  rw [g_9]
  conv=>whnf
  obtain ⟨hb3,h⟩:=gd_some h
  refine ⟨hb3,?_⟩
  rw [dropS E_turn 3 E_turn_len q1.1 s3 hb3]
  conv=>whnf
  refine nthK_of (x:=AObj.cells [(.lst [] 0 .full),(I (0:Int)),(I (0:Int))]) (by first | with_reducible exact get_concat _ _ | exact get_concat _ _ | exact ga (get_concat _ _) | rfl | (simp [List.getElem?_append,AV.settle];done)) ?_
  conv=>whnf
  rw [set_concat]
  subst g_9
  unfold xrc26_9
  obtain ⟨c_10,g_10⟩:∃ c,xrc26_10=c:=⟨_,rfl⟩
  rw [g_10]
  conv=>whnf
  refine nthK_of (x:=AObj.cells [(.lst (((ix q1.1 s3).1).map I) ((ix q1.1 s3).1).length .shared),(I (ix q1.1 s3).2.1),(I (ix q1.1 s3).2.2)]) (by first | with_reducible exact get_concat _ _ | exact get_concat _ _ | exact ga (get_concat _ _) | rfl | (simp [List.getElem?_append,AV.settle];done)) ?_
  conv=>whnf
  subst g_10
  unfold xrc26_10
  skip
  conv=>whnf
  refine nthK_of (x:=AObj.cells [(.lst (((ix q1.1 s3).1).map I) ((ix q1.1 s3).1).length .shared),(I (ix q1.1 s3).2.1),(I (ix q1.1 s3).2.2)]) (by first | with_reducible exact get_concat _ _ | exact get_concat _ _ | exact ga (get_concat _ _) | rfl | (simp [List.getElem?_append,AV.settle];done)) ?_
  conv=>whnf
  subst g_8
  unfold xrc26_8
  skip
  conv=>whnf
  exact ⟨m,Nat.lt_succ_self m,(w (s1+(ix q1.1 s3).2.1)),(w (s2+(ix q1.1 s3).2.2)),(w (s3+(1:Int))),_,rfl,rfl,h⟩
 ·rw [hb2]
  conv=>whnf
  replace h:=it_f hb2 h
  exact hkl1_0 _ _ _ _ _ _ _ _ _ _ _ _ _ _ _ _ _ _ _ _ _ _ _ _ _ _ _ _ _ _ _ _ _ _ _ _ _ _ _ h
theorem x26_ok {b:(Int×(List Int)×Int×Int)} {panels:(List (Int×Int))} {turns:(List (List Int))} {v:(Int×Int×Int)} (h:x26 b panels turns=some v):PO 26 [(.agg [(I b.1),(.lst (b.2.1.map I) b.2.1.length .shared),(I b.2.2.1),(I b.2.2.2)]),(.lst (panels.flatMap pr) panels.length .shared),(.lst (turns.map L1) turns.length .shared)] (.tuple [(I v.1),(I v.2.1),(I v.2.2)]):=by
 refine fn_pureW hmix lxx26 rfl (pu_tup (allc rfl (allc rfl (allc rfl rfl)))) fun Q hQ=>?_
 have hR:∀ T H,RetW [.tmp 6,.tmp 7,.tmp 8] (.tuple [(I v.1),(I v.2.1),(I v.2.2)]) .ret T H→Q .ret T H:=fun T H hh=>hQ _ T H hh
 unfold x26 at h
 unfold xrc26
 obtain ⟨c_1,g_1⟩:∃ c,xrc26_1=c:=⟨_,rfl⟩
 rw [g_1]
 conv=>whnf
 subst g_1
 unfold xrc26_1
 obtain ⟨c_2,g_2⟩:∃ c,xrc26_2=c:=⟨_,rfl⟩
 rw [g_2]
 conv=>whnf
 obtain ⟨r1,hb1,h⟩:=bd_some h
 rcases r1 with ⟨_ | p1,q1⟩
 ·refine ⟨(allc (pu_agg (allc rfl (allc (pu_map (fun _=>rfl) _ _ _) (allc rfl (allc rfl rfl))))) (allc (pu_flat (fun _=>(allc rfl (allc rfl rfl))) _ _ _) (allc (pu_map (fun _=>(pu_map (fun _=>rfl) _ _ _)) _ _ _) rfl))),_,x65_ok hb1,?_⟩
  conv=>whnf
  subst g_2
  unfold xrc26_2
  obtain ⟨c_3,g_3⟩:∃ c,xrc26_3=c:=⟨_,rfl⟩
  rw [g_3]
  conv=>whnf
  subst g_3
  unfold xrc26_3
  obtain ⟨c_4,g_4⟩:∃ c,xrc26_4=c:=⟨_,rfl⟩
  rw [g_4]
  obtain ⟨c_5,g_5⟩:∃ c,xrc26_5=c:=⟨_,rfl⟩
  rw [g_5]
  conv=>whnf
  subst g_5
  unfold xrc26_5
  obtain ⟨c_11,g_11⟩:∃ c,xrc26_11=c:=⟨_,rfl⟩
  rw [g_11]
  conv=>whnf
  subst g_11
  refine x26_l1_ok ?_ (by exact rfl) h
  intro z1 z2 u0 u1 u2 u3 u6 u7 u8 u9 u10 u15 u16 u17 u18 u19 u20 u21 u22 u23 u24 u25 u26 u27 u28 u29 u30 u31 u32 u33 u34 u35 u36 u37 u38 u39 u40 u41 Yq h
  conv=>whnf
  subst g_4
  unfold xrc26_4
  skip
  conv=>whnf
  obtain rfl:=Option.some.inj h
  exact hR _ _ ⟨.inr rfl,_,rfl,_,frz_pure (pu_tup (allc rfl (allc rfl (allc rfl rfl)))),rfl⟩
 ·refine ⟨(allc (pu_agg (allc rfl (allc (pu_map (fun _=>rfl) _ _ _) (allc rfl (allc rfl rfl))))) (allc (pu_flat (fun _=>(allc rfl (allc rfl rfl))) _ _ _) (allc (pu_map (fun _=>(pu_map (fun _=>rfl) _ _ _)) _ _ _) rfl))),_,x65_ok hb1,?_⟩
  conv=>whnf
  subst g_2
  unfold xrc26_2
  obtain ⟨c_3,g_3⟩:∃ c,xrc26_3=c:=⟨_,rfl⟩
  rw [g_3]
  conv=>whnf
  subst g_3
  unfold xrc26_3
  obtain ⟨c_4,g_4⟩:∃ c,xrc26_4=c:=⟨_,rfl⟩
  rw [g_4]
  obtain ⟨c_5,g_5⟩:∃ c,xrc26_5=c:=⟨_,rfl⟩
  rw [g_5]
  conv=>whnf
  subst g_5
  unfold xrc26_5
  obtain ⟨c_11,g_11⟩:∃ c,xrc26_11=c:=⟨_,rfl⟩
  rw [g_11]
  conv=>whnf
  subst g_11
  refine x26_l1_ok ?_ (by exact rfl) h
  intro z3 z4 u0 u1 u2 u3 u6 u7 u8 u9 u10 u15 u16 u17 u18 u19 u20 u21 u22 u23 u24 u25 u26 u27 u28 u29 u30 u31 u32 u33 u34 u35 u36 u37 u38 u39 u40 u41 Yq h
  conv=>whnf
  subst g_4
  unfold xrc26_4
  skip
  conv=>whnf
  obtain rfl:=Option.some.inj h
  exact hR _ _ ⟨.inr rfl,_,rfl,_,frz_pure (pu_tup (allc rfl (allc rfl (allc rfl rfl)))),rfl⟩

noncomputable def xrc52:RC :=
 .seq (.reg false [I_ 4 [.cv (.int .i64 0)] .mv]) (.seq (.reg false [I_ 5 [.sl 0] .mv,I_ 6 [.sl 1] .mv,I_ 7 [.tv 5,.tv 6] (.bin .sub),I_ 8 [.tk 1] .mv,I_ 9 [.tk 0] .mv,I_ 10 [.tv 8,.tv 9] (.bin .sub),I_ 11 [.tk 7,.tk 10]
 .max,I_ 4 [.tk 11] .mv]) .ret)
theorem lxx52:linkF Tryz.prog ann52 52=some (xrc52,12,[.tmp 4]):=by kernel_rfl
def x52 (a:Int) (b:Int):Option Int :=
 some (max (w (a-b)) (w (b-a)))
theorem x52_ok {a:Int} {b:Int} {v:Int} (h:x52 a b=some v):PO 52 [(I a),(I b)] (I v):=by
 refine fn_pureW hmix lxx52 rfl rfl fun Q hQ=>?_
 have hR:∀ T H,RetW [.tmp 4] (I v) .ret T H→Q .ret T H:=fun T H hh=>hQ _ T H hh
 unfold x52 at h
 unfold xrc52
 skip
 conv=>whnf
 obtain rfl:=Option.some.inj h
 exact hR _ _ ⟨.inr rfl,_,rfl,_,frz_pure rfl,rfl⟩

def x67_l2 (panels:(List (Int×Int))) (turns:(List (List Int))) (s2:Int) (kl2_0:Unit→Option Int):Nat→Int→Option Int
 | 0,_=>none
 | m+1,s3 =>
   if (decide (s3<((ix turns s2).length:Int)))=true then
    gd (0≤s3∧s3<((ix turns s2).length:Int)) <|
    gd (0≤(ix (ix turns s2) s3)∧(ix (ix turns s2) s3)<(panels.length:Int)) <|
    gd (0≤(0:Int)∧(0:Int)<((ix turns s2).length:Int)) <|
    gd (0≤(ix (ix turns s2) (0:Int))∧(ix (ix turns s2) (0:Int))<(panels.length:Int)) <|
    if (decide ((ix panels (ix (ix turns s2) s3)).1≠(ix panels (ix (ix turns s2) (0:Int))).1))=true then
     some (24:Int)
    else
     x67_l2 panels turns s2 kl2_0 m (w (s3+(1:Int)))
   else
    kl2_0 ()
def x67_l3 (turns:(List (List Int))) (s1:(List Int)) (s2:Int) (kl3_0:Unit→Option Int):Nat→Int→Option Int
 | 0,_=>none
 | m+1,s4 =>
   if (decide (s4<((ix turns s2).length:Int)))=true then
    gd (0≤s4∧s4<((ix turns s2).length:Int)) <|
    (x53 s1 (ix (ix turns s2) s4)).bind fun r3 =>
    if r3=true then
     some (16:Int)
    else
     x67_l3 turns s1 s2 kl3_0 m (w (s4+(1:Int)))
   else
    kl3_0 ()
def x67_l1 (b:(Int×(List Int)×Int×Int)) (panels:(List (Int×Int))) (turns:(List (List Int))) (kl1_0:(List Int)→Option Int):Nat→(List Int)→Int→Option Int
 | 0,_,_=>none
 | m+1,s1,s2 =>
   if (decide (s2<(turns.length:Int)))=true then
    gd (0≤s2∧s2<(turns.length:Int)) <|
    if (decide (((ix turns s2).length:Int)=(0:Int)))=true then
     some (2:Int)
    else
     (x62 (ix turns s2) (panels.length:Int)).bind fun r1 =>
     if r1=true then
      (x51 b).bind fun r2 =>
      if (decide ((r2.length:Int)<((ix turns s2).length:Int)))=true then
       some (10:Int)
      else
       x67_l2 panels turns s2 (fun _ =>
         x67_l3 turns s1 s2 (fun _ =>
           gd ((s1.length+(ix turns s2).length)*8≤140737488355328) <|
           x67_l1 b panels turns kl1_0 m (s1++(ix turns s2)) (w (s2+(1:Int)))) FU (0:Int)) FU (0:Int)
     else
      some (2:Int)
   else
    kl1_0 s1
def x67 (b:(Int×(List Int)×Int×Int)) (panels:(List (Int×Int))) (turns:(List (List Int))):Option Int :=
 x67_l1 b panels turns (fun z1 =>
   if (decide ((z1.length:Int)<(panels.length:Int)))=true then
    some (14:Int)
   else
    some (0:Int)) FU ([]:List Int) (0:Int)

def x68_l1 (panels:(List (Int×Int))) (turn:(List Int)) (kl1_0:Int→Option Int):Nat→Int→Int→Option Int
 | 0,_,_=>none
 | m+1,s1,s2 =>
   if (decide (s2<(turn.length:Int)))=true then
    gd (0≤s2∧s2<(turn.length:Int)) <|
    gd (0≤(ix turn s2)∧(ix turn s2)<(panels.length:Int)) <|
    x68_l1 panels turn kl1_0 m (max s1 ((ix panels (ix turn s2)).2)) (w (s2+(1:Int)))
   else
    kl1_0 s1
def x68 (panels:(List (Int×Int))) (turn:(List Int)):Option Int :=
 x68_l1 panels turn (fun z1 =>
   some z1) FU (0:Int) (0:Int)

def x27_l1 (panels:(List (Int×Int))) (turns:(List (List Int))) (kl1_0:Int→Int→Option (Int×Int×Int)):Nat→Int→Int→Int→Int→Option (Int×Int×Int)
 | 0,_,_,_,_=>none
 | m+1,s1,s2,s3,s4 =>
   if (decide (s4<(turns.length:Int)))=true then
    gd (0≤s4∧s4<(turns.length:Int)) <|
    gd (0≤(0:Int)∧(0:Int)<((ix turns s4).length:Int)) <|
    gd (0≤(ix (ix turns s4) (0:Int))∧(ix (ix turns s4) (0:Int))<(panels.length:Int)) <|
    gd (0≤s4∧s4<(turns.length:Int)) <|
    (x68 panels (ix turns s4)).bind fun r5 =>
    (x52 s3 ((ix panels (ix (ix turns s4) (0:Int))).1)).bind fun r6 =>
    x27_l1 panels turns kl1_0 m (w (s1+r5)) (w (s2+r6)) ((ix panels (ix (ix turns s4) (0:Int))).1) (w (s4+(1:Int)))
   else
    kl1_0 s1 s2
def x27 (b:(Int×(List Int)×Int×Int)) (panels:(List (Int×Int))) (turns:(List (List Int))):Option (Int×Int×Int) :=
 (x66 b panels).bind fun r1 =>
 if (decide (r1≠(0:Int)))=true then
  (x66 b panels).bind fun r2 =>
  some ((0:Int),(0:Int),r2)
 else
  (x67 b panels turns).bind fun r3 =>
  if (decide (r3≠(0:Int)))=true then
   (x67 b panels turns).bind fun r4 =>
   some ((0:Int),(0:Int),r4)
  else
   x27_l1 panels turns (fun z1 z2 =>
     some (z1,z2,(0:Int))) FU (0:Int) (0:Int) b.2.2.1 (0:Int)

def heatT (ps:List (Int×Int)) (t:List Int):Int:=(ix ps (ix t 0)).1
def hourT (ps:List (Int×Int)) (t:List Int):Int:=maxL 0 (t.map fun x=>(ix ps x).2)
def tErr1 (n:Nat) (ps:List (Int×Int)) (dn t:List Int):Int :=
 if t.length=0 then 2 else if riseGo (ps.length:Int) 0 t=false then 2 else if n<t.length then 10
 else if (t.any fun x=>decide ((ix ps x).1≠(ix ps (ix t 0)).1))=true then 24 else if (t.any fun x=>decide (x∈dn))=true then 16 else 0
def tErr (n:Nat) (ps:List (Int×Int)):List Int→List (List Int)→Int
 | dn,[]=>if dn.length<ps.length then 14 else 0
 | dn,t::r=>if tErr1 n ps dn t=0 then tErr n ps (dn++t) r else tErr1 n ps dn t
theorem ix0_mem {t:List Int} (h:0<t.length):ix t 0∈t:=by
 rw [show (0:Int)=((0:Nat):Int) from rfl,ix_nat h];exact List.getElem_mem _
structure TOk (n:Nat) (ps:List (Int×Int)) (dn:List Int) (ts:List (List Int)):Prop where
 ne:∀ t∈ts,0<t.length
 rng:∀ t∈ts,∀ x∈t,0≤x∧x<(ps.length:Int)
 up:∀ t∈ts,t.Pairwise (·<·)
 len:∀ t∈ts,t.length≤n
 heat:∀ t∈ts,∀ x∈t,(ix ps x).1=heatT ps t
 nd:(dn++ts.flatten).Nodup
 all:ps.length≤(dn++ts.flatten).length
theorem tErr1_iff {n:Nat} {ps:List (Int×Int)} {dn t:List Int}:tErr1 n ps dn t=0↔0<t.length∧(∀ x∈t,0≤x∧x<(ps.length:Int))∧t.Pairwise (·<·)∧t.length≤n∧(∀ x∈t,(ix ps x).1=heatT ps t)∧∀ x∈t,x ∉ dn:=by
 unfold tErr1
 by_cases h0:t.length=0
 ·rw [if_pos h0];exact ⟨fun h=>(by cases h),fun h=>by omega⟩
 rw [if_neg h0]
 cases h1:riseGo (ps.length:Int) 0 t with
 | false =>
   rw [if_pos rfl]
   refine ⟨fun h=>(by cases h),fun h=>?_⟩
   rw [(rise_iff _ _).2 ⟨h.2.1,h.2.2.1⟩] at h1;cases h1
 | true =>
   have h1:=(rise_iff _ _).1 h1
   rw [if_neg (by decide)]
   by_cases h2:n<t.length
   ·rw [if_pos h2];exact ⟨fun h=>(by cases h),fun h=>by omega⟩
   rw [if_neg h2]
   by_cases h3:(t.any fun x=>decide ((ix ps x).1≠(ix ps (ix t 0)).1))=true
   ·rw [if_pos h3]
    refine ⟨fun h=>(by cases h),fun h=>?_⟩
    obtain ⟨x,hx,h4⟩:=List.any_eq_true.1 h3
    exact absurd (h.2.2.2.2.1 x hx) (of_decide_eq_true h4)
   rw [if_neg h3]
   by_cases h4:(t.any fun x=>decide (x∈dn))=true
   ·rw [if_pos h4]
    refine ⟨fun h=>(by cases h),fun h=>?_⟩
    obtain ⟨x,hx,h5⟩:=List.any_eq_true.1 h4
    exact absurd (of_decide_eq_true h5) (h.2.2.2.2.2 x hx)
   rw [if_neg h4]
   refine ⟨fun _=>⟨by omega,h1.1,h1.2,by omega,fun x hx=>?_,fun x hx hd=>?_⟩,fun _=>rfl⟩
   ·rcases Classical.em ((ix ps x).1=heatT ps t) with h | h
    ·exact h
    ·exact absurd (List.any_eq_true.2 ⟨x,hx,decide_eq_true h⟩) h3
   ·exact h4 (List.any_eq_true.2 ⟨x,hx,decide_eq_true hd⟩)
theorem tErr_iff {n:Nat} {ps:List (Int×Int)}:∀ (ts:List (List Int)) (dn:List Int),dn.Nodup→(tErr n ps dn ts=0↔TOk n ps dn ts)
 | [],dn,hd=>by
   rw [tErr]
   have e:dn++([]:List (List Int)).flatten=dn:=by simp
   by_cases h:dn.length<ps.length
   ·rw [if_pos h]
    refine ⟨fun h=>(by cases h),fun hT=>?_⟩
    have:=hT.all;rw [e] at this;omega
   ·rw [if_neg h]
    exact ⟨fun _=>⟨by simp,by simp,by simp,by simp,by simp,by rw [e];exact hd,by rw [e];omega⟩,fun _=>rfl⟩
 | t::r,dn,hd=>by
   rw [tErr]
   have e:dn++(t::r).flatten=(dn++t)++r.flatten:=by simp
   by_cases h1:tErr1 n ps dn t=0
   ·obtain ⟨a1,a2,a3,a4,a5,a6⟩:=tErr1_iff.1 h1
    have hd2:(dn++t).Nodup:=List.pairwise_append.2 ⟨hd,a3.imp fun h=>by omega,fun x hx y hy e=>a6 y hy (by rw [←e];exact hx)⟩
    rw [if_pos h1,tErr_iff r _ hd2]
    constructor
    ·intro h
     exact ⟨List.forall_mem_cons.2 ⟨a1,h.ne⟩,List.forall_mem_cons.2 ⟨a2,h.rng⟩,List.forall_mem_cons.2 ⟨a3,h.up⟩,List.forall_mem_cons.2 ⟨a4,h.len⟩,List.forall_mem_cons.2 ⟨a5,h.heat⟩,by rw [e];exact h.nd,by rw [e];exact h.all⟩
    ·intro h
     have nd:=h.nd
     have al:=h.all
     rw [e] at nd al
     exact ⟨(List.forall_mem_cons.1 h.ne).2,(List.forall_mem_cons.1 h.rng).2,(List.forall_mem_cons.1 h.up).2,(List.forall_mem_cons.1 h.len).2,(List.forall_mem_cons.1 h.heat).2,nd,al⟩
   ·rw [if_neg h1]
    refine ⟨fun h=>absurd h h1,fun h=>absurd (tErr1_iff.2 ?_) h1⟩
    have nd:=h.nd
    rw [e] at nd
    have nd2:=(List.pairwise_append.1 nd).1
    exact ⟨(List.forall_mem_cons.1 h.ne).1,(List.forall_mem_cons.1 h.rng).1,(List.forall_mem_cons.1 h.up).1,(List.forall_mem_cons.1 h.len).1,(List.forall_mem_cons.1 h.heat).1,fun x hx hxd=>(List.pairwise_append.1 nd2).2.2 x hxd x hx rfl⟩
def cntL (N:Nat) (dn:List Int):List Int:=(List.range N).map fun (i:Nat)=>if (i:Int)∈dn then 1 else 0
theorem cntL_len (N:Nat) (dn:List Int):(cntL N dn).length=N:=by simp [cntL]
theorem cntL_ix {N:Nat} {dn:List Int} {x:Int} (h:0≤x∧x<(N:Int)):ix (cntL N dn) x=if x∈dn then 1 else 0:=by
 rw [ix_of (by rw [cntL_len];exact h)]
 simp only [cntL,List.getElem_map,List.getElem_range]
 rw [show ((x.toNat:Nat):Int)=x by omega]
theorem cntL_set {N:Nat} {dn:List Int} {x:Int} (h:0≤x∧x<(N:Int)):(cntL N dn).set x.toNat 1=cntL N (dn++[x]):=by
 apply List.ext_getElem
 ·simp [cntL_len]
 ·intro i h1 h2
  rw [List.getElem_set]
  simp only [cntL,List.getElem_map,List.getElem_range]
  by_cases hi:x.toNat=i
  ·rw [if_pos hi,if_pos (by simp;omega)]
  ·rw [if_neg hi]
   have:((i:Int)∈dn++[x])↔((i:Int)∈dn):=by
    simp;intro e;omega
   simp only [this]
theorem cntL_nil (N:Nat):cntL N []=List.replicate N 0:=by
 apply List.ext_getElem
 ·simp [cntL_len]
 ·intro i h1 h2;simp [cntL]
theorem x65_l6_eq {ps:List (Int×Int)} {turns:List (List Int)} {s4:Int} {t dn:List Int} (ht:ix turns s4=t) (hr:∀ x∈t,0≤x∧x<(ps.length:Int)) (hu:t.Pairwise (·<·)) (hd:∀ x∈t,x ∉ dn) (hl:t.length≤1000) {k:List Int→Option (Option Bench×List (List Int×Int×Int)×Int)}:∀ (m i:Nat) (z:Int),z=i→i≤t.length→t.length-i<m→x65_l6 ps turns s4 k m z (cntL ps.length (dn++t.take i))=k (cntL ps.length (dn++t))
 | 0,i,_,_,_,h=>absurd h (by omega)
 | m+1,i,_,rfl,hi,hm=>by
   rw [x65_l6,ht]
   by_cases h:i<t.length
   ·have h1:=hr _ (List.getElem_mem h)
    have h2:t[i] ∉ dn++t.take i:=by
     rw [List.mem_append]
     rintro (h2 | h2)
     ·exact hd _ (List.getElem_mem h) h2
     ·obtain ⟨j,hj,e⟩:=List.mem_iff_getElem.1 h2
      rw [List.length_take] at hj
      rw [List.getElem_take] at e
      have:=List.pairwise_iff_getElem.1 hu j i (by omega) h (by omega)
      omega
    have hg:0≤t[i]∧t[i]<(((ps.length:Int).toNat:Nat):Int)∧(ps.length:Int).toNat=(cntL ps.length (dn++t.take i)).length:=⟨h1.1,by omega,by rw [cntL_len];omega⟩
    rw [iflt h,gdi h,ix_nat h,gd_pos hg,gd_pos hg,cntL_ix h1,if_neg h2,w_succ i (by omega),show w (0+1)=1 by decide,cntL_set h1]
    have ih:=x65_l6_eq ht hr hu hd hl (k:=k) m (i+1) _ rfl (by omega) (by omega)
    rw [take_snoc h,←List.append_assoc] at ih
    exact ih
   ·obtain rfl:i=t.length:=by omega
    rw [ifge h,List.take_length]
theorem x91_l1_eq {x:Bench} {t:List Int} {k:Int→Option Int} (hr:∀ y∈t,0≤y∧y<(x.2.1.length:Int)) (hl:t.length≤1000):∀ (m i:Nat) (z s:Int),z=i→i≤(t.drop 1).length→(t.drop 1).length-i<m→s∈t→∃ r,x91_l1 t (fun y0 y1=>x92 x y0 y1) k m s z=k r∧r∈t∧(ix x.2.1 r).2=maxL (ix x.2.1 s).2 (((t.drop 1).drop i).map fun y=>(ix x.2.1 y).2)
 | 0,i,_,_,_,_,h,_=>absurd h (by omega)
 | m+1,i,_,s,rfl,hi,hm,hs=>by
   rw [x91_l1,show ((1:Int).toNat)=1 from rfl]
   have hl2:(t.drop 1).length≤1000:=by rw [List.length_drop];omega
   by_cases h:i<(t.drop 1).length
   ·have hm1:(t.drop 1)[i]∈t:=List.mem_of_mem_drop (List.getElem_mem h)
    have e:x92 x (t.drop 1)[i] s=some (decide ((ix x.2.1 s).2<(ix x.2.1 (t.drop 1)[i]).2)):=by
     rw [x92,gd_pos (hr _ hm1),gd_pos (hr _ hs)]
    have e2:∀ a:Int,maxL a (((t.drop 1).drop i).map fun y=>(ix x.2.1 y).2)=maxL (max a (ix x.2.1 (t.drop 1)[i]).2) (((t.drop 1).drop (i+1)).map fun y=>(ix x.2.1 y).2):=fun a=>by
     rw [List.drop_eq_getElem_cons h];rfl
    rw [iflt h,gdi h,ix_nat h]
    simp only [e,Option.bind_some,w_succ i (by omega)]
    by_cases hb:(ix x.2.1 s).2<(ix x.2.1 (t.drop 1)[i]).2
    ·rw [if_pos (decide_eq_true hb)]
     obtain ⟨r,h1,h2,h3⟩:=x91_l1_eq hr hl m (i+1) _ _ rfl (by omega) (by omega) hm1 (k:=k)
     refine ⟨r,h1,h2,?_⟩
     rw [h3,e2,show max (ix x.2.1 s).2 (ix x.2.1 (t.drop 1)[i]).2=(ix x.2.1 (t.drop 1)[i]).2 by omega]
    ·rw [if_neg (by simpa using hb)]
     obtain ⟨r,h1,h2,h3⟩:=x91_l1_eq hr hl m (i+1) _ _ rfl (by omega) (by omega) hs (k:=k)
     refine ⟨r,h1,h2,?_⟩
     rw [h3,e2,show max (ix x.2.1 s).2 (ix x.2.1 (t.drop 1)[i]).2=(ix x.2.1 s).2 by omega]
   ·rw [ifge h,List.drop_eq_nil_of_le (by omega)]
    exact ⟨s,rfl,hs,rfl⟩
theorem x91_eq {x:Bench} {t:List Int} (hr:∀ y∈t,0≤y∧y<(x.2.1.length:Int)) (hh:hrsOk x.2.1) (hl:t.length≤1000) (h0:0<t.length):∃ r,x91 t (fun y0 y1=>x92 x y0 y1)=some r∧r∈t∧(ix x.2.1 r).2=hourT x.2.1 t:=by
 obtain ⟨r,h1,h2,h3⟩:=x91_l1_eq hr hl (k:=fun z=>some z) FU 0 0 (ix t 0) rfl (Nat.zero_le _) (FU_lt (by rw [List.length_drop];omega)) (ix0_mem h0)
 refine ⟨r,?_,h2,?_⟩
 ·rw [x91,gd_pos ⟨by omega,by omega⟩,gd_pos ⟨by omega,by omega⟩];exact h1
 ·have hm:=hr _ (ix0_mem h0)
  have h4:=hh _ (show ix x.2.1 (ix t 0)∈x.2.1 by rw [ix_of hm];exact List.getElem_mem _)
  rw [h3,List.drop_zero]
  cases t with
  | nil=>cases h0
  | cons a t =>
    show _=maxL (max 0 (ix x.2.1 a).2) (t.map fun y=>(ix x.2.1 y).2)
    have:ix (a::t) 0=a:=rfl
    rw [this] at h4 ⊢
    rw [show max 0 (ix x.2.1 a).2=(ix x.2.1 a).2 by omega];rfl
def tRows (ps:List (Int×Int)):Int→List (List Int)→List (List Int×Int×Int)
 | _,[]=>[]
 | last,t::r=>(t,hourT ps t,farD last (heatT ps t))::tRows ps (heatT ps t) r
theorem x65_l3_eq {ps:List (Int×Int)} {turns:List (List Int)} {p1:Bench} (hp1:p1.2.1=ps) (hp:PsOk ps) (hts:turns.length≤1000) (hl:∀ t∈turns,t.length≤9223372036854775807) {k:List (List Int×Int×Int)→Int→Option (Option Bench×List (List Int×Int×Int)×Int)} (hk:∀ z (c:Nat),k z (c:Int)=some (if c<ps.length then (none,[],14) else (some p1,z,0))):∀ (m i:Nat) (z:Int) (s1:List (List Int×Int×Int)) (s2:Int) (dn:List Int),z=i→i≤turns.length→turns.length-i<m→s1.length≤i→dn.length≤1000*i→x65_l3 ps turns p1 k m s1 s2 (dn.length:Int) z (cntL ps.length dn)=some (if tErr p1.2.2.1.length ps dn (turns.drop i)=0 then (some p1,s1++tRows ps s2 (turns.drop i),0) else (none,[],tErr p1.2.2.1.length ps dn (turns.drop i)))
 | 0,i,_,_,_,_,_,_,h,_,_=>absurd h (by omega)
 | m+1,i,_,s1,s2,dn,rfl,hi,hm,hs,hd=>by
   have hpl:=hp.len
   rw [x65_l3]
   by_cases h:i<turns.length
   ·have hlt:=hl _ (List.getElem_mem h)
    have ht:ix turns (i:Int)=turns[i]:=ix_nat h
    rw [List.drop_eq_getElem_cons h,iflt h,gdi h,ht]
    generalize turns[i]=t at hlt ht
    have hc:tErr p1.2.2.1.length ps dn (t::turns.drop (i+1))=if tErr1 p1.2.2.1.length ps dn t=0 then tErr p1.2.2.1.length ps (dn++t) (turns.drop (i+1)) else tErr1 p1.2.2.1.length ps dn t:=rfl
    have hu:tErr1 p1.2.2.1.length ps dn t=tErr1 p1.2.2.1.length ps dn t:=rfl
    conv at hu=>rhs;unfold tErr1
    by_cases h0:t.length=0
    ·rw [if_pos h0] at hu
     rw [if_pos (decide_eq_true (by omega)),x65_j4,if_pos rfl]
     rw [hu,if_neg (by decide)] at hc
     rw [hc,if_neg (by decide)]
    rw [if_neg h0] at hu
    rw [if_neg (by rw [decide_eq_true_eq];omega),x61_eq hlt ⟨by omega,by omega⟩,Option.bind_some,x65_j4,ht]
    by_cases h1:riseGo (ps.length:Int) 0 t=false
    ·rw [if_pos h1] at hu
     rw [if_pos (by simp [h1])]
     rw [hu,if_neg (by decide)] at hc
     rw [hc,if_neg (by decide)]
    rw [if_neg h1] at hu
    have h1:riseGo (ps.length:Int) 0 t=true:=by simpa using h1
    have hlt:t.length≤1000:=by have:=rise_len h1 (by omega);omega
    rw [if_neg (by simp [h1])]
    have hr:=(rise_spec _ _ _ h1).1
    have hup:=(rise_spec _ _ _ h1).2
    have hg0:=hr _ (ix0_mem (t:=t) (by omega))
    by_cases h2:p1.2.2.1.length<t.length
    ·rw [if_pos h2] at hu
     rw [if_pos (decide_eq_true (by omega))]
     rw [hu,if_neg (by decide)] at hc
     rw [hc,if_neg (by decide)]
    rw [if_neg h2] at hu
    have e3:x86 t (fun y0=>x89 y0 ps t)=some (t.any fun x=>decide ((ix ps x).1≠(ix ps (ix t 0)).1)):=x86_eq (fun x hx=>by rw [x89,gd_pos (hr x hx),gd_pos ⟨by omega,by omega⟩,gd_pos hg0]) (by omega)
    rw [if_neg (by rw [decide_eq_true_eq];omega),e3,Option.bind_some]
    by_cases h3:(t.any fun x=>decide ((ix ps x).1≠(ix ps (ix t 0)).1))=true
    ·rw [if_pos h3] at hu
     rw [if_pos h3]
     rw [hu,if_neg (by decide)] at hc
     rw [hc,if_neg (by decide)]
    rw [if_neg h3] at hu
    have e4:x86 t (fun y0=>x90 y0 (cntL ps.length dn))=some (t.any fun x=>decide (x∈dn)):=x86_eq (fun x hx=>by
     rw [x90,gd_pos (by rw [cntL_len];exact hr x hx),cntL_ix (hr x hx)]
     by_cases hx2:x∈dn <;> simp [hx2]) (by omega)
    rw [if_neg h3,gd_pos (by rw [cntL_len];omega),e4,Option.bind_some]
    by_cases h4:(t.any fun x=>decide (x∈dn))=true
    ·rw [if_pos h4] at hu
     rw [if_pos h4]
     rw [hu,if_neg (by decide)] at hc
     rw [hc,if_neg (by decide)]
    rw [if_neg h4] at hu
    have hdis:∀ x∈t,x ∉ dn:=fun x hx hxd=>h4 (List.any_eq_true.2 ⟨x,hx,decide_eq_true hxd⟩)
    rw [hu,if_pos rfl] at hc
    rw [if_neg h4,hc,x65_j5,ht]
    have e6:=x65_l6_eq (ps:=ps) (dn:=dn) ht hr hup hdis hlt (k:=fun z1 =>
     gd (0≤(0:Int)∧(0:Int)<((ix turns (i:Int)).length:Int)) <|
     gd (0≤(ix (ix turns (i:Int)) (0:Int))∧(ix (ix turns (i:Int)) (0:Int))<(ps.length:Int)) <|
     (x91 (ix turns (i:Int)) (fun y0 y1=>x92 p1 y0 y1)).bind fun r5 =>
     gd (0≤r5∧r5<(ps.length:Int)) <|
     (x93 s2 ((ix ps (ix (ix turns (i:Int)) (0:Int))).1)).bind fun r6 =>
     gd ((s1.length+1)*40≤140737488355328) <|
     x65_l3 ps turns p1 k m (s1++[((ix turns (i:Int)),(ix ps r5).2,r6)]) ((ix ps (ix (ix turns (i:Int)) (0:Int))).1) (w ((dn.length:Int)+((ix turns (i:Int)).length:Int))) (w ((i:Int)+(1:Int))) z1) FU 0 0 rfl (Nat.zero_le _) (FU_lt (by omega))
    rw [List.take_zero,List.append_nil] at e6
    rw [ht] at e6
    refine e6.trans ?_
    obtain ⟨r5,f1,f2,f3⟩:=x91_eq (x:=p1) (t:=t) (by rw [hp1];exact hr) (by rw [hp1];exact hp.hrs) hlt (by omega)
    rw [hp1] at f3
    have e7:x93 s2 (ix ps (ix t 0)).1=some (farD s2 (heatT ps t)):=rfl
    rw [gd_pos ⟨by omega,by omega⟩,gd_pos hg0,f1,Option.bind_some,gd_pos (hr _ f2),e7,Option.bind_some,gd_pos (by omega),f3,w_succ i (by omega),w_id (by omega)]
    have ih:=x65_l3_eq hp1 hp hts hl hk m (i+1) _ (s1++[(t,hourT ps t,farD s2 (heatT ps t))]) (heatT ps t) (dn++t) rfl (by omega) (by omega) (by rw [List.length_append];simp;omega) (by rw [List.length_append];omega)
    rw [List.length_append,Int.natCast_add,List.append_assoc] at ih
    exact ih
   ·rw [ifge h,List.drop_eq_nil_of_le (by omega),hk,tErr]
    by_cases hd:dn.length<ps.length
    ·rw [if_pos hd,if_pos hd,if_neg (by decide)]
    ·rw [if_neg hd,if_neg hd,if_pos rfl,tRows,List.append_nil]
theorem x65_eq {b:Bed} (hb:bErr b=0) (hl:b.2.1.length≤20) {ps:List (Int×Int)} (hp:PsOk ps) {turns:List (List Int)} (hts:turns.length≤1000) (ht:∀ t∈turns,t.length≤9223372036854775807):x65 b ps turns=some (if tErr (wn b) ps [] turns=0 then (some (b,ps,wholeL b.1.toNat b.2.1,wantL ps),tRows ps b.2.2.1 turns,0) else (none,[],tErr (wn b) ps [] turns)):=by
 have hpl:=hp.len
 have:=x65_l3_eq (p1:=(b,ps,wholeL b.1.toNat b.2.1,wantL ps)) rfl hp hts ht (k:=fun z4 z5 =>
       if (decide (z5<(ps.length:Int)))=true then
        some (none,[],(14:Int))
       else
        some ((some (b,ps,wholeL b.1.toNat b.2.1,wantL ps)),z4,(0:Int))) (fun z c=>by
  by_cases h:c<ps.length
  ·rw [if_pos (decide_eq_true (by omega)),if_pos h]
  ·rw [if_neg (by rw [decide_eq_true_eq];omega),if_neg h]) FU 0 0 [] b.2.2.1 [] rfl (Nat.zero_le _) (FU_lt (by omega)) (by simp) (by simp)
 rw [List.drop_zero,cntL_nil] at this
 rw [x65,x69_eq hb hl hp,Option.bind_some]
 show (if (decide ((0:Int)≠(0:Int)))=true then _ else _)=_
 rw [if_neg (by decide),gd_pos ⟨by omega,by omega,by omega⟩]
 exact this
theorem x65_err {b:Bed} (hl:b.2.1.length≤1000) {ps:List (Int×Int)} (he:eB b ps≠0) (turns:List (List Int)):x65 b ps turns=some (none,[],eB b ps):=by
 rw [x65,x69_err hl he,Option.bind_some]
 exact if_pos (decide_eq_true he)
def tHours (ps:List (Int×Int)) (ts:List (List Int)):Int:=(ts.map (hourT ps)).sum
theorem x26_l1_eq {R:List (List Int×Int×Int)} {e:Int} (hl:R.length≤1000) (hr:∀ r∈R,(0≤r.2.1∧r.2.1≤1000)∧(0≤r.2.2∧r.2.2≤1000)) {k:Int→Int→Option (Int×Int×Int)}:∀ (m i:Nat) (z s t:Int),z=i→i≤R.length→R.length-i<m→0≤s∧s≤1000*i→0≤t∧t≤1000*i→x26_l1 (R,e) k m s t z=k (s+((R.drop i).map (·.2.1)).sum) (t+((R.drop i).map (·.2.2)).sum)
 | 0,i,_,_,_,_,_,h,_,_=>absurd h (by omega)
 | m+1,i,_,s,t,rfl,hi,hm,hs,ht=>by
   rw [x26_l1]
   by_cases h:i<R.length
   ·have h1:=hr _ (List.getElem_mem h)
    show (if (decide ((i:Int)<(R.length:Int)))=true then gd (0≤(i:Int)∧(i:Int)<(R.length:Int)) (x26_l1 (R,e) k m (w (s+(ix R (i:Int)).2.1)) (w (t+(ix R (i:Int)).2.2)) (w ((i:Int)+1))) else k s t)=_
    rw [iflt h,gdi h,ix_nat h,w_succ i (by omega),w_id (n:=s+_) (by omega),w_id (n:=t+_) (by omega),x26_l1_eq hl hr m (i+1) _ _ _ rfl (by omega) (by omega) (by omega) (by omega),List.drop_eq_getElem_cons h,List.map_cons,List.map_cons,List.sum_cons,List.sum_cons,Int.add_assoc,Int.add_assoc]
   ·show (if (decide ((i:Int)<(R.length:Int)))=true then gd (0≤(i:Int)∧(i:Int)<(R.length:Int)) (x26_l1 (R,e) k m (w (s+(ix R (i:Int)).2.1)) (w (t+(ix R (i:Int)).2.2)) (w ((i:Int)+1))) else k s t)=_
    rw [ifge h,List.drop_eq_nil_of_le (by omega)]
    show k s t=k (s+0) (t+0)
    rw [Int.add_zero,Int.add_zero]
theorem ixps_mem {ps:List (Int×Int)} {x:Int} (h:0≤x∧x<(ps.length:Int)):ix ps x∈ps:=by rw [ix_of h];exact List.getElem_mem _
theorem hourT_in {ps:List (Int×Int)} (hp:hrsOk ps) {t:List Int} (hr:∀ x∈t,0≤x∧x<(ps.length:Int)):0≤hourT ps t∧hourT ps t≤24:=by
 have h1:=maxL_spec (t.map fun x=>(ix ps x).2) 0
 unfold hourT
 refine ⟨h1.1,?_⟩
 rcases h1.2.2 with h | h
 ·rw [h];omega
 ·obtain ⟨x,hx,e⟩:=List.mem_map.1 h
  have:=hp _ (ixps_mem (hr x hx))
  rw [←e];exact this.2
theorem heatT_in {ps:List (Int×Int)} (hp:PsOk ps) {t:List Int} (h0:0<t.length) (hr:∀ x∈t,0≤x∧x<(ps.length:Int)):0≤heatT ps t∧heatT ps t≤20:=hp.heat _ (ixps_mem (hr _ (ix0_mem h0)))
theorem tRows_len (ps:List (Int×Int)):∀ (ts:List (List Int)) (s:Int),(tRows ps s ts).length=ts.length
 | [],_=>rfl
 | t::r,s=>by rw [tRows,List.length_cons,List.length_cons,tRows_len ps r]
theorem tRows_hours (ps:List (Int×Int)):∀ (ts:List (List Int)) (s:Int),((tRows ps s ts).map (·.2.1)).sum=tHours ps ts
 | [],_=>rfl
 | t::r,s=>by rw [tRows,List.map_cons,List.sum_cons,tRows_hours ps r];rfl
theorem tRows_way {ps:List (Int×Int)} (hp:PsOk ps):∀ (ts:List (List Int)) (s:Int),(∀ t∈ts,0<t.length)→(∀ t∈ts,∀ x∈t,0≤x∧x<(ps.length:Int))→0≤s∧s≤20→((tRows ps s ts).map (·.2.2)).sum=walk s (ts.map (heatT ps))∧∀ r∈tRows ps s ts,(0≤r.2.1∧r.2.1≤1000)∧(0≤r.2.2∧r.2.2≤1000)
 | [],_,_,_,_=>⟨rfl,by simp [tRows]⟩
 | t::r,s,h0,hr,hs=>by
   have a1:=(List.forall_mem_cons.1 h0).1
   have a2:=(List.forall_mem_cons.1 hr).1
   have h1:=heatT_in hp a1 a2
   have h2:=hourT_in hp.hrs a2
   obtain ⟨i1,i2⟩:=tRows_way hp r (heatT ps t) (List.forall_mem_cons.1 h0).2 (List.forall_mem_cons.1 hr).2 h1
   have h3:=farD_eq (a:=s) (b:=heatT ps t) (by omega) (by omega)
   constructor
   ·rw [tRows,List.map_cons,List.sum_cons,i1,List.map_cons,walk,h3]
   ·rw [tRows]
    refine List.forall_mem_cons.2 ⟨?_,i2⟩
    dsimp only
    rw [h3]
    omega
def tAns (b:Bed) (ps:List (Int×Int)) (ts:List (List Int)):Int×Int×Int :=
 if eB b ps=0 then if tErr (wn b) ps [] ts=0 then (tHours ps ts,walk b.2.2.1 (ts.map (heatT ps)),0) else (0,0,tErr (wn b) ps [] ts) else (0,0,eB b ps)
theorem nil_nodup:([]:List Int).Nodup:=List.Pairwise.nil
theorem x26_eq {b:Bed} (hl:b.2.1.length≤20) {ps:List (Int×Int)} {turns:List (List Int)} (hts:turns.length≤1000) (ht:∀ t∈turns,t.length≤9223372036854775807):x26 b ps turns=some (tAns b ps turns):=by
 rw [x26]
 unfold tAns
 by_cases he:eB b ps=0
 ·obtain ⟨hb,hp⟩:=eB_ok he
  have hB:=bedOk hb
  rw [if_pos he,x65_eq hb hl hp hts ht,Option.bind_some]
  by_cases hT:tErr (wn b) ps [] turns=0
  ·have hO:=(tErr_iff turns [] nil_nodup).1 hT
   obtain ⟨i1,i2⟩:=tRows_way hp turns b.2.2.1 hO.ne hO.rng hB.h0
   rw [if_pos hT,if_pos hT]
   have:=x26_l1_eq (R:=tRows ps b.2.2.1 turns) (e:=0) (by rw [tRows_len];exact hts) i2 (k:=fun z3 z4=>some (z3,z4,0)) FU 0 0 0 0 rfl (Nat.zero_le _) (FU_lt (by rw [tRows_len];omega)) (by omega) (by omega)
   rw [List.drop_zero,i1,tRows_hours,Int.zero_add,Int.zero_add] at this
   exact this
  ·rw [if_neg hT,if_neg hT]
   exact x26_l1_eq (R:=[]) (e:=tErr (wn b) ps [] turns) (by simp) (by simp) (k:=fun z3 z4=>some (z3,z4,tErr (wn b) ps [] turns)) FU 0 0 0 0 rfl (Nat.zero_le _) (FU_lt (by simp)) (by omega) (by omega)
 ·rw [if_neg he,x65_err (by omega) he,Option.bind_some]
  exact x26_l1_eq (R:=[]) (e:=eB b ps) (by simp) (by simp) (k:=fun z3 z4=>some (z3,z4,eB b ps)) FU 0 0 0 0 rfl (Nat.zero_le _) (FU_lt (by simp)) (by omega) (by omega)

def sortU (l:List Int):List Int:=(Sort.insertionSort Sort.ltInt l.toArray 0 l.length).toList
def x77 (l:List Int):Option (List Int):=if 0<l.length∧l.length≤12 then some (sortU l) else none

def x78 (s:(List Int)):Option Unit :=
 some ()

def x37_r1  (t1:(List (List Int))) (e1:(List Int)):Option ((List (List Int))) :=
 gd ((t1.length:Int)=(t1.length:Int)∧0≤(t1.length:Int)∧(t1.length:Int)≤(t1.length:Int)) <|
 (x78 e1).bind fun r5 =>
 (x77 e1).bind fun r6 =>
 gd ((1≠0)∧((t1.take (t1.length:Int).toNat).length+1)*24≤140737488355328) <|
 some ((t1.take (t1.length:Int).toNat)++[r6])
def x37_l1 (p1:((Int×(List Int)×Int×Int)×(List (Int×Int))×(List Int)×(List Int))) (r2:(List Int)) (kl1_0:(List (List Int))→Option ((List (List Int))×Int)):Nat→Int→(List (List Int))→Option ((List (List Int))×Int)
 | 0,_,_=>none
 | m+1,s1,s2 =>
   if (decide (s1<(r2.length:Int)))=true then
    gd (0≤s1∧s1<(r2.length:Int)) <|
    (x76 p1 (ix r2 s1)).bind fun r3 =>
    (x75 r3 (p1.2.2.1.length:Int)).bind fun r4 =>
    (s98 r3 (p1.2.2.1.length:Int)).bind fun l1 =>
    (foldO x37_r1 l1 s2).bind fun r7 =>
    x37_l1 p1 r2 kl1_0 m (w (s1+(1:Int))) r7
   else
    kl1_0 s2
def x37 (b:(Int×(List Int)×Int×Int)) (panels:(List (Int×Int))):Option ((List (List Int))×Int) :=
 (x69 b panels).bind fun r1 =>
 match r1 with
 | (none,q1) =>
   if (decide (q1≠(0:Int)))=true then
    some ([],q1)
   else
    none
 | (some p1,q1) =>
   if (decide (q1≠(0:Int)))=true then
    some ([],q1)
   else
    (x74 p1).bind fun r2 =>
    x37_l1 p1 r2 (fun z1 =>
      some (z1,(0:Int))) FU (0:Int) ([]:List (List Int))

end Go.Proofs.YtbnbjjgagikobaaGreat.Ab


namespace Go.Proofs.YtbnbjjgagikobaaGreat.Ab
open Go
set_option maxRecDepth 20000
set_option maxHeartbeats 4000000
def x5 (b:(Int×(List Int)×Int×Int)) (panels:(List (Int×Int))):Option Bool :=
 (x16 b panels).bind fun r1 =>
 if r1=true then
  (x17).bind fun r2 =>
  some r2
 else
  (x33 b panels).bind fun r3 =>
  (x34 b panels).bind fun r4 =>
  (x35 b panels).bind fun r5 =>
  (x36 b panels).bind fun r6 =>
  (x37 b panels).bind fun r7 =>
  if (decide (r3.1≠r4.1))=true then
   some false
  else
   if (decide (r3.2≠r4.2))=true then
    some false
   else
    if (decide (r5.1≠r6.1))=true then
     some false
    else
     if (decide (r5.2≠r6.2))=true then
      some false
     else
      if (decide (r7.2≠r4.2))=true then
       some false
      else
       (x25 r7.1).bind fun r8 =>
       if r8=true then
        some false
       else
        if (decide (r4.2≠(0:Int)))=true then
         if (decide ((r7.1.length:Int)=(0:Int)))=true then
          (x17).bind fun r9 =>
          some r9
         else
          some false
        else
         (x27 b panels r7.1).bind fun r10 =>
         if (decide (r10.2.2=(0:Int)))=true then
          if (decide (r10.1=r4.1))=true then
           if (decide (r10.2.1=r6.1))=true then
            (x17).bind fun r11 =>
            some r11
           else
            some false
          else
           some false
         else
          some false

theorem len_flat:∀ L:List (List Int),L.flatten.length=(L.map List.length).sum
 | []=>rfl
 | e::L=>by rw [List.flatten_cons,List.length_append,len_flat L,List.map_cons,List.sum_cons]
theorem cnt_flat:∀ L:List (List Int),(∀ t∈L,0<t.length)→L.length≤L.flatten.length
 | [],_=>Nat.le_refl _
 | e::L,h=>by
   have h1:=(List.forall_mem_cons.1 h).1
   have h2:=cnt_flat L (List.forall_mem_cons.1 h).2
   rw [List.flatten_cons,List.length_append,List.length_cons];omega
theorem len_of_flat {L:List (List Int)} {t:List Int} (h:t∈L):t.length≤L.flatten.length:=by
 rw [len_flat]
 induction L with
 | nil=>cases h
 | cons e L ih =>
   rw [List.map_cons,List.sum_cons]
   rcases List.mem_cons.1 h with rfl | h
   ·omega
   ·have:=ih h;omega
theorem TOk.flat {n:Nat} {ps:List (Int×Int)} {ts:List (List Int)} (h:TOk n ps [] ts):ts.flatten.length=ps.length:=by
 have h1:=h.all
 have h2:=h.nd
 rw [List.nil_append] at h1 h2
 refine Nat.le_antisymm ?_ h1
 have:=pig ts.flatten ((List.range ps.length).map fun (i:Nat)=>(i:Int)) h2 fun x hx=>by
  obtain ⟨t,ht,hxt⟩:=List.mem_flatten.1 hx
  have:=h.rng t ht x hxt
  exact List.mem_map.2 ⟨x.toNat,List.mem_range.2 (by omega),by omega⟩
 simpa using this
theorem TOk.cnt {n:Nat} {ps:List (Int×Int)} {ts:List (List Int)} (h:TOk n ps [] ts):ts.length≤ps.length:=by
 have:=cnt_flat ts h.ne;rw [h.flat] at this;exact this
theorem TOk.one {n:Nat} {ps:List (Int×Int)} {ts:List (List Int)} (h:TOk n ps [] ts):∀ t∈ts,t.length≤ps.length:=fun t ht=>by
 have:=len_of_flat ht;rw [h.flat] at this;exact this

end Go.Proofs.YtbnbjjgagikobaaGreat.Ab


namespace Go.Proofs.YtbnbjjgagikobaaGreat.Ab
open Go
set_option maxRecDepth 20000
set_option maxHeartbeats 4000000

end Go.Proofs.YtbnbjjgagikobaaGreat.Ab


namespace Go.Proofs.YtbnbjjgagikobaaGreat.Ab
open Go
set_option maxRecDepth 20000
set_option maxHeartbeats 4000000

abbrev hts (ps:List (Int×Int)):List Int:=ps.map (·.1)
def Nd (b:Bed) (ps:List (Int×Int)) (T:Int) (r:Int×Int):Prop :=
 (∃ z:Nat,r=((z:Int),0)∧1≤z∧z≤max 1 ps.length∧hSum z ps 21+b.2.2.2*wayM b.2.2.1 (hts ps)≤T∧∀ j:Nat,1≤j→j<z→T<hSum j ps 21+b.2.2.2*wayM b.2.2.1 (hts ps)) ∨
 (r=(0,5)∧∀ j:Nat,1≤j→j≤max 1 ps.length→T<hSum j ps 21+b.2.2.2*wayM b.2.2.1 (hts ps))
theorem Nd.uniq {b:Bed} {ps:List (Int×Int)} {T:Int} {r r':Int×Int} (h:Nd b ps T r) (h':Nd b ps T r'):r=r':=by
 rcases h with ⟨z,rfl,h1,h2,h3,h4⟩ | ⟨rfl,h4⟩ <;> rcases h' with ⟨z',rfl,g1,g2,g3,g4⟩ | ⟨rfl,g4⟩
 ·have:z=z':=by
   rcases Nat.lt_trichotomy z z' with h | h | h
   ·have:=g4 z h1 h;omega
   ·exact h
   ·have:=h4 z' g1 h;omega
  rw [this]
 ·have:=g4 z h1 h2;omega
 ·have:=h4 z' g1 g2;omega
 ·rfl

end Go.Proofs.YtbnbjjgagikobaaGreat.Ab


namespace Go.Proofs.YtbnbjjgagikobaaGreat.Ab
open Go
set_option maxRecDepth 20000
set_option maxHeartbeats 4000000
def ann47b:FAnn:={ ops:=[[{ takes:=[true],mode:=1 }],[{ mode:=2 }],[],[{},{},{ takes:=[true] },{ takes:=[true,true] }],[{ takes:=[true] },{ takes:=[true] },{ takes:=[true] }],[{},{ takes:=[true] },{ takes:=[true] }],[{},{ takes:=[true] },{ takes:=[true] }],[{},{},{},{ takes:=[true] },{ takes:=[true,true] },{ takes:=[true,true] },{ takes:=[true] },{ takes:=[true] },{ takes:=[true] }],[{},{ takes:=[true] }],[],[{},{},{ takes:=[true,true] }],[{ takes:=[true] },{ takes:=[true] },{ takes:=[true] }],[{},{},{ takes:=[true,true] },{},{ takes:=[true,true] },{},{ takes:=[true,true] },{ takes:=[true] }],[{},{},{ takes:=[true,true] },{ takes:=[true] },{},{ takes:=[true] },{ takes:=[true] },{ takes:=[false,true] },{ takes:=[true] },{},{},{},{ takes:=[true,true] },{ takes:=[true] },{ takes:=[true] },{ takes:=[true] },{ takes:=[true,true] },{ takes:=[true] },{ takes:=[true] },{},{},{ takes:=[true,true] },{ takes:=[true] },{ takes:=[true] },{ takes:=[true,true] },{ takes:=[false,true] },{ takes:=[true] },{},{},{ takes:=[true,true] },{ takes:=[true] },{ takes:=[true] },{ mode:=3 },{ mode:=3 },{ takes:=[true] },{ takes:=[true,true] },{ takes:=[false,true] }],[{ takes:=[true] },{ takes:=[true] }],[{},{ takes:=[true] },{ takes:=[true,true] }],[{ takes:=[true] },{},{ takes:=[true,true],mode:=1 },{ takes:=[true] }],[{},{},{},{ takes:=[true] },{ takes:=[true,true] },{ takes:=[true],mode:=1 },{},{ takes:=[true] },{ takes:=[true,true] },{ takes:=[true,true] },{ takes:=[true,true] }],[{ takes:=[true],mode:=2 },{ takes:=[true] }]],keepL:=[(0,[false,true,true,true,false,false,false,true,true,false,false,false,false,false,false,false,false,false,false,false,false,false,false,false,false,false,false,false,false,false,false,false,false,false,false,false,false,false,false,false,false,false,false,false,false,false,false,false,false,false,false,false,false,false,false,false,false,false,false,false,false,false,false,false,false,false,false,false,false,false,false,false,false,false,false,false,false,false,false,false,false,false,false,false,false,false,false,false,false,false,false,false,false,false,false,false,false,false,false,false,false]),(2,[false,true,true,true,false,false,false,true,true,true,true,true,true,false,false,false,false,false,false,false,false,false,false,false,false,false,false,false,false,false,false,false,false,false,false,false,false,false,false,false,false,false,false,false,false,false,false,false,false,false,false,false,false,false,false,false,false,false,false,false,false,false,false,false,false,false,false,false,false,false,false,false,false,false,false,false,false,false,false,false,false,false,false,false,false,false,false,false,false,false,false,false,false,false,false,false,false,false,false,false,false])] }
noncomputable def rg47_1:RC :=
 .reg false [I_ 25 [.sl 2] .mv,I_ 26 [.sl 8] .mv,I_ 27 [.sl 2] .mv,I_ 28 [.tk 27] .lenS,I_ 29 [.tv 26,.tv 28] (.bin .rem),I_ 30 [.tv 25,.tv 29] (.ia 1),I_ 31 [.tv 30] (.ld .one),I_ 32 [.tv 31] (.conv .i64),I_ 10 [.tk 32]
 .mv]
noncomputable def rg47_2:RC :=
 .seq (.reg true [I_ 46 [.sl 11] .mv,I_ 47 [.sl 9] .mv,I_ 48 [.tv 46,.tv 47] (.bin .eql),I_ 49 [.tk 48] .mv,⟨some 50,[.sl 10],some (49,true),none,.mv⟩,⟨some 51,[.tv 50,.cv (.int .i64 7)],some (49,true),none,.bin
 .rem⟩,⟨some 52,[.tv 51,.cv (.int .i64 0)],some (49,true),none,.bin .gtr⟩,I_ 53 [.sl 49,.tv 52,.cv (.bool false)] .pick,I_ 54 [.tk 53] .mv,⟨some 55,[.sl 1],some (54,true),none,.mv⟩,⟨some 56,[.sl 7],some (54,
 true),none,.mv⟩,⟨some 57,[.sl 13],some (54,true),none,.mv⟩,⟨some 58,[.tv 56,.tv 57],some (54,true),none,.ia 1⟩,⟨some 59,[.tv 58],some (54,true),none,.ld .one⟩,⟨some 60,[.tv 59,.cv (.int .i64 0)],some
 (54,true),none,.ia 1⟩,⟨some 61,[.tv 60],some (54,true),none,.ld .one⟩,⟨some 62,[.tv 55,.tv 61],some (54,true),none,.ia 2⟩,⟨some 63,[.tv 62],some (54,true),none,.fa 0⟩,⟨some 64,[.tv 63],some (54,true),
 none,.ld .one⟩,⟨some 65,[.sl 1],some (54,true),none,.mv⟩,⟨some 66,[.sl 8],some (54,true),none,.mv⟩,⟨some 67,[.tv 65,.tv 66],some (54,true),none,.ia 2⟩,⟨some 68,[.tv 67],some (54,true),none,.fa 0⟩,
 ⟨some 69,[.tv 68],some (54,true),none,.ld .one⟩,⟨some 70,[.tv 64,.tv 69],some (54,true),none,.bin .eql⟩,I_ 71 [.sl 54,.tv 70,.cv (.bool false)] .pick,I_ 72 [.tk 71] .mv,⟨some 73,[.sl 7],some (72,true),none,
 .mv⟩,⟨some 74,[.sl 13],some (72,true),none,.mv⟩,⟨some 75,[.tv 73,.tv 74],some (72,true),none,.ia 1⟩,⟨some 76,[.tv 75],some (72,true),none,.ld .one⟩,⟨some 77,[.tk 76],some (72,true),none,.lenS⟩,⟨some
 78,[.sl 3],some (72,true),none,.ldF (.str 4)⟩,⟨some 79,[.cv (.func 51 [] []),.sl 78],some (72,true),none,.call 3⟩,⟨some 80,[.tk 79],some (72,true),none,.lenS⟩,⟨some 81,[.tv 77,.tv 80],some (72,true),
 none,.bin .lss⟩,I_ 82 [.sl 72,.tv 81,.cv (.bool false)] .pick]) (.cond (.sl 82) (.reg false [I_ 83 [.tk 13] .mv,I_ 11 [.tk 83] .mv]) .skip)
noncomputable def rg47_3:RC :=
 .block 3 (.seq (.reg false [I_ 39 [.sl 10] .mv,I_ 40 [.sl 9] .mv,I_ 41 [.tv 39,.tv 40] (.bin .rem),I_ 42 [.sl 12] .mv,I_ 43 [.tv 41,.tv 42] (.bin .add),I_ 44 [.sl 9] .mv,I_ 45 [.tv 43,.tv 44] (.bin .rem),I_ 13 [.tk 45]
 .mv]) rg47_2)
noncomputable def rg47_4:RC :=
 .seq (.seq (.reg false [I_ 34 [.sl 12] .mv,I_ 35 [.sl 9] .mv,I_ 36 [.tv 34,.tv 35] (.bin .lss)]) (.cond (.sl 36) .skip (.exit 2))) (.seq rg47_3 (.reg false [I_ 37 [.tk 12] .mv,I_ 38 [.tv 37,.cv (.int .i64 1)] (.bin .add),I_
 12 [.tk 38] .mv]))
noncomputable def rg47_5:RC :=
 .reg false [I_ 87 [.tk 7] .mv,I_ 88 [.cv (.lst [] 0 .full)] (.buildS 1 1 [.lst [] 0 .full] [0]),I_ 89 [.tk 87,.tk 88] (.appG 1 24),I_ 7 [.tk 89] .mv]
noncomputable def rg47_6:RC :=
 .reg false [I_ 90 [.sl 7] .mv,I_ 91 [.sl 11] .mv,I_ 92 [.sl 7] .mv,I_ 93 [.tk 11] .mv,I_ 94 [.tv 92,.tv 93] (.ia 1),I_ 95 [.tv 94] .take,I_ 96 [.sl 8] .mv,I_ 97 [.tv 96] (.buildS 1 1 [.int .i64 0] [0]),I_ 98 [.tk 95,.tk
 97] (.app 1 8),I_ 99 [.tv 90,.tv 91] (.ia 1),⟨none,[.tk 99,.tk 98],none,none,.st 1⟩]
noncomputable def rg47_I:RC :=
 .loop (some [false,true,true,true,false,false,false,true,true,true,true,true,true,false,false,false,false,false,false,false,false,false,
 false,false,false,false,false,false,false,false,false,false,false,false,false,false,false,false,false,false,false,false,false,false,false,false,false,false,false,false,false,false,false,false,
 false,false,false,false,false,false,false,false,false,false,false,false,false,false,false,false,false,false,false,false,false,false,false,false,false,false,false,false,false,false,false,false,
 false,false,false,false,false,false,false,false,false,false,false,false,false,false,false]) rg47_4
noncomputable def rg47_7:RC :=
 .seq (.seq (.reg false [I_ 12 [.cv (.int .i64 0)] .mv]) (.block 2 rg47_I)) (.seq (.seq (.reg false [I_ 84 [.sl 11] .mv,I_ 85 [.tk 9] .mv,I_ 86 [.tv 84,.tv 85] (.bin .eql)]) (.cond
 (.sl 86) rg47_5 .skip)) rg47_6)
noncomputable def rg47_8:RC :=
 .seq (.seq (.reg false [I_ 22 [.sl 2] .mv,I_ 23 [.tk 22] .lenS,I_ 24 [.tv 23,.cv (.int .i64 0)] (.bin .gtr)]) (.cond (.sl 24) rg47_1 .skip)) (.seq (.reg false [I_ 33 [.sl 9] .mv,I_ 11 [.tk 33] .mv]) rg47_7)
noncomputable def rg47_9:RC :=
 .block 1 (.seq (.reg false [I_ 20 [.sl 7] .mv,I_ 21 [.tk 20] .lenS,I_ 9 [.tk 21] .mv,I_ 10 [.cv (.int .i64 0)] .mv]) rg47_8)
noncomputable def rg47_10:RC :=
 .seq (.seq (.reg false [I_ 14 [.sl 8] .mv,I_ 15 [.sl 1] .mv,I_ 16 [.tk 15] .lenS,I_ 17 [.tv 14,.tv 16] (.bin .lss)]) (.cond (.sl 17) .skip (.exit 0))) (.seq rg47_9 (.reg false [I_ 18 [.tk 8] .mv,I_ 19 [.tv 18,.cv (.int .i64
 1)] (.bin .add),I_ 8 [.tk 19] .mv]))
noncomputable def rg47_O:RC :=
 .loop (some [false,true,true,true,false,false,false,true,true,false,false,false,false,false,false,false,false,false,false,false,false,false,false,false,false,false,false,false,false,
 false,false,false,false,false,false,false,false,false,false,false,false,false,false,false,false,false,false,false,false,false,false,false,false,false,false,false,false,false,false,false,false,
 false,false,false,false,false,false,false,false,false,false,false,false,false,false,false,false,false,false,false,false,false,false,false,false,false,false,false,false,false,false,false,false,
 false,false,false,false,false,false,false,false]) rg47_10
noncomputable def rg47_11:RC :=
 .seq (.reg false [I_ 7 [.cv (.lst [] 0 .full)] (.other (Oper.mk (some 7) (Op.assign (Operand.const (Value.slice none 0 0))) 34 "outright.go:16" (Array.mk []) none) 2)]) (.seq (.seq (.reg false [I_ 8 [.cv (.int .i64 0)] .mv])
 (.block 0 rg47_O)) (.seq (.reg false [⟨some 100, [.tk 7], none, some 7, .other (Oper.mk (some 100) (Op.move (Operand.tmp 7)) 34 "outright.go:34" (Array.mk []) none) 2⟩, I_ 6 [.tk
 100] .mv]) .ret))
noncomputable def rg47:RC :=
 .seq (.reg false [I_ 3 [.tk 0] .boxF,I_ 6 [.cv (.lst [] 0 .full)] (.nil 1)]) rg47_11
theorem lg47:linkF Tryz.prog ann47b 47=some (rg47,101,[.tmp 6]):=by kernel_rfl
abbrev ownI (l:List Int):AV:=.lst (l.map I) l.length (.own 1)
def fit47 (ps:List (Int×Int)) (wn i:Nat) (out:List (List Int)) (f one:Nat):Bool :=
 decide (0<f % 7) && decide ((ix ps (ix (ix out (one:Int)) 0)).1=(ix ps (i:Int)).1) && decide ((ix out (one:Int)).length<wn)
def pickG (P:Nat→Bool) (n f:Nat):Nat→Nat
 | 0=>n
 | k+1=>if pickG P n f k=n∧P ((f % n+k) % n)=true then (f % n+k) % n else pickG P n f k
theorem pickG_le (P:Nat→Bool) {n f:Nat} (hn:0<n):∀ k,pickG P n f k≤n
 | 0=>Nat.le_refl _
 | k+1=>by
   rw [pickG];split
   ·exact Nat.le_of_lt (Nat.mod_lt _ hn)
   ·exact pickG_le P hn k
def GOk (np:Nat) (out:List (List Int)):Prop:=∀ l∈out,0<l.length∧l.length≤1000∧∀ x∈l,0≤x∧x<(np:Int)
theorem GOk.at {np:Nat} {out:List (List Int)} (h:GOk np out) {k:Nat} (hk:k<out.length):0<(ix out (k:Int)).length∧(ix out (k:Int)).length≤1000∧∀ x∈ix out (k:Int),0≤x∧x<(np:Int):=by
 rw [ix_nat hk];exact h _ (List.getElem_mem _)
theorem get_grow (X:List AObj) (a:AObj):(X++[a,.dead])[X.length]?=some a:=by simp
theorem set_grow (X:List AObj) (a a':AObj):(X++[a,.dead]).set X.length a'=X++[a',.dead]:=by simp
theorem pick47 {ps:List (Int×Int)} {nb:List Int} {b:Bed} {out:List (List Int)} {X:List AObj} {i f:Nat} {wl:List Int} (hw:x51 b=some wl) (hps:ps.length≤1000) (hf:f≤255) (hi:i<ps.length) (hn:0<out.length) (hn2:out.length≤1000) (ho:GOk ps.length out) (hwl:wl.length≤1000)
  {Q:Ex→List AV→List AObj→Prop} (hk:Q (.exit 2) (slots 101 [(1,(.lst (ps.flatMap pr) ps.length .shared)),(2,(.lst (nb.map U8) nb.length .shared)),(3,(.lptr [I b.1,.lst (b.2.1.map I) b.2.1.length .shared,I b.2.2.1,I b.2.2.2])),(7,(.gref X.length (X.length+1) out.length 1)),(8,I (i:Int)),(9,I (out.length:Int)),(10,I (f:Int)),(11,I ((pickG (fit47 ps wl.length i out f) out.length f out.length:Nat):Int)),(12,I (out.length:Int)),(36,B (decide ((out.length:Int)<(out.length:Int))))]) (X++[AObj.grow (out.map ownI) (X.length+1) 1,.dead]))
  {T:List AV} (hT:zipKeep [false,true,true,true,false,false,false,true,true,true,true,true,true,false,false,false,false,false,false,false,false,false,false,false,false,false,false,false,false,false,false,false,false,false,false,false,false,false,false,false,false,false,false,false,false,false,false,false,false,false,false,false,false,false,false,false,false,false,false,false,false,false,false,false,false,false,false,false,false,false,false,false,false,false,false,false,false,false,false,false,false,false,false,false,false,false,false,false,false,false,false,false,false,false,false,false,false,false,false,false,false] T=slots 101 [(1,(.lst (ps.flatMap pr) ps.length .shared)),(2,(.lst (nb.map U8) nb.length .shared)),(3,(.lptr [I b.1,.lst (b.2.1.map I) b.2.1.length .shared,I b.2.2.1,I b.2.2.2])),(7,(.gref X.length (X.length+1) out.length 1)),(8,I (i:Int)),(9,I (out.length:Int)),(10,I (f:Int)),(11,I (out.length:Int)),(12,I 0)]) :
  wpR Tryz.prog ann47b 47 0 none rg47_I T (X++[AObj.grow (out.map ownI) (X.length+1) 1,.dead]) Q:=by
 unfold rg47_I
 refine wp_loop hT ?_
 refine .intro (fun m T H=>∃ k:Nat,k≤out.length∧m=out.length-k∧T=slots 101 [(1,(.lst (ps.flatMap pr) ps.length .shared)),(2,(.lst (nb.map U8) nb.length .shared)),(3,(.lptr [I b.1,.lst (b.2.1.map I) b.2.1.length .shared,I b.2.2.1,I b.2.2.2])),(7,(.gref X.length (X.length+1) out.length 1)),(8,I (i:Int)),(9,I (out.length:Int)),(10,I (f:Int)),(11,I ((pickG (fit47 ps wl.length i out f) out.length f k:Nat):Int)),(12,I (k:Int))]∧H=(X++[AObj.grow (out.map ownI) (X.length+1) 1,.dead])) out.length ⟨0,Nat.zero_le _,rfl,rfl,rfl⟩ ?_
 clear hT
 rintro m T H ⟨k,hk',rfl,rfl,rfl⟩
 obtain ⟨c3,g3⟩:∃ c,rg47_3=c:=⟨_,rfl⟩
 unfold rg47_4
 rw [g3]
 conv=>whnf
 refine dcase (fun hc=>?_) (fun hc=>?_)
 ·have hlt:k<out.length:=by omega
  have hn0:(out.length:Int)≠0:=by omega
  obtain ⟨c2,g2⟩:∃ c,rg47_2=c:=⟨_,rfl⟩
  subst g3
  unfold rg47_3
  rw [g2]
  conv=>whnf
  refine ⟨hn0,?_⟩
  conv=>whnf
  refine ⟨hn0,?_⟩
  conv=>whnf
  have e1:(IntKind.i64.wrap ((f:Int).tmod (out.length:Int)+(k:Int))).tmod (out.length:Int)=(((f % out.length+k) % out.length:Nat):Int):=by
   have h1:(f:Int).tmod (out.length:Int)=((f % out.length:Nat):Int):=(Int.ofNat_tmod f out.length).symm
   have h2:=Nat.mod_lt f hn
   rw [h1,wrapI _ (by omega) (by omega),←Int.natCast_add,←Int.ofNat_tmod]
  rw [e1]
  obtain ⟨one,hone⟩:∃ one,one=(f % out.length+k) % out.length:=⟨_,rfl⟩
  have h1:one<out.length:=by rw [hone];exact Nat.mod_lt _ hn
  have hp:pickG (fit47 ps wl.length i out f) out.length f (k+1)=if pickG (fit47 ps wl.length i out f) out.length f k=out.length∧fit47 ps wl.length i out f one=true then one else pickG (fit47 ps wl.length i out f) out.length f k:=by rw [hone];rfl
  rw [←hone]
  subst g2
  unfold rg47_2
  conv=>whnf
  have hb1:0≤(one:Int)∧(one:Int)<(out.length:Int):=by omega
  obtain ⟨ha,hb,hcc⟩:=ho.at h1
  have h0:0≤(0:Int)∧(0:Int)<((ix out (one:Int)).length:Int):=by omega
  have hx:=hcc _ (ix_mem h0)
  have hxi:0≤(i:Int)∧(i:Int)<(ps.length:Int):=by omega
  rcases bt (decide (((pickG (fit47 ps wl.length i out f) out.length f k:Nat):Int)=(out.length:Int))) with hd | hd
  ·rw [hd]
   conv=>whnf
   have hd':pickG (fit47 ps wl.length i out f) out.length f k=out.length:=by have:=of_decide_eq_true hd;omega
   refine ⟨by decide,?_⟩
   conv=>whnf
   rcases bt (decide (0<(f:Int).tmod 7)) with hd2 | hd2
   ·rw [hd2]
    conv=>whnf
    have hd2':0<f % 7:=by have:=of_decide_eq_true hd2;rw [show (7:Int)=((7:Nat):Int) from rfl,←Int.ofNat_tmod] at this;omega
    refine ⟨hb1,?_⟩
    conv=>whnf
    refine nthK_of (get_grow X _) ?_
    conv=>whnf
    refine rdD ownI out (one:Int) hb1 ?_
    conv=>whnf
    refine ⟨h0,?_⟩
    rw [drop1 I (ix out (one:Int)) 0 h0]
    conv=>whnf
    refine ⟨hx,?_⟩
    rw [dropS pr 2 pr_len ps (ix (ix out (one:Int)) 0) hx]
    conv=>whnf
    refine ⟨hxi,?_⟩
    rw [dropS pr 2 pr_len ps (i:Int) hxi]
    conv=>whnf
    rcases bt (decide ((ix ps (ix (ix out (one:Int)) 0)).1=(ix ps (i:Int)).1)) with hd3 | hd3
    ·rw [hd3]
     conv=>whnf
     refine ⟨hb1,?_⟩
     conv=>whnf
     refine nthK_of (get_grow X _) ?_
     conv=>whnf
     refine rdD ownI out (one:Int) hb1 ?_
     conv=>whnf
     refine ⟨(allc (pu_agg (allc rfl (allc (pu_map (fun _=>rfl) _ _ _) (allc rfl (allc rfl rfl))))) rfl),_,x51_ok hw,acc0,?_⟩
     conv=>whnf
     rcases bt (decide (((ix out (one:Int)).length:Int)<(wl.length:Int))) with hd4 | hd4
     ·rw [hd4]
      conv=>whnf
      have hfit:fit47 ps wl.length i out f one=true:=by
       unfold fit47;rw [decide_eq_true hd2',hd3,decide_eq_true (show (ix out (one:Int)).length<wl.length by have:=of_decide_eq_true hd4;omega)];rfl
      exact ⟨out.length-(k+1),by omega,k+1,by omega,rfl,by rw [hp,if_pos ⟨hd',hfit⟩,←wrapS k (by omega)];rfl,rfl⟩
     ·rw [hd4]
      conv=>whnf
      have hfit:fit47 ps wl.length i out f one=false:=by
       unfold fit47;rw [decide_eq_false (show ¬ (ix out (one:Int)).length<wl.length by have:=of_decide_eq_false hd4;omega),Bool.and_false]
      exact ⟨out.length-(k+1),by omega,k+1,by omega,rfl,by rw [hp,if_neg (fun hh=>by rw [hfit] at hh;exact absurd hh.2 (by decide)),←wrapS k (by omega)];rfl,rfl⟩
    ·rw [hd3]
     conv=>whnf
     have hfit:fit47 ps wl.length i out f one=false:=by
      unfold fit47;rw [hd3,Bool.and_false,Bool.false_and]
     exact ⟨out.length-(k+1),by omega,k+1,by omega,rfl,by rw [hp,if_neg (fun hh=>by rw [hfit] at hh;exact absurd hh.2 (by decide)),←wrapS k (by omega)];rfl,rfl⟩
   ·rw [hd2]
    conv=>whnf
    have hfit:fit47 ps wl.length i out f one=false:=by
     unfold fit47;rw [decide_eq_false (show ¬ 0<f % 7 by have:=of_decide_eq_false hd2;rw [show (7:Int)=((7:Nat):Int) from rfl,←Int.ofNat_tmod] at this;omega),Bool.false_and,Bool.false_and]
    exact ⟨out.length-(k+1),by omega,k+1,by omega,rfl,by rw [hp,if_neg (fun hh=>by rw [hfit] at hh;exact absurd hh.2 (by decide)),←wrapS k (by omega)];rfl,rfl⟩
  ·rw [hd]
   conv=>whnf
   exact ⟨out.length-(k+1),by omega,k+1,by omega,rfl,by rw [hp,if_neg (fun hh=>by have:=of_decide_eq_false hd;omega),←wrapS k (by omega)];rfl,rfl⟩
 ·obtain rfl:k=out.length:=by omega
  conv=>whnf
  exact hk
def gSt (ps:List (Int×Int)) (wn:Nat) (out:List (List Int)) (f i:Nat):List (List Int) :=
 if pickG (fit47 ps wn i out f) out.length f out.length=out.length then out++[[(i:Int)]] else out.set (pickG (fit47 ps wn i out f) out.length f out.length) (ix out (pickG (fit47 ps wn i out f) out.length f out.length:Int)++[(i:Int)])
theorem own_last (out:List (List Int)) (i:Int):(out.map ownI++[AV.lst [] 0 .full]).set out.length (ownI [i])=(out++[[i]]).map ownI:=by
 rw [List.set_append_right _ _ (by simp)];simp
theorem own_get (out:List (List Int)) {t:Nat} (h:t<out.length):(out.map ownI)[t]?=some (ownI (ix out (t:Int))):=by
 rw [List.getElem?_map,List.getElem?_eq_getElem h,ix_nat h];rfl
theorem own_set (out:List (List Int)) (t:Nat) (x:AV) (l:List Int):((out.map ownI).set t x).set t (ownI l)=(out.set t l).map ownI:=by
 rw [List.set_set,List.map_set]
theorem tail47c {ps:List (Int×Int)} {nb:List Int} {b:Bed} {out:List (List Int)} {X:List AObj} {i f:Nat} {wl:List Int} (hw:x51 b=some wl) (hps:ps.length≤1000) (hf:f≤255) (hi:i<ps.length) (hn:0<out.length) (hn2:out.length≤1000) (ho:GOk ps.length out) (hwl:wl.length≤1000)
  {Q:Ex→List AV→List AObj→Prop} (hk:∀ (X':List AObj) (u0 u4 u5 u6 u9 u10 u11 u12 u13 u14 u15 u16 u17 u18 u19 u20 u21 u22 u23 u24 u25 u26 u27 u28 u29 u30 u31 u32 u33 u34 u35 u36 u37 u38 u39 u40 u41 u42 u43 u44 u45 u46 u47 u48 u49 u50 u51 u52 u53 u54 u55 u56 u57 u58 u59 u60 u61 u62 u63 u64 u65 u66 u67 u68 u69 u70 u71 u72 u73 u74 u75 u76 u77 u78 u79 u80 u81 u82 u83 u84 u85 u86 u87 u88 u89 u90 u91 u92 u93 u94 u95 u96 u97 u98 u99 u100:AV),Q .normal [u0,(.lst (ps.flatMap pr) ps.length .shared),(.lst (nb.map U8) nb.length .shared),(.lptr [I b.1,.lst (b.2.1.map I) b.2.1.length .shared,I b.2.2.1,I b.2.2.2]),u4,u5,u6,(.gref X'.length (X'.length+1) (gSt ps wl.length out f i).length 1),(I (i:Int)),u9,u10,u11,u12,u13,u14,u15,u16,u17,u18,u19,u20,u21,u22,u23,u24,u25,u26,u27,u28,u29,u30,u31,u32,u33,u34,u35,u36,u37,u38,u39,u40,u41,u42,u43,u44,u45,u46,u47,u48,u49,u50,u51,u52,u53,u54,u55,u56,u57,u58,u59,u60,u61,u62,u63,u64,u65,u66,u67,u68,u69,u70,u71,u72,u73,u74,u75,u76,u77,u78,u79,u80,u81,u82,u83,u84,u85,u86,u87,u88,u89,u90,u91,u92,u93,u94,u95,u96,u97,u98,u99,u100] (X'++[AObj.grow ((gSt ps wl.length out f i).map ownI) (X'.length+1) 1,.dead])) {u0 u4 u5 u6 u12 u13 u14 u15 u16 u17 u18 u19 u20 u21 u22 u23 u24 u25 u26 u27 u28 u29 u30 u31 u32 u33 u34 u35 u36 u37 u38 u39 u40 u41 u42 u43 u44 u45 u46 u47 u48 u49 u50 u51 u52 u53 u54 u55 u56 u57 u58 u59 u60 u61 u62 u63 u64 u65 u66 u67 u68 u69 u70 u71 u72 u73 u74 u75 u76 u77 u78 u79 u80 u81 u82 u83 u84 u85 u86 u87 u88 u89 u90 u91 u92 u93 u94 u95 u96 u97 u98 u99 u100:AV} :
  wpR Tryz.prog ann47b 47 0 none rg47_7 [u0,(.lst (ps.flatMap pr) ps.length .shared),(.lst (nb.map U8) nb.length .shared),(.lptr [I b.1,.lst (b.2.1.map I) b.2.1.length .shared,I b.2.2.1,I b.2.2.2]),u4,u5,u6,(.gref X.length (X.length+1) out.length 1),(I (i:Int)),(I (out.length:Int)),(I (f:Int)),(I (out.length:Int)),u12,u13,u14,u15,u16,u17,u18,u19,u20,u21,u22,u23,u24,u25,u26,u27,u28,u29,u30,u31,u32,u33,u34,u35,u36,u37,u38,u39,u40,u41,u42,u43,u44,u45,u46,u47,u48,u49,u50,u51,u52,u53,u54,u55,u56,u57,u58,u59,u60,u61,u62,u63,u64,u65,u66,u67,u68,u69,u70,u71,u72,u73,u74,u75,u76,u77,u78,u79,u80,u81,u82,u83,u84,u85,u86,u87,u88,u89,u90,u91,u92,u93,u94,u95,u96,u97,u98,u99,u100] (X++[AObj.grow (out.map ownI) (X.length+1) 1,.dead]) Q:=by
 unfold rg47_7
 obtain ⟨cI,gI⟩:∃ c,rg47_I=c:=⟨_,rfl⟩
 obtain ⟨c5,g5⟩:∃ c,rg47_5=c:=⟨_,rfl⟩
 obtain ⟨c6,g6⟩:∃ c,rg47_6=c:=⟨_,rfl⟩
 rw [gI,g5,g6]
 conv=>whnf
 subst gI
 refine pick47 hw hps hf hi hn hn2 ho hwl ?_ (by exact rfl)
 conv=>whnf
 have hple:=pickG_le (fit47 ps wl.length i out f) (f:=f) hn out.length
 obtain ⟨t,ht⟩:∃ t,t=pickG (fit47 ps wl.length i out f) out.length f out.length:=⟨_,rfl⟩
 unfold gSt at hk
 rw [←ht] at hk hple ⊢
 rcases bt (decide ((t:Int)=(out.length:Int))) with hd | hd
 ·rw [hd]
  have hd':t=out.length:=by have:=of_decide_eq_true hd;omega
  rw [if_pos hd'] at hk
  subst hd'
  conv=>whnf
  subst g5
  unfold rg47_5
  conv=>whnf
  refine ⟨⟨rfl,by decide⟩,?_⟩
  conv=>whnf
  refine nthK_of (get_grow X _) ?_
  conv=>whnf
  refine ⟨⟨rfl,rfl,rfl,by simp,by decide,by omega⟩,?_⟩
  rw [set_grow,show (X++[AObj.grow (out.map ownI) (X.length+1) 1,.dead]).length=(X++[AObj.dead,.dead]).length by simp]
  obtain ⟨X',hX'⟩:∃ X',X'=X++[AObj.dead,.dead]:=⟨_,rfl⟩
  rw [←hX']
  conv=>whnf
  subst g6
  unfold rg47_6
  conv=>whnf
  rw [show (AV.lst [] 0 Cap.full::[].append (repl 0 [AV.lst [] 0 Cap.full]))=[AV.lst [] 0 Cap.full] from rfl]
  refine ⟨by omega,?_⟩
  conv=>whnf
  refine nthK_of (get_grow X' _) ?_
  conv=>whnf
  refine nthK_of (x:=AV.lst [] 0 .full) (by simp) ?_
  conv=>whnf
  refine ⟨rfl,by decide,by decide,by decide,rfl,?_⟩
  conv=>whnf
  refine ⟨by omega,?_⟩
  conv=>whnf
  refine nthK_of (get_grow X' _) ?_
  conv=>whnf
  refine updK_of (by simp) ?_
  conv=>whnf
  rw [set_grow,show 0+(out.length:Int).toNat*1=out.length by simp]
  have eL:=own_last out (i:Int)
  erw [eL]
  rw [show (out++[[(i:Int)]]).length=out.length+1 by simp] at hk
  exact hk X' _ _ _ _ _ _ _ _ _ _ _ _ _ _ _ _ _ _ _ _ _ _ _ _ _ _ _ _ _ _ _ _ _ _ _ _ _ _ _ _ _ _ _ _ _ _ _ _ _ _ _ _ _ _ _ _ _ _ _ _ _ _ _ _ _ _ _ _ _ _ _ _ _ _ _ _ _ _ _ _ _ _ _ _ _ _ _ _ _ _ _ _ _ _ _ _
 ·rw [hd]
  have hd':t<out.length:=by have:=of_decide_eq_false hd;omega
  rw [if_neg (by omega)] at hk
  have hb1:0≤(t:Int)∧(t:Int)<(out.length:Int):=by omega
  obtain ⟨ha,hb,hcc⟩:=ho.at hd'
  conv=>whnf
  subst g6
  unfold rg47_6
  conv=>whnf
  refine ⟨hb1,?_⟩
  conv=>whnf
  refine nthK_of (get_grow X _) ?_
  conv=>whnf
  refine nthK_of (x:=ownI (ix out (t:Int))) (by rw [show 0+(t:Int).toNat*1=t by simp];exact own_get out hd') ?_
  conv=>whnf
  rw [set_grow]
  refine ⟨rfl,by decide,rfl,by omega,?_⟩
  conv=>whnf
  refine ⟨hb1,?_⟩
  conv=>whnf
  refine nthK_of (get_grow X _) ?_
  conv=>whnf
  refine updK_of (by simp;omega) ?_
  conv=>whnf
  rw [set_grow,show 0+(t:Int).toNat*1=t by simp]
  have eL:=own_set out t (AV.lst ((ix out (t:Int)).map I) (ix out (t:Int)).length .shared) (ix out (t:Int)++[(i:Int)])
  rw [show ownI (ix out (t:Int)++[(i:Int)])=AV.lst ((ix out (t:Int)).map I++[I (i:Int)]) ((ix out (t:Int)).length+1) (.own 1) by simp [ownI]] at eL
  erw [eL]
  rw [List.length_set] at hk
  exact hk X _ _ _ _ _ _ _ _ _ _ _ _ _ _ _ _ _ _ _ _ _ _ _ _ _ _ _ _ _ _ _ _ _ _ _ _ _ _ _ _ _ _ _ _ _ _ _ _ _ _ _ _ _ _ _ _ _ _ _ _ _ _ _ _ _ _ _ _ _ _ _ _ _ _ _ _ _ _ _ _ _ _ _ _ _ _ _ _ _ _ _ _ _ _ _ _
theorem tail47n {ps:List (Int×Int)} {nb:List Int} {b:Bed} {X:List AObj} {i f:Nat} {wl:List Int} {out:List (List Int)} (hout:out=[])
  {Q:Ex→List AV→List AObj→Prop} (hk:∀ (X':List AObj) (u0 u4 u5 u6 u9 u10 u11 u12 u13 u14 u15 u16 u17 u18 u19 u20 u21 u22 u23 u24 u25 u26 u27 u28 u29 u30 u31 u32 u33 u34 u35 u36 u37 u38 u39 u40 u41 u42 u43 u44 u45 u46 u47 u48 u49 u50 u51 u52 u53 u54 u55 u56 u57 u58 u59 u60 u61 u62 u63 u64 u65 u66 u67 u68 u69 u70 u71 u72 u73 u74 u75 u76 u77 u78 u79 u80 u81 u82 u83 u84 u85 u86 u87 u88 u89 u90 u91 u92 u93 u94 u95 u96 u97 u98 u99 u100:AV),Q .normal [u0,(.lst (ps.flatMap pr) ps.length .shared),(.lst (nb.map U8) nb.length .shared),(.lptr [I b.1,.lst (b.2.1.map I) b.2.1.length .shared,I b.2.2.1,I b.2.2.2]),u4,u5,u6,(.gref X'.length (X'.length+1) (gSt ps wl.length out f i).length 1),(I (i:Int)),u9,u10,u11,u12,u13,u14,u15,u16,u17,u18,u19,u20,u21,u22,u23,u24,u25,u26,u27,u28,u29,u30,u31,u32,u33,u34,u35,u36,u37,u38,u39,u40,u41,u42,u43,u44,u45,u46,u47,u48,u49,u50,u51,u52,u53,u54,u55,u56,u57,u58,u59,u60,u61,u62,u63,u64,u65,u66,u67,u68,u69,u70,u71,u72,u73,u74,u75,u76,u77,u78,u79,u80,u81,u82,u83,u84,u85,u86,u87,u88,u89,u90,u91,u92,u93,u94,u95,u96,u97,u98,u99,u100] (X'++[AObj.grow ((gSt ps wl.length out f i).map ownI) (X'.length+1) 1,.dead])) {u0 u4 u5 u6 u12 u13 u14 u15 u16 u17 u18 u19 u20 u21 u22 u23 u24 u25 u26 u27 u28 u29 u30 u31 u32 u33 u34 u35 u36 u37 u38 u39 u40 u41 u42 u43 u44 u45 u46 u47 u48 u49 u50 u51 u52 u53 u54 u55 u56 u57 u58 u59 u60 u61 u62 u63 u64 u65 u66 u67 u68 u69 u70 u71 u72 u73 u74 u75 u76 u77 u78 u79 u80 u81 u82 u83 u84 u85 u86 u87 u88 u89 u90 u91 u92 u93 u94 u95 u96 u97 u98 u99 u100:AV} :
  wpR Tryz.prog ann47b 47 0 none rg47_7 [u0,(.lst (ps.flatMap pr) ps.length .shared),(.lst (nb.map U8) nb.length .shared),(.lptr [I b.1,.lst (b.2.1.map I) b.2.1.length .shared,I b.2.2.1,I b.2.2.2]),u4,u5,u6,(.lst [] 0 .full),(I (i:Int)),(I (0:Int)),(I (f:Int)),(I (0:Int)),u12,u13,u14,u15,u16,u17,u18,u19,u20,u21,u22,u23,u24,u25,u26,u27,u28,u29,u30,u31,u32,u33,u34,u35,u36,u37,u38,u39,u40,u41,u42,u43,u44,u45,u46,u47,u48,u49,u50,u51,u52,u53,u54,u55,u56,u57,u58,u59,u60,u61,u62,u63,u64,u65,u66,u67,u68,u69,u70,u71,u72,u73,u74,u75,u76,u77,u78,u79,u80,u81,u82,u83,u84,u85,u86,u87,u88,u89,u90,u91,u92,u93,u94,u95,u96,u97,u98,u99,u100] X Q:=by
 subst hout
 have hg:gSt ps wl.length [] f i=[[(i:Int)]]:=by unfold gSt;rw [if_pos (show pickG (fit47 ps wl.length i [] f) ([]:List (List Int)).length f ([]:List (List Int)).length=([]:List (List Int)).length from rfl)];rfl
 rw [hg] at hk
 unfold rg47_7
 obtain ⟨c4,g4⟩:∃ c,rg47_4=c:=⟨_,rfl⟩
 obtain ⟨c5,g5⟩:∃ c,rg47_5=c:=⟨_,rfl⟩
 obtain ⟨c6,g6⟩:∃ c,rg47_6=c:=⟨_,rfl⟩
 unfold rg47_I
 rw [g4,g5,g6]
 conv=>whnf
 refine .intro (fun m T H=>T=slots 101 [(1,(.lst (ps.flatMap pr) ps.length .shared)),(2,(.lst (nb.map U8) nb.length .shared)),(3,(.lptr [I b.1,.lst (b.2.1.map I) b.2.1.length .shared,I b.2.2.1,I b.2.2.2])),(7,(.lst [] 0 .full)),(8,I (i:Int)),(9,I (0:Int)),(10,I (f:Int)),(11,I (0:Int)),(12,I (0:Int))]∧H=X) 0 ⟨rfl,rfl⟩ ?_
 rintro m T H ⟨rfl,rfl⟩
 subst g4
 obtain ⟨c3,g3⟩:∃ c,rg47_3=c:=⟨_,rfl⟩
 unfold rg47_4
 rw [g3]
 conv=>whnf
 subst g5
 unfold rg47_5
 conv=>whnf
 refine ⟨⟨rfl,by decide⟩,?_⟩
 conv=>whnf
 refine ⟨⟨by decide,by decide,rfl⟩,?_⟩
 conv=>whnf
 subst g6
 unfold rg47_6
 conv=>whnf
 refine ⟨by decide,?_⟩
 conv=>whnf
 refine nthK_of (get_grow H _) ?_
 conv=>whnf
 refine ⟨rfl,by decide,by decide,by decide,rfl,?_⟩
 conv=>whnf
 refine ⟨by decide,?_⟩
 conv=>whnf
 refine nthK_of (get_grow H _) ?_
 conv=>whnf
 rw [set_grow]
 exact hk H _ _ _ _ _ _ _ _ _ _ _ _ _ _ _ _ _ _ _ _ _ _ _ _ _ _ _ _ _ _ _ _ _ _ _ _ _ _ _ _ _ _ _ _ _ _ _ _ _ _ _ _ _ _ _ _ _ _ _ _ _ _ _ _ _ _ _ _ _ _ _ _ _ _ _ _ _ _ _ _ _ _ _ _ _ _ _ _ _ _ _ _ _ _ _ _
def fromN (nb:List Int) (i:Nat):Nat:=if 0<nb.length then (ix nb ((i % nb.length:Nat):Int)).toNat else 0
def givenL (ps:List (Int×Int)) (wn:Nat) (nb:List Int):Nat→List (List Int)
 | 0=>[]
 | i+1=>gSt ps wn (givenL ps wn nb i) (fromN nb i) i
theorem gSt_len (ps:List (Int×Int)) (wn:Nat) (out:List (List Int)) (f i:Nat):(gSt ps wn out f i).length≤out.length+1∧0<(gSt ps wn out f i).length:=by
 unfold gSt
 split
 ·simp
 ·rename_i h
  rw [List.length_set]
  refine ⟨by omega,?_⟩
  cases out with
  | nil=>exact absurd rfl h
  | cons a l=>simp
theorem gSt_ok {ps:List (Int×Int)} {wn:Nat} {out:List (List Int)} {f i:Nat} (hi:i<ps.length) (hps:ps.length≤20) (ho:∀ l∈out,0<l.length∧l.length≤i∧∀ x∈l,0≤x∧x<(i:Int)) :
  ∀ l∈gSt ps wn out f i,0<l.length∧l.length≤i+1∧∀ x∈l,0≤x∧x<((i+1:Nat):Int):=by
 intro l hl
 unfold gSt at hl
 split at hl
 ·rcases List.mem_append.1 hl with h | h
  ·obtain ⟨h1,h2,h3⟩:=ho l h
   exact ⟨h1,by omega,fun x hx=>by have:=h3 x hx;omega⟩
  ·obtain rfl:=List.mem_singleton.1 h
   exact ⟨by simp,by simp,fun x hx=>by obtain rfl:=List.mem_singleton.1 hx;omega⟩
 ·rename_i hne
  cases out with
  | nil=>exact absurd rfl hne
  | cons a r =>
    have hlt:=Nat.lt_of_le_of_ne (pickG_le (fit47 ps wn i (a::r) f) (f:=f) (by simp:0<(a::r).length) (a::r).length) hne
    rcases List.mem_or_eq_of_mem_set hl with h | h
    ·obtain ⟨h1,h2,h3⟩:=ho l h
     exact ⟨h1,by omega,fun x hx=>by have:=h3 x hx;omega⟩
    ·subst h
     have hm:ix (a::r) ((pickG (fit47 ps wn i (a::r) f) (a::r).length f (a::r).length:Nat):Int)∈a::r:=by rw [ix_nat hlt];exact List.getElem_mem _
     obtain ⟨h1,h2,h3⟩:=ho _ hm
     refine ⟨by simp,by simp;omega,fun x hx=>?_⟩
     rcases List.mem_append.1 hx with h | h
     ·have:=h3 x h;omega
     ·obtain rfl:=List.mem_singleton.1 h;omega
theorem givenL_ok {ps:List (Int×Int)} {wn:Nat} {nb:List Int} (hps:ps.length≤20):∀ i,i≤ps.length→(givenL ps wn nb i).length≤i∧∀ l∈givenL ps wn nb i,0<l.length∧l.length≤i∧∀ x∈l,0≤x∧x<(i:Int)
 | 0,_=>⟨Nat.le_refl _,fun l hl=>by simp [givenL] at hl⟩
 | i+1,h=>by
   obtain ⟨h1,h2⟩:=givenL_ok hps i (by omega)
   exact ⟨Nat.le_trans (gSt_len ps wn _ _ i).1 (by omega),gSt_ok (by omega) hps h2⟩
theorem frz_gref {P:Program} {C:CallFn} {lo id gid n z:Nat} {o:Oper} {x:Operand} {H:List AObj} {l:List AV} {g z':Nat} (ho:o.op=.move x) (hlo:lo≤id) (hH:H[id]?=some (.grow l g z')) (hn:l.length=n*z) :
  opAll P C lo o 2 [.gref id gid n z] H=some (.lst (l.map AV.view) n .shared,H.set id .dead):=by
 unfold opAll;rw [ho]
 show opMove P lo 2 o.type x H [.gref id gid n z]=_
 unfold opMove
 simp only [hlo,if_true,hH]
 rw [if_pos hn]
theorem own_view (out:List (List Int)):(out.map ownI).map AV.view=out.map L1:=by rw [List.map_map];rfl
theorem given_ok {ps:List (Int×Int)} {nb:List Int} {b:Bed} {wl:List Int} (hw:x51 b=some wl) (hps:ps.length≤20) (hnb:nb.length≤20) (h255:∀ x∈nb,0≤x∧x≤255) (hwl:wl.length≤1000) :
  PO 47 [(.agg [(I b.1),(.lst (b.2.1.map I) b.2.1.length .shared),(I b.2.2.1),(I b.2.2.2)]),(.lst (ps.flatMap pr) ps.length .shared),(.lst (nb.map U8) nb.length .shared)] (.lst ((givenL ps wl.length nb ps.length).map L1) (givenL ps wl.length nb ps.length).length .shared):=by
 refine fn_pureW hmix lg47 rfl (pu_map (fun _=>(pu_map (fun _=>rfl) _ _ _)) _ _ _) fun Q hQ=>?_
 have hR:∀ T H,RetW [.tmp 6] (.lst ((givenL ps wl.length nb ps.length).map L1) (givenL ps wl.length nb ps.length).length .shared) .ret T H→Q .ret T H:=fun T H hh=>hQ _ T H hh
 unfold rg47
 obtain ⟨c10,g10⟩:∃ c,rg47_10=c:=⟨_,rfl⟩
 unfold rg47_11 rg47_O
 rw [g10]
 conv=>whnf
 refine ⟨rfl,?_⟩
 conv=>whnf
 refine ⟨_,_,fun C=>rfl,?_⟩
 conv=>whnf
 refine .intro (fun m T H=>∃ (j:Nat) (G:AV),j≤ps.length∧m=ps.length-j∧T=slots 101 [(1,(.lst (ps.flatMap pr) ps.length .shared)),(2,(.lst (nb.map U8) nb.length .shared)),(3,(.lptr [I b.1,.lst (b.2.1.map I) b.2.1.length .shared,I b.2.2.1,I b.2.2.2])),(7,G),(8,I (j:Int))] ∧
  ((givenL ps wl.length nb j=[]∧G=.lst [] 0 .full)∨(0<(givenL ps wl.length nb j).length∧∃ X:List AObj,G=.gref X.length (X.length+1) (givenL ps wl.length nb j).length 1∧H=X++[AObj.grow ((givenL ps wl.length nb j).map ownI) (X.length+1) 1,.dead]))) ps.length ⟨0,_,Nat.zero_le _,rfl,rfl,.inl ⟨rfl,rfl⟩⟩ ?_
 rintro m T H ⟨j,G,hj,rfl,rfl,hG⟩
 subst g10
 obtain ⟨c9,g9⟩:∃ c,rg47_9=c:=⟨_,rfl⟩
 unfold rg47_10
 rw [g9]
 conv=>whnf
 refine dcase (fun hc=>?_) (fun hc=>?_)
 ·have hlt:j<ps.length:=by omega
  have hgo:=givenL_ok (wn:=wl.length) (nb:=nb) hps j hj
  have hstep:givenL ps wl.length nb (j+1)=gSt ps wl.length (givenL ps wl.length nb j) (fromN nb j) j:=rfl
  obtain ⟨out,hout⟩:∃ out,out=givenL ps wl.length nb j:=⟨_,rfl⟩
  rw [←hout] at hG hgo hstep
  have hfr:fromN nb j≤255:=by
   unfold fromN;split
   ·rename_i h0
    have:=h255 _ (ix_mem (l:=nb) (i:=((j % nb.length:Nat):Int)) (by have:=Nat.mod_lt j h0;omega));omega
   ·omega
  have hen:=(gSt_len ps wl.length out (fromN nb j) j).2
  have hrem:0<nb.length→(j:Int).tmod (nb.length:Int)=((j % nb.length:Nat):Int):=fun _=>(Int.ofNat_tmod j nb.length).symm
  have hwr:((ps.length-(j+1):Nat)<ps.length-j):=by omega
  subst g9
  obtain ⟨c7,g7⟩:∃ c,rg47_7=c:=⟨_,rfl⟩
  obtain ⟨c1,g1⟩:∃ c,rg47_1=c:=⟨_,rfl⟩
  unfold rg47_9 rg47_8
  rw [g7,g1]
  rcases hG with ⟨ho,rfl⟩ | ⟨ho,X,rfl,rfl⟩
  ·conv=>whnf
   rcases bt (decide ((0:Int)<(nb.length:Int))) with hd | hd
   ·rw [hd]
    have h0:0<nb.length:=by have:=of_decide_eq_true hd;omega
    have hb:0≤((j % nb.length:Nat):Int)∧((j % nb.length:Nat):Int)<(nb.length:Int):=by have:=Nat.mod_lt j h0;omega
    have hx:=h255 _ (ix_mem hb)
    have hf:fromN nb j=(ix nb ((j % nb.length:Nat):Int)).toNat:=if_pos h0
    conv=>whnf
    subst g1
    unfold rg47_1
    conv=>whnf
    refine ⟨by omega,?_⟩
    rw [hrem h0]
    conv=>whnf
    refine ⟨hb,?_⟩
    rw [drop1 U8 nb _ hb]
    conv=>whnf
    rw [wrapI _ (by omega) (by omega),show ix nb ((j % nb.length:Nat):Int)=((fromN nb j:Nat):Int) by rw [hf];omega]
    subst g7
    refine tail47n (wl:=wl) ho ?_
    intro X' u0 u4 u5 u6 u9 u10 u11 u12 u13 u14 u15 u16 u17 u18 u19 u20 u21 u22 u23 u24 u25 u26 u27 u28 u29 u30 u31 u32 u33 u34 u35 u36 u37 u38 u39 u40 u41 u42 u43 u44 u45 u46 u47 u48 u49 u50 u51 u52 u53 u54 u55 u56 u57 u58 u59 u60 u61 u62 u63 u64 u65 u66 u67 u68 u69 u70 u71 u72 u73 u74 u75 u76 u77 u78 u79 u80 u81 u82 u83 u84 u85 u86 u87 u88 u89 u90 u91 u92 u93 u94 u95 u96 u97 u98 u99 u100
    conv=>whnf
    exact ⟨ps.length-(j+1),hwr,j+1,.gref X'.length (X'.length+1) (gSt ps wl.length out (fromN nb j) j).length 1,by omega,rfl,by rw [←wrapS j (by omega)];rfl,.inr ⟨by rw [hstep];exact hen,X',by rw [hstep],by rw [hstep]⟩⟩
   ·rw [hd]
    have hf:fromN nb j=0:=if_neg (by have:=of_decide_eq_false hd;omega)
    conv=>whnf
    rw [show (AV.int IntKind.i64 0)=AV.int IntKind.i64 ((fromN nb j:Nat):Int) by rw [hf];rfl]
    subst g7
    refine tail47n (wl:=wl) ho ?_
    intro X' u0 u4 u5 u6 u9 u10 u11 u12 u13 u14 u15 u16 u17 u18 u19 u20 u21 u22 u23 u24 u25 u26 u27 u28 u29 u30 u31 u32 u33 u34 u35 u36 u37 u38 u39 u40 u41 u42 u43 u44 u45 u46 u47 u48 u49 u50 u51 u52 u53 u54 u55 u56 u57 u58 u59 u60 u61 u62 u63 u64 u65 u66 u67 u68 u69 u70 u71 u72 u73 u74 u75 u76 u77 u78 u79 u80 u81 u82 u83 u84 u85 u86 u87 u88 u89 u90 u91 u92 u93 u94 u95 u96 u97 u98 u99 u100
    conv=>whnf
    exact ⟨ps.length-(j+1),hwr,j+1,.gref X'.length (X'.length+1) (gSt ps wl.length out (fromN nb j) j).length 1,by omega,rfl,by rw [←wrapS j (by omega)];rfl,.inr ⟨by rw [hstep];exact hen,X',by rw [hstep],by rw [hstep]⟩⟩
  ·conv=>whnf
   rcases bt (decide ((0:Int)<(nb.length:Int))) with hd | hd
   ·rw [hd]
    have h0:0<nb.length:=by have:=of_decide_eq_true hd;omega
    have hb:0≤((j % nb.length:Nat):Int)∧((j % nb.length:Nat):Int)<(nb.length:Int):=by have:=Nat.mod_lt j h0;omega
    have hx:=h255 _ (ix_mem hb)
    have hf:fromN nb j=(ix nb ((j % nb.length:Nat):Int)).toNat:=if_pos h0
    conv=>whnf
    subst g1
    unfold rg47_1
    conv=>whnf
    refine ⟨by omega,?_⟩
    rw [hrem h0]
    conv=>whnf
    refine ⟨hb,?_⟩
    rw [drop1 U8 nb _ hb]
    conv=>whnf
    rw [wrapI _ (by omega) (by omega),show ix nb ((j % nb.length:Nat):Int)=((fromN nb j:Nat):Int) by rw [hf];omega]
    subst g7
    refine tail47c hw (by omega) hfr hlt ho (by omega) (fun l hl=>by obtain ⟨a1,a2,a3⟩:=hgo.2 l hl;exact ⟨a1,by omega,fun x hx=>by have:=a3 x hx;omega⟩) hwl ?_
    intro X' u0 u4 u5 u6 u9 u10 u11 u12 u13 u14 u15 u16 u17 u18 u19 u20 u21 u22 u23 u24 u25 u26 u27 u28 u29 u30 u31 u32 u33 u34 u35 u36 u37 u38 u39 u40 u41 u42 u43 u44 u45 u46 u47 u48 u49 u50 u51 u52 u53 u54 u55 u56 u57 u58 u59 u60 u61 u62 u63 u64 u65 u66 u67 u68 u69 u70 u71 u72 u73 u74 u75 u76 u77 u78 u79 u80 u81 u82 u83 u84 u85 u86 u87 u88 u89 u90 u91 u92 u93 u94 u95 u96 u97 u98 u99 u100
    conv=>whnf
    exact ⟨ps.length-(j+1),hwr,j+1,.gref X'.length (X'.length+1) (gSt ps wl.length out (fromN nb j) j).length 1,by omega,rfl,by rw [←wrapS j (by omega)];rfl,.inr ⟨by rw [hstep];exact hen,X',by rw [hstep],by rw [hstep]⟩⟩
   ·rw [hd]
    have hf:fromN nb j=0:=if_neg (by have:=of_decide_eq_false hd;omega)
    conv=>whnf
    rw [show (AV.int IntKind.i64 0)=AV.int IntKind.i64 ((fromN nb j:Nat):Int) by rw [hf];rfl]
    subst g7
    refine tail47c hw (by omega) hfr hlt ho (by omega) (fun l hl=>by obtain ⟨a1,a2,a3⟩:=hgo.2 l hl;exact ⟨a1,by omega,fun x hx=>by have:=a3 x hx;omega⟩) hwl ?_
    intro X' u0 u4 u5 u6 u9 u10 u11 u12 u13 u14 u15 u16 u17 u18 u19 u20 u21 u22 u23 u24 u25 u26 u27 u28 u29 u30 u31 u32 u33 u34 u35 u36 u37 u38 u39 u40 u41 u42 u43 u44 u45 u46 u47 u48 u49 u50 u51 u52 u53 u54 u55 u56 u57 u58 u59 u60 u61 u62 u63 u64 u65 u66 u67 u68 u69 u70 u71 u72 u73 u74 u75 u76 u77 u78 u79 u80 u81 u82 u83 u84 u85 u86 u87 u88 u89 u90 u91 u92 u93 u94 u95 u96 u97 u98 u99 u100
    conv=>whnf
    exact ⟨ps.length-(j+1),hwr,j+1,.gref X'.length (X'.length+1) (gSt ps wl.length out (fromN nb j) j).length 1,by omega,rfl,by rw [←wrapS j (by omega)];rfl,.inr ⟨by rw [hstep];exact hen,X',by rw [hstep],by rw [hstep]⟩⟩
 ·obtain rfl:j=ps.length:=by omega
  rcases hG with ⟨ho,rfl⟩ | ⟨ho,X,rfl,rfl⟩
  ·conv=>whnf
   refine ⟨_,_,fun C=>rfl,?_⟩
   conv=>whnf
   rw [ho] at hR
   exact hR _ _ ⟨.inr rfl,_,rfl,_,frz_pure rfl,rfl⟩
  ·conv=>whnf
   refine ⟨_,_,fun C=>frz_gref rfl (Nat.zero_le _) (get_grow X _) (by simp),?_⟩
   rw [own_view]
   conv=>whnf
   exact hR _ _ ⟨.inr rfl,_,rfl,_,frz_pure (pu_map (fun _=>(pu_map (fun _=>rfl) _ _ _)) _ _ _),rfl⟩
def x47 (b:Bed) (ps:List (Int×Int)) (nb:List Int):Option (List (List Int)) :=
 (x51 b).bind fun wl=>if ps.length≤20∧nb.length≤20∧(nb.all fun x=>decide (0≤x∧x≤255))=true∧wl.length≤1000 then some (givenL ps wl.length nb ps.length) else none
theorem x47_ok {b:Bed} {ps:List (Int×Int)} {nb:List Int} {v:List (List Int)} (h:x47 b ps nb=some v):PO 47 [(.agg [(I b.1),(.lst (b.2.1.map I) b.2.1.length .shared),(I b.2.2.1),(I b.2.2.2)]),(.lst (ps.flatMap pr) ps.length .shared),(.lst (nb.map U8) nb.length .shared)] (.lst (v.map L1) v.length .shared):=by
 obtain ⟨wl,hw,h⟩:=bd_some h
 split at h
 ·rename_i hc
  obtain rfl:=Option.some.inj h
  exact given_ok hw hc.1 hc.2.1 (fun x hx=>of_decide_eq_true (List.all_eq_true.1 hc.2.2.1 x hx)) hc.2.2.2
 ·cases h

end Go.Proofs.YtbnbjjgagikobaaGreat.Ab


namespace Go.Proofs.YtbnbjjgagikobaaGreat.Ab
open Go
set_option maxRecDepth 20000
set_option maxHeartbeats 4000000

theorem pickG_true (P:Nat→Bool) (n f:Nat):∀ k,pickG P n f k=n∨P (pickG P n f k)=true
 | 0=>.inl rfl
 | k+1=>by
   rw [pickG]
   by_cases h:pickG P n f k=n∧P ((f % n+k) % n)=true
   ·rw [if_pos h];exact .inr h.2
   ·rw [if_neg h];exact pickG_true P n f k
structure GI (n:Nat) (ps:List (Int×Int)) (out:List (List Int)) (i:Nat):Prop where
 ne:∀ t∈out,0<t.length
 rng:∀ t∈out,∀ x∈t,0≤x∧x<(i:Int)
 up:∀ t∈out,t.Pairwise (·<·)
 len:∀ t∈out,t.length≤n
 heat:∀ t∈out,∀ x∈t,(ix ps x).1=heatT ps t
 nd:out.flatten.Nodup
 all:out.flatten.length=i
theorem flatt_set (x:Int):∀ (L:List (List Int)) (k:Nat) (h:k<L.length),(L.set k (L[k]++[x])).flatten.Perm (L.flatten++[x])
 | [],_,h=>absurd h (by simp)
 | e::L,0,_=>by
   show (e++[x]++L.flatten).Perm (e++L.flatten++[x])
   rw [List.append_assoc,List.append_assoc]
   exact List.Perm.append (.refl _) List.perm_append_comm
 | e::L,k+1,h=>by
   have hk:k<L.length:=by simpa using h
   show (e++(L.set k (L[k]'hk++[x])).flatten).Perm (e++L.flatten++[x])
   rw [List.append_assoc]
   exact List.Perm.append (.refl _) (flatt_set x L k hk)
theorem snoc_nodup {l:List Int} {x:Int} (h:l.Nodup) (hx:∀ y∈l,y<x):(l++[x]).Nodup :=
 List.pairwise_append.2 ⟨h,List.pairwise_singleton _ _,fun a ha b hb e=>by have:=hx a ha;rw [List.mem_singleton] at hb;omega⟩
theorem GI.step {n:Nat} (hn:1≤n) {ps:List (Int×Int)} {out:List (List Int)} {i:Nat} (h:GI n ps out i) (f:Nat):GI n ps (gSt ps n out f i) (i+1):=by
 have hlt:∀ y∈out.flatten,y<(i:Int):=fun y hy=>by
  obtain ⟨t,ht,hyt⟩:=List.mem_flatten.1 hy
  exact (h.rng t ht y hyt).2
 have hsn:=snoc_nodup h.nd hlt
 unfold gSt
 by_cases hk:pickG (fit47 ps n i out f) out.length f out.length=out.length
 ·rw [if_pos hk]
  have hm:∀ t,t∈out++[[(i:Int)]]→t∈out∨t=[(i:Int)]:=fun t ht=>by simpa using ht
  have hfl:(out++[[(i:Int)]]).flatten=out.flatten++[(i:Int)]:=by simp
  refine ⟨fun t ht=>?_,fun t ht x hx=>?_,fun t ht=>?_,fun t ht=>?_,fun t ht x hx=>?_,by rw [hfl];exact hsn,by rw [hfl,List.length_append,h.all];rfl⟩
  ·rcases hm t ht with h1 | rfl
   ·exact h.ne t h1
   ·simp
  ·rcases hm t ht with h1 | rfl
   ·have:=h.rng t h1 x hx;omega
   ·rw [List.mem_singleton] at hx;omega
  ·rcases hm t ht with h1 | rfl
   ·exact h.up t h1
   ·exact List.pairwise_singleton _ _
  ·rcases hm t ht with h1 | rfl
   ·exact h.len t h1
   ·simpa using hn
  ·rcases hm t ht with h1 | rfl
   ·exact h.heat t h1 x hx
   ·rw [List.mem_singleton] at hx;rw [hx];rfl
 ·rw [if_neg hk]
  have hn0:0<out.length:=by
   rcases Nat.eq_zero_or_pos out.length with h0 | h0
   ·rw [h0] at hk;exact absurd rfl hk
   ·exact h0
  have hP:=(pickG_true (fit47 ps n i out f) out.length f out.length).resolve_left hk
  have hle:=pickG_le (fit47 ps n i out f) (f:=f) hn0 out.length
  generalize pickG (fit47 ps n i out f) out.length f out.length=k at hk hP hle
  have hkl:k<out.length:=by omega
  have hix:ix out (k:Int)=out[k]:=ix_nat hkl
  simp only [fit47,Bool.and_eq_true,decide_eq_true_eq,hix] at hP
  rw [hix]
  obtain ⟨⟨_,hP2⟩,hP3⟩:=hP
  have hmk:=List.getElem_mem hkl
  have hm:∀ t,t∈out.set k (out[k]++[(i:Int)])→t∈out∨t=out[k]++[(i:Int)]:=fun t ht=>List.mem_or_eq_of_mem_set ht
  have hpm:=flatt_set (i:Int) out k hkl
  have hne:=h.ne _ hmk
  have hh0:heatT ps (out[k]++[(i:Int)])=heatT ps out[k]:=by
   unfold heatT
   have:ix (out[k]++[(i:Int)]) 0=ix out[k] 0:=by
    generalize out[k]=t at hne
    cases t with
    | nil=>cases hne
    | cons a t=>rfl
   rw [this]
  refine ⟨fun t ht=>?_,fun t ht x hx=>?_,fun t ht=>?_,fun t ht=>?_,fun t ht x hx=>?_,hpm.nodup_iff.2 hsn,by rw [hpm.length_eq,List.length_append,h.all];rfl⟩
  ·rcases hm t ht with h1 | rfl
   ·exact h.ne t h1
   ·simp
  ·rcases hm t ht with h1 | rfl
   ·have:=h.rng t h1 x hx;omega
   ·rcases List.mem_append.1 hx with h2 | h2
    ·have:=h.rng _ hmk x h2;omega
    ·rw [List.mem_singleton] at h2;omega
  ·rcases hm t ht with h1 | rfl
   ·exact h.up t h1
   ·exact List.pairwise_append.2 ⟨h.up _ hmk,List.pairwise_singleton _ _,fun a ha b hb=>by
     have:=h.rng _ hmk a ha;rw [List.mem_singleton] at hb;omega⟩
  ·rcases hm t ht with h1 | rfl
   ·exact h.len t h1
   ·rw [List.length_append];simp only [List.length_singleton];omega
  ·rcases hm t ht with h1 | rfl
   ·exact h.heat t h1 x hx
   ·rw [hh0]
    rcases List.mem_append.1 hx with h2 | h2
    ·exact h.heat _ hmk x h2
    ·rw [List.mem_singleton] at h2;rw [h2];exact hP2.symm
theorem givenL_GI {n:Nat} (hn:1≤n) (ps:List (Int×Int)) (nb:List Int):∀ i,GI n ps (givenL ps n nb i) i
 | 0=>⟨by simp [givenL],by simp [givenL],by simp [givenL],by simp [givenL],by simp [givenL],by simp [givenL],rfl⟩
 | i+1=>(givenL_GI hn ps nb i).step hn _
theorem GI.ok {n:Nat} {ps:List (Int×Int)} {out:List (List Int)} (h:GI n ps out ps.length):TOk n ps [] out :=
 ⟨h.ne,h.rng,h.up,h.len,h.heat,by rw [List.nil_append];exact h.nd,by rw [List.nil_append,h.all];exact Nat.le_refl _⟩
def givT (b:Bed) (ps:List (Int×Int)) (nb:List Int):List (List Int):=givenL ps (wn b) nb ps.length
theorem givT_ok {b:Bed} (hb:bErr b=0) (ps:List (Int×Int)) (nb:List Int):TOk (wn b) ps [] (givT b ps nb):=(givenL_GI (wn_pos (bedOk hb)).1 ps nb _).ok
theorem x47_eq {b:Bed} (hb:bErr b=0) (hl:b.2.1.length≤20) {ps:List (Int×Int)} (hp:ps.length≤12) {nb:List Int} (hn:nb.length≤20) (h255:∀ x∈nb,0≤x∧x≤255):x47 b ps nb=some (givT b ps nb):=by
 have hB:=bedOk hb
 have h1:=hB.o1;have h10:=hB.o10
 have hw:=wn_pos hB
 rw [x47,x51_eq b (by omega) (by omega),Option.bind_some]
 exact if_pos ⟨by omega,hn,List.all_eq_true.2 fun x hx=>decide_eq_true (h255 x hx),by unfold wn at hw;omega⟩
theorem TOk.cover {n:Nat} {ps:List (Int×Int)} {ts:List (List Int)} (h:TOk n ps [] ts) {x:Int} (hx:0≤x∧x<(ps.length:Int)):∃ t∈ts,x∈t:=by
 rcases Classical.em (x∈ts.flatten) with hm | hm
 ·exact List.mem_flatten.1 hm
 ·exfalso
  have h1:=h.flat
  have h2:=h.nd
  rw [List.nil_append] at h2
  have hm':(x::ts.flatten).Nodup:=List.nodup_cons.2 ⟨hm,h2⟩
  have:=pig (x::ts.flatten) ((List.range ps.length).map fun (i:Nat)=>(i:Int)) hm' fun y hy=>by
   have hr:0≤y∧y<(ps.length:Int):=by
    rcases List.mem_cons.1 hy with rfl | hy
    ·exact hx
    ·obtain ⟨t,ht,hyt⟩:=List.mem_flatten.1 hy
     exact h.rng t ht y hyt
   exact List.mem_map.2 ⟨y.toNat,List.mem_range.2 (by omega),by omega⟩
  rw [List.length_cons,h1,List.length_map,List.length_range] at this
  omega
theorem TOk.heats {n:Nat} {ps:List (Int×Int)} {ts:List (List Int)} (h:TOk n ps [] ts) (x:Int):x∈ts.map (heatT ps)↔x∈hts ps:=by
 rw [List.mem_map,List.mem_map]
 constructor
 ·rintro ⟨t,ht,rfl⟩
  have hr:=h.rng t ht _ (ix0_mem (h.ne t ht))
  exact ⟨_,ixps_mem hr,rfl⟩
 ·rintro ⟨p,hp,rfl⟩
  obtain ⟨i,hi,rfl⟩:=List.mem_iff_getElem.1 hp
  obtain ⟨t,ht,hx⟩:=h.cover (x:=(i:Int)) ⟨by omega,by omega⟩
  refine ⟨t,ht,?_⟩
  rw [←h.heat t ht _ hx,ix_nat hi]
theorem TOk.way {n:Nat} {ps:List (Int×Int)} {ts:List (List Int)} (h:TOk n ps [] ts) (s:Int):wayM s (hts ps)≤walk s (ts.map (heatT ps)):=by
 rw [←wayM_set h.heats];exact walk_ge _ _
theorem tAns_ok {b:Bed} (hb:bErr b=0) {ps:List (Int×Int)} (hp:PsOk ps) {ts:List (List Int)} (h:TOk (wn b) ps [] ts):tAns b ps ts=(tHours ps ts,walk b.2.2.1 (ts.map (heatT ps)),0):=by
 unfold tAns
 rw [if_pos (eB_of hb hp),if_pos ((tErr_iff _ [] nil_nodup).2 h)]
theorem x26_given {b:Bed} (hf:bErr b=0) (hl:b.2.1.length≤20) {ps:List (Int×Int)} (hp:PsOk ps) (nb:List Int):x26 b ps (givT b ps nb)=some (tHours ps (givT b ps nb),walk b.2.2.1 ((givT b ps nb).map (heatT ps)),0):=by
 have hO:=givT_ok hf ps nb
 have hpl:=hp.len
 rw [x26_eq hl (by have:=hO.cnt;omega) (fun t ht=>by have:=hO.one t ht;omega),tAns_ok hf hp hO]

noncomputable def xrc28_4:RC :=
 .cond (.sl 26) (.seq (.reg false [I_ 27 [.tk 10] .mv,I_ 6 [.cv (.lst [] 0 .full)] (.nil 1),I_ 7 [.tk 27] .mv]) .ret) .skip
noncomputable def xrc28_18:RC :=
 .reg false [I_ 54 [.sl 11] .mv,I_ 55 [.tk 16] .mv,I_ 56 [.sl 12] .mv,I_ 57 [.tv 54,.tv 55] (.ia 1),⟨none,[.tk 57,.tk 56],none,none,.st 1⟩]
noncomputable def xrc28_17:RC :=
 .reg false [I_ 58 [.tv 50,.cv (.int .i64 1)] (.bin .add),I_ 50 [.tk 58] .mv]
noncomputable def xrc28_16:RC :=
 .seq (.block 3 (.seq (.reg false [I_ 52 [.sl 48,.sl 50] (.ia 1),I_ 53 [.tv 52] (.ld .one),I_ 16 [.tk 53] .mv]) xrc28_18)) xrc28_17
noncomputable def xrc28_15:RC :=
 .seq (.cond (.sl 51) .skip (.exit 2)) xrc28_16
noncomputable def xrc28_19:RC :=
 .loop (some [o_,o_,o_,i_,o_,o_,o_,o_,o_,o_,o_,i_,i_,o_,o_,o_,o_,o_,o_,o_,o_,o_,o_,o_,o_,o_,o_,o_,o_,o_,o_,i_,i_,i_,o_,o_,o_,o_,o_,o_,o_,o_,o_,o_,o_,o_,o_,o_,i_,i_,i_,o_,o_,o_,o_,o_,o_,o_,o_,o_,o_]) (.seq (.reg false [I_
 51 [.sl 50,.sl 49] (.bin .lss)]) xrc28_15)
noncomputable def xrc28_14:RC :=
 .block 2 xrc28_19
noncomputable def xrc28_13:RC :=
 .seq (.reg false [I_ 47 [.tv 14] (.fa 0),I_ 48 [.tv 47] (.ld .one),I_ 49 [.sl 48] .lenS,I_ 50 [.cv (.int .i64 0)] .mv]) xrc28_14
noncomputable def xrc28_12:RC :=
 .seq (.reg false [I_ 37 [.tk 12] .mv,I_ 38 [.sl 3] (.fa 3),I_ 39 [.tv 38] (.ld .one),I_ 40 [.sl 14] (.fa 2),I_ 41 [.tv 40] (.ld .one),I_ 42 [.tv 39,.tv 41] (.bin .mul),I_ 43 [.sl 14] (.fa 1),I_ 44 [.tv 43] (.ld .one),I_
 45 [.tv 42,.tv 44] (.bin .add),I_ 46 [.tv 37,.tv 45] (.bin .add),I_ 12 [.tk 46] .mv]) xrc28_13
noncomputable def xrc28_11:RC :=
 .reg false [I_ 59 [.tv 33,.cv (.int .i64 1)] (.bin .add),I_ 33 [.tk 59] .mv]
noncomputable def xrc28_10:RC :=
 .seq (.block 1 (.seq (.reg false [I_ 35 [.sl 31,.sl 33] (.ia 3),I_ 36 [.tv 35] (.ld (.str 3)),I_ 14 [] (.alloc [.lst [] 0 .full,.int .i64 0,.int .i64 0]),⟨none,[.sl 14,.tk 36],none,none,.st 3⟩]) xrc28_12)) xrc28_11
noncomputable def xrc28_9:RC :=
 .seq (.cond (.sl 34) .skip (.exit 0)) xrc28_10
noncomputable def xrc28_20:RC :=
 .loop (some [o_,o_,o_,i_,o_,o_,o_,o_,o_,o_,o_,i_,i_,o_,o_,o_,o_,o_,o_,o_,o_,o_,o_,o_,o_,o_,o_,o_,o_,o_,o_,i_,i_,i_,o_,o_,o_,o_,o_,o_,o_,o_,o_,o_,o_,o_,o_,o_,o_,o_,o_,o_,o_,o_,o_,o_,o_,o_,o_,o_,o_]) (.seq (.reg false
 [I_ 34 [.sl 33,.sl 32] (.bin .lss)]) xrc28_9)
noncomputable def xrc28_8:RC :=
 .block 0 xrc28_20
noncomputable def xrc28_7:RC :=
 .seq (.reg false [I_ 60 [.tk 11] .mv,I_ 6 [.tk 60] .mv,I_ 7 [.cv (.int .i64 0)] .mv]) .ret
noncomputable def xrc28_6:RC :=
 .seq (.seq (.reg false [I_ 31 [.tk 9] .mv,I_ 32 [.sl 31] .lenS,I_ 33 [.cv (.int .i64 0)] .mv]) xrc28_8) xrc28_7
noncomputable def xrc28_5:RC :=
 .seq (.reg false [I_ 12 [.cv (.int .i64 0)] .mv]) xrc28_6
noncomputable def xrc28_3:RC :=
 .seq (.reg false [I_ 28 [.tk 1] .mv,I_ 29 [.tk 28] .lenS,I_ 30 [.sl 29,.tv 29] (.mkS [.int .i64 0] 1 8),I_ 11 [.tk 30] .mv]) xrc28_5
noncomputable def xrc28_2:RC :=
 .seq (.seq (.reg false [I_ 25 [.sl 10] .mv,I_ 26 [.tv 25,.cv (.int .i64 0)] (.bin .neq)]) xrc28_4) xrc28_3
noncomputable def xrc28_1:RC :=
 .seq (.reg false [I_ 18 [.sl 3] (.ld (.str 4)),I_ 19 [.sl 1] .mv,I_ 20 [.tk 2] .mv,I_ 21 [.cv (.func 65 [] []),.sl 18,.sl 19,.sl 20] (.call 3),I_ 17 [.tk 21] .mv,I_ 22 [.sl 17] (.ext 0),I_ 23 [.sl 17] (.ext 1),I_ 24
 [.tv 17] (.ext 2),I_ 8 [.tk 22] .mv,I_ 9 [.tk 23] .mv,I_ 10 [.tk 24] .mv]) xrc28_2
noncomputable def xrc28:RC :=
 .seq (.reg false [I_ 3 [.tk 0] .box,I_ 6 [.cv (.lst [] 0 .full)] (.nil 1),I_ 7 [.cv (.int .i64 0)] .mv]) xrc28_1
theorem lxx28:linkF Tryz.prog ann28 28=some (xrc28,61,[.tmp 6,.tmp 7]):=by kernel_rfl
def x28_l2 (b:(Int×(List Int)×Int×Int)) (panels:(List (Int×Int))) (q1:((List ((List Int)×Int×Int))×Int)) (s1:Int) (s2:Int) (kl2_0:(List Int)→Option ((List Int)×Int)):Nat→Int→(List Int)→Option ((List Int)×Int)
 | 0,_,_=>none
 | m+1,s4,s5 =>
   if (decide (s4<(((ix q1.1 s2).1).length:Int)))=true then
    gd (0≤s4∧s4<(((ix q1.1 s2).1).length:Int)) <|
    gd (0≤(ix ((ix q1.1 s2).1) s4)∧(ix ((ix q1.1 s2).1) s4)<(((panels.length:Int).toNat:Nat):Int)∧(panels.length:Int).toNat=s5.length) <|
    x28_l2 b panels q1 s1 s2 kl2_0 m (w (s4+(1:Int))) (s5.set (ix ((ix q1.1 s2).1) s4).toNat (w (s1+(w ((w (b.2.2.2*(ix q1.1 s2).2.2))+(ix q1.1 s2).2.1)))))
   else
    kl2_0 s5
def x28_l1 (b:(Int×(List Int)×Int×Int)) (panels:(List (Int×Int))) (q1:((List ((List Int)×Int×Int))×Int)) (kl1_0:(List Int)→Option ((List Int)×Int)):Nat→Int→Int→(List Int)→Option ((List Int)×Int)
 | 0,_,_,_=>none
 | m+1,s1,s2,s3 =>
   if (decide (s2<(q1.1.length:Int)))=true then
    gd (0≤s2∧s2<(q1.1.length:Int)) <|
    x28_l2 b panels q1 s1 s2 (fun z1 =>
      x28_l1 b panels q1 kl1_0 m (w (s1+(w ((w (b.2.2.2*(ix q1.1 s2).2.2))+(ix q1.1 s2).2.1)))) (w (s2+(1:Int))) z1) FU (0:Int) s3
   else
    kl1_0 s3
def x28_l4 (b:(Int×(List Int)×Int×Int)) (panels:(List (Int×Int))) (q1:((List ((List Int)×Int×Int))×Int)) (s6:Int) (s7:Int) (kl4_0:(List Int)→Option ((List Int)×Int)):Nat→Int→(List Int)→Option ((List Int)×Int)
 | 0,_,_=>none
 | m+1,s9,s10 =>
   if (decide (s9<(((ix q1.1 s7).1).length:Int)))=true then
    gd (0≤s9∧s9<(((ix q1.1 s7).1).length:Int)) <|
    gd (0≤(ix ((ix q1.1 s7).1) s9)∧(ix ((ix q1.1 s7).1) s9)<(((panels.length:Int).toNat:Nat):Int)∧(panels.length:Int).toNat=s10.length) <|
    x28_l4 b panels q1 s6 s7 kl4_0 m (w (s9+(1:Int))) (s10.set (ix ((ix q1.1 s7).1) s9).toNat (w (s6+(w ((w (b.2.2.2*(ix q1.1 s7).2.2))+(ix q1.1 s7).2.1)))))
   else
    kl4_0 s10
def x28_l3 (b:(Int×(List Int)×Int×Int)) (panels:(List (Int×Int))) (q1:((List ((List Int)×Int×Int))×Int)) (kl3_0:(List Int)→Option ((List Int)×Int)):Nat→Int→Int→(List Int)→Option ((List Int)×Int)
 | 0,_,_,_=>none
 | m+1,s6,s7,s8 =>
   if (decide (s7<(q1.1.length:Int)))=true then
    gd (0≤s7∧s7<(q1.1.length:Int)) <|
    x28_l4 b panels q1 s6 s7 (fun z3 =>
      x28_l3 b panels q1 kl3_0 m (w (s6+(w ((w (b.2.2.2*(ix q1.1 s7).2.2))+(ix q1.1 s7).2.1)))) (w (s7+(1:Int))) z3) FU (0:Int) s8
   else
    kl3_0 s8
def x28 (b:(Int×(List Int)×Int×Int)) (panels:(List (Int×Int))) (turns:(List (List Int))):Option ((List Int)×Int) :=
 (x65 b panels turns).bind fun r1 =>
 match r1 with
 | (none,q1) =>
   if (decide (q1.2≠(0:Int)))=true then
    some ([],q1.2)
   else
    gd (0≤(panels.length:Int)∧(panels.length:Int)≤(panels.length:Int)∧(panels.length:Int).toNat*8≤140737488355328) <|
    x28_l1 b panels q1 (fun z2 =>
      gd ((panels.length:Int).toNat=z2.length) <|
      some (z2,(0:Int))) FU (0:Int) (0:Int) (List.replicate (panels.length:Int).toNat (0:Int))
 | (some p1,q1) =>
   if (decide (q1.2≠(0:Int)))=true then
    some ([],q1.2)
   else
    gd (0≤(panels.length:Int)∧(panels.length:Int)≤(panels.length:Int)∧(panels.length:Int).toNat*8≤140737488355328) <|
    x28_l3 b panels q1 (fun z4 =>
      gd ((panels.length:Int).toNat=z4.length) <|
      some (z4,(0:Int))) FU (0:Int) (0:Int) (List.replicate (panels.length:Int).toNat (0:Int))
theorem x28_l2_ok {b:(Int×(List Int)×Int×Int)} {panels:(List (Int×Int))} {q1:((List ((List Int)×Int×Int))×Int)} {s1:Int} {s2:Int} {kl2_0:(List Int)→Option ((List Int)×Int)} {s4:Int} {s5:(List Int)} {v:((List Int)×Int)} {Q:Ex→List AV→List AObj→Prop} {o3:AObj} {Y28_1:List AObj} (hkl2_0:∀ (z1:(List Int)) (u0:AV) (u1:AV) (u2:AV) (u6:AV) (u7:AV) (u8:AV) (u9:AV) (u10:AV) (u14:AV) (u16:AV) (u17:AV) (u18:AV) (u19:AV) (u20:AV) (u21:AV) (u22:AV) (u23:AV) (u24:AV) (u25:AV) (u26:AV) (u27:AV) (u28:AV) (u29:AV) (u30:AV) (u34:AV) (u35:AV) (u36:AV) (u37:AV) (u38:AV) (u39:AV) (u40:AV) (u41:AV) (u42:AV) (u43:AV) (u44:AV) (u45:AV) (u46:AV) (u47:AV) (u48:AV) (u49:AV) (u50:AV) (u51:AV) (u52:AV) (u53:AV) (u54:AV) (u55:AV) (u56:AV) (u57:AV) (u58:AV) (u59:AV) (u60:AV) (Yq:List AObj),kl2_0 z1=some v→Q (.exit 2) [u0,u1,u2,(.ptr 0 0),J,J,u6,u7,u8,u9,u10,(.ref 1 0 (panels.length:Int).toNat (some (panels.length:Int).toNat) 1),(I (w (s1+(w ((w (b.2.2.2*(ix q1.1 s2).2.2))+(ix q1.1 s2).2.1))))),J,u14,J,u16,u17,u18,u19,u20,u21,u22,u23,u24,u25,u26,u27,u28,u29,u30,(.lst (q1.1.flatMap E_turn) q1.1.length .shared),(I (q1.1.length:Int)),(I s2),u34,u35,u36,u37,u38,u39,u40,u41,u42,u43,u44,u45,u46,u47,u48,u49,u50,u51,u52,u53,u54,u55,u56,u57,u58,u59,u60] (AObj.cells [(I b.1),(.lst (b.2.1.map I) b.2.1.length .shared),(I b.2.2.1),(I b.2.2.2)]::AObj.cells (z1.map I)::Yq)) {T:List AV} (hT:zipKeep [o_,o_,o_,i_,o_,o_,o_,o_,o_,o_,o_,i_,i_,o_,o_,o_,o_,o_,o_,o_,o_,o_,o_,o_,o_,o_,o_,o_,o_,o_,o_,i_,i_,i_,o_,o_,o_,o_,o_,o_,o_,o_,o_,o_,o_,o_,o_,o_,i_,i_,i_,o_,o_,o_,o_,o_,o_,o_,o_,o_,o_] T=slots 61 [(3,(.ptr 0 0)),(11,(.ref 1 0 (panels.length:Int).toNat (some (panels.length:Int).toNat) 1)),(12,(I (w (s1+(w ((w (b.2.2.2*(ix q1.1 s2).2.2))+(ix q1.1 s2).2.1)))))),(31,(.lst (q1.1.flatMap E_turn) q1.1.length .shared)),(32,(I (q1.1.length:Int))),(33,(I s2)),(48,(.lst (((ix q1.1 s2).1).map I) ((ix q1.1 s2).1).length .shared)),(49,(I (((ix q1.1 s2).1).length:Int))),(50,(I s4))]) (h:x28_l2 b panels q1 s1 s2 kl2_0 FU s4 s5=some v) :
  wpR Tryz.prog ann28 28 0 none xrc28_19 T ((AObj.cells [(I b.1),(.lst (b.2.1.map I) b.2.1.length .shared),(I b.2.2.1),(I b.2.2.2)]::AObj.cells (s5.map I)::Y28_1)++[o3]) Q:=by
 unfold xrc28_19
 obtain ⟨c_15,g_15⟩:∃ c,xrc28_15=c:=⟨_,rfl⟩
 rw [g_15]
 refine wp_loop hT ?_
 refine .intro (fun m T H=>∃ (s4:Int) (s5:(List Int)),T=slots 61 [(3,(.ptr 0 0)),(11,(.ref 1 0 (panels.length:Int).toNat (some (panels.length:Int).toNat) 1)),(12,(I (w (s1+(w ((w (b.2.2.2*(ix q1.1 s2).2.2))+(ix q1.1 s2).2.1)))))),(31,(.lst (q1.1.flatMap E_turn) q1.1.length .shared)),(32,(I (q1.1.length:Int))),(33,(I s2)),(48,(.lst (((ix q1.1 s2).1).map I) ((ix q1.1 s2).1).length .shared)),(49,(I (((ix q1.1 s2).1).length:Int))),(50,(I s4))]∧H=((AObj.cells [(I b.1),(.lst (b.2.1.map I) b.2.1.length .shared),(I b.2.2.1),(I b.2.2.2)]::AObj.cells (s5.map I)::Y28_1)++[o3])∧x28_l2 b panels q1 s1 s2 kl2_0 m s4 s5=some v) FU ⟨s4,s5,rfl,rfl,h⟩ ?_
 clear h hT
 rintro m T H ⟨s4,s5,rfl,rfl,h⟩
 cases m
 ·exact none_ne h
 rename_i m
 rw [x28_l2.eq_2] at h
 conv=>whnf
 subst g_15
 unfold xrc28_15
 obtain ⟨c_16,g_16⟩:∃ c,xrc28_16=c:=⟨_,rfl⟩
 rw [g_16]
 conv=>whnf
 rcases bt (decide (s4<(((ix q1.1 s2).1).length:Int))) with hb6 | hb6
 ·rw [hb6]
  conv=>whnf
  replace h:=it_t hb6 h
  subst g_16
  unfold xrc28_16
  obtain ⟨c_17,g_17⟩:∃ c,xrc28_17=c:=⟨_,rfl⟩
  rw [g_17]
  obtain ⟨c_18,g_18⟩:∃ c,xrc28_18=c:=⟨_,rfl⟩
  rw [g_18]
  conv=>whnf
  obtain ⟨hb7,h⟩:=gd_some h
  refine ⟨hb7,?_⟩
  rw [drop1 I ((ix q1.1 s2).1) s4 hb7]
  conv=>whnf
  subst g_18
  unfold xrc28_18
  skip
  conv=>whnf
  obtain ⟨hb8,h⟩:=gd_some h
  refine ⟨⟨hb8.1,hb8.2.1⟩,?_⟩
  replace hb8:0≤(ix ((ix q1.1 s2).1) s4)∧(ix ((ix q1.1 s2).1) s4)<(s5.length:Int):=⟨hb8.1,by have:=hb8.2;omega⟩
  conv=>whnf
  refine updD I s5 (ix ((ix q1.1 s2).1) s4) (w (s1+(w ((w (b.2.2.2*(ix q1.1 s2).2.2))+(ix q1.1 s2).2.1)))) hb8 ?_
  conv=>whnf
  subst g_17
  unfold xrc28_17
  skip
  conv=>whnf
  exact ⟨m,Nat.lt_succ_self m,(w (s4+(1:Int))),(s5.set (ix ((ix q1.1 s2).1) s4).toNat (w (s1+(w ((w (b.2.2.2*(ix q1.1 s2).2.2))+(ix q1.1 s2).2.1))))),rfl,rfl,h⟩
 ·rw [hb6]
  conv=>whnf
  replace h:=it_f hb6 h
  exact hkl2_0 _ _ _ _ _ _ _ _ _ _ _ _ _ _ _ _ _ _ _ _ _ _ _ _ _ _ _ _ _ _ _ _ _ _ _ _ _ _ _ _ _ _ _ _ _ _ _ _ _ _ _ _ _ h
theorem x28_l1_ok {b:(Int×(List Int)×Int×Int)} {panels:(List (Int×Int))} {q1:((List ((List Int)×Int×Int))×Int)} {kl1_0:(List Int)→Option ((List Int)×Int)} {s1:Int} {s2:Int} {s3:(List Int)} {v:((List Int)×Int)} {Q:Ex→List AV→List AObj→Prop}   (hkl1_0:∀ (z2:(List Int)) (u0:AV) (u1:AV) (u2:AV) (u3:AV) (u6:AV) (u7:AV) (u8:AV) (u9:AV) (u10:AV) (u12:AV) (u14:AV) (u16:AV) (u17:AV) (u18:AV) (u19:AV) (u20:AV) (u21:AV) (u22:AV) (u23:AV) (u24:AV) (u25:AV) (u26:AV) (u27:AV) (u28:AV) (u29:AV) (u30:AV) (u31:AV) (u32:AV) (u33:AV) (u34:AV) (u35:AV) (u36:AV) (u37:AV) (u38:AV) (u39:AV) (u40:AV) (u41:AV) (u42:AV) (u43:AV) (u44:AV) (u45:AV) (u46:AV) (u47:AV) (u48:AV) (u49:AV) (u50:AV) (u51:AV) (u52:AV) (u53:AV) (u54:AV) (u55:AV) (u56:AV) (u57:AV) (u58:AV) (u59:AV) (u60:AV) (o1:AObj) (Yq:List AObj),kl1_0 z2=some v→Q (.exit 0) [u0,u1,u2,u3,J,J,u6,u7,u8,u9,u10,(.ref 1 0 (panels.length:Int).toNat (some (panels.length:Int).toNat) 1),u12,J,u14,J,u16,u17,u18,u19,u20,u21,u22,u23,u24,u25,u26,u27,u28,u29,u30,u31,u32,u33,u34,u35,u36,u37,u38,u39,u40,u41,u42,u43,u44,u45,u46,u47,u48,u49,u50,u51,u52,u53,u54,u55,u56,u57,u58,u59,u60] (o1::AObj.cells (z2.map I)::Yq)) {T:List AV} (hT:zipKeep [o_,o_,o_,i_,o_,o_,o_,o_,o_,o_,o_,i_,i_,o_,o_,o_,o_,o_,o_,o_,o_,o_,o_,o_,o_,o_,o_,o_,o_,o_,o_,i_,i_,i_,o_,o_,o_,o_,o_,o_,o_,o_,o_,o_,o_,o_,o_,o_,o_,o_,o_,o_,o_,o_,o_,o_,o_,o_,o_,o_,o_] T=slots 61 [(3,(.ptr 0 0)),(11,(.ref 1 0 (panels.length:Int).toNat (some (panels.length:Int).toNat) 1)),(12,(I s1)),(31,(.lst (q1.1.flatMap E_turn) q1.1.length .shared)),(32,(I (q1.1.length:Int))),(33,(I s2))]) (h:x28_l1 b panels q1 kl1_0 FU s1 s2 s3=some v) :
  wpR Tryz.prog ann28 28 0 none xrc28_20 T [AObj.cells [(I b.1),(.lst (b.2.1.map I) b.2.1.length .shared),(I b.2.2.1),(I b.2.2.2)],AObj.cells (s3.map I)] Q:=by
 unfold xrc28_20
 obtain ⟨c_9,g_9⟩:∃ c,xrc28_9=c:=⟨_,rfl⟩
 rw [g_9]
 refine wp_loop hT ?_
 refine .intro (fun m T H=>∃ (s1:Int) (s2:Int) (s3:(List Int)) (Y28_1:List AObj),T=slots 61 [(3,(.ptr 0 0)),(11,(.ref 1 0 (panels.length:Int).toNat (some (panels.length:Int).toNat) 1)),(12,(I s1)),(31,(.lst (q1.1.flatMap E_turn) q1.1.length .shared)),(32,(I (q1.1.length:Int))),(33,(I s2))]∧H=(AObj.cells [(I b.1),(.lst (b.2.1.map I) b.2.1.length .shared),(I b.2.2.1),(I b.2.2.2)]::AObj.cells (s3.map I)::Y28_1)∧x28_l1 b panels q1 kl1_0 m s1 s2 s3=some v) FU ⟨s1,s2,s3,[],rfl,rfl,h⟩ ?_
 clear h hT
 rintro m T H ⟨s1,s2,s3,Y28_1,rfl,rfl,h⟩
 cases m
 ·exact none_ne h
 rename_i m
 rw [x28_l1.eq_2] at h
 conv=>whnf
 subst g_9
 unfold xrc28_9
 obtain ⟨c_10,g_10⟩:∃ c,xrc28_10=c:=⟨_,rfl⟩
 rw [g_10]
 conv=>whnf
 rcases bt (decide (s2<(q1.1.length:Int))) with hb4 | hb4
 ·rw [hb4]
  conv=>whnf
  replace h:=it_t hb4 h
  subst g_10
  unfold xrc28_10
  obtain ⟨c_11,g_11⟩:∃ c,xrc28_11=c:=⟨_,rfl⟩
  rw [g_11]
  obtain ⟨c_12,g_12⟩:∃ c,xrc28_12=c:=⟨_,rfl⟩
  rw [g_12]
  conv=>whnf
  obtain ⟨hb5,h⟩:=gd_some h
  refine ⟨hb5,?_⟩
  rw [dropS E_turn 3 E_turn_len q1.1 s2 hb5]
  conv=>whnf
  refine nthK_of (x:=AObj.cells [(.lst [] 0 .full),(I (0:Int)),(I (0:Int))]) (by first | with_reducible exact get_concat _ _ | exact get_concat _ _ | exact ga (get_concat _ _) | rfl | (simp [List.getElem?_append,AV.settle];done)) ?_
  conv=>whnf
  rw [set_concat]
  subst g_12
  unfold xrc28_12
  obtain ⟨c_13,g_13⟩:∃ c,xrc28_13=c:=⟨_,rfl⟩
  rw [g_13]
  conv=>whnf
  refine nthK_of (x:=AObj.cells [(.lst (((ix q1.1 s2).1).map I) ((ix q1.1 s2).1).length .shared),(I (ix q1.1 s2).2.1),(I (ix q1.1 s2).2.2)]) (by first | with_reducible exact get_concat _ _ | exact get_concat _ _ | exact ga (get_concat _ _) | rfl | (simp [List.getElem?_append,AV.settle];done)) ?_
  conv=>whnf
  refine nthK_of (x:=AObj.cells [(.lst (((ix q1.1 s2).1).map I) ((ix q1.1 s2).1).length .shared),(I (ix q1.1 s2).2.1),(I (ix q1.1 s2).2.2)]) (by first | with_reducible exact get_concat _ _ | exact get_concat _ _ | exact ga (get_concat _ _) | rfl | (simp [List.getElem?_append,AV.settle];done)) ?_
  conv=>whnf
  subst g_13
  unfold xrc28_13
  obtain ⟨c_14,g_14⟩:∃ c,xrc28_14=c:=⟨_,rfl⟩
  rw [g_14]
  conv=>whnf
  refine nthK_of (x:=AObj.cells [(.lst (((ix q1.1 s2).1).map I) ((ix q1.1 s2).1).length .shared),(I (ix q1.1 s2).2.1),(I (ix q1.1 s2).2.2)]) (by first | with_reducible exact get_concat _ _ | exact get_concat _ _ | exact ga (get_concat _ _) | rfl | (simp [List.getElem?_append,AV.settle];done)) ?_
  conv=>whnf
  subst g_14
  unfold xrc28_14
  obtain ⟨c_19,g_19⟩:∃ c,xrc28_19=c:=⟨_,rfl⟩
  rw [g_19]
  conv=>whnf
  subst g_19
  refine x28_l2_ok ?_ (by exact rfl) h
  intro z1 u0 u1 u2 u6 u7 u8 u9 u10 u14 u16 u17 u18 u19 u20 u21 u22 u23 u24 u25 u26 u27 u28 u29 u30 u34 u35 u36 u37 u38 u39 u40 u41 u42 u43 u44 u45 u46 u47 u48 u49 u50 u51 u52 u53 u54 u55 u56 u57 u58 u59 u60 Yq h
  conv=>whnf
  subst g_11
  unfold xrc28_11
  skip
  conv=>whnf
  exact ⟨m,Nat.lt_succ_self m,(w (s1+(w ((w (b.2.2.2*(ix q1.1 s2).2.2))+(ix q1.1 s2).2.1)))),(w (s2+(1:Int))),z1,_,rfl,rfl,h⟩
 ·rw [hb4]
  conv=>whnf
  replace h:=it_f hb4 h
  exact hkl1_0 _ _ _ _ _ _ _ _ _ _ _ _ _ _ _ _ _ _ _ _ _ _ _ _ _ _ _ _ _ _ _ _ _ _ _ _ _ _ _ _ _ _ _ _ _ _ _ _ _ _ _ _ _ _ _ _ _ _ _ h
theorem x28_l4_ok {b:(Int×(List Int)×Int×Int)} {panels:(List (Int×Int))} {q1:((List ((List Int)×Int×Int))×Int)} {s6:Int} {s7:Int} {kl4_0:(List Int)→Option ((List Int)×Int)} {s9:Int} {s10:(List Int)} {v:((List Int)×Int)} {Q:Ex→List AV→List AObj→Prop} {o5:AObj} {Y28_1:List AObj} (hkl4_0:∀ (z3:(List Int)) (u0:AV) (u1:AV) (u2:AV) (u6:AV) (u7:AV) (u8:AV) (u9:AV) (u10:AV) (u14:AV) (u16:AV) (u17:AV) (u18:AV) (u19:AV) (u20:AV) (u21:AV) (u22:AV) (u23:AV) (u24:AV) (u25:AV) (u26:AV) (u27:AV) (u28:AV) (u29:AV) (u30:AV) (u34:AV) (u35:AV) (u36:AV) (u37:AV) (u38:AV) (u39:AV) (u40:AV) (u41:AV) (u42:AV) (u43:AV) (u44:AV) (u45:AV) (u46:AV) (u47:AV) (u48:AV) (u49:AV) (u50:AV) (u51:AV) (u52:AV) (u53:AV) (u54:AV) (u55:AV) (u56:AV) (u57:AV) (u58:AV) (u59:AV) (u60:AV) (Yq:List AObj),kl4_0 z3=some v→Q (.exit 2) [u0,u1,u2,(.ptr 0 0),J,J,u6,u7,u8,u9,u10,(.ref 1 0 (panels.length:Int).toNat (some (panels.length:Int).toNat) 1),(I (w (s6+(w ((w (b.2.2.2*(ix q1.1 s7).2.2))+(ix q1.1 s7).2.1))))),J,u14,J,u16,u17,u18,u19,u20,u21,u22,u23,u24,u25,u26,u27,u28,u29,u30,(.lst (q1.1.flatMap E_turn) q1.1.length .shared),(I (q1.1.length:Int)),(I s7),u34,u35,u36,u37,u38,u39,u40,u41,u42,u43,u44,u45,u46,u47,u48,u49,u50,u51,u52,u53,u54,u55,u56,u57,u58,u59,u60] (AObj.cells [(I b.1),(.lst (b.2.1.map I) b.2.1.length .shared),(I b.2.2.1),(I b.2.2.2)]::AObj.cells (z3.map I)::Yq)) {T:List AV} (hT:zipKeep [o_,o_,o_,i_,o_,o_,o_,o_,o_,o_,o_,i_,i_,o_,o_,o_,o_,o_,o_,o_,o_,o_,o_,o_,o_,o_,o_,o_,o_,o_,o_,i_,i_,i_,o_,o_,o_,o_,o_,o_,o_,o_,o_,o_,o_,o_,o_,o_,i_,i_,i_,o_,o_,o_,o_,o_,o_,o_,o_,o_,o_] T=slots 61 [(3,(.ptr 0 0)),(11,(.ref 1 0 (panels.length:Int).toNat (some (panels.length:Int).toNat) 1)),(12,(I (w (s6+(w ((w (b.2.2.2*(ix q1.1 s7).2.2))+(ix q1.1 s7).2.1)))))),(31,(.lst (q1.1.flatMap E_turn) q1.1.length .shared)),(32,(I (q1.1.length:Int))),(33,(I s7)),(48,(.lst (((ix q1.1 s7).1).map I) ((ix q1.1 s7).1).length .shared)),(49,(I (((ix q1.1 s7).1).length:Int))),(50,(I s9))]) (h:x28_l4 b panels q1 s6 s7 kl4_0 FU s9 s10=some v) :
  wpR Tryz.prog ann28 28 0 none xrc28_19 T ((AObj.cells [(I b.1),(.lst (b.2.1.map I) b.2.1.length .shared),(I b.2.2.1),(I b.2.2.2)]::AObj.cells (s10.map I)::Y28_1)++[o5]) Q:=by
 unfold xrc28_19
 obtain ⟨c_15,g_15⟩:∃ c,xrc28_15=c:=⟨_,rfl⟩
 rw [g_15]
 refine wp_loop hT ?_
 refine .intro (fun m T H=>∃ (s9:Int) (s10:(List Int)),T=slots 61 [(3,(.ptr 0 0)),(11,(.ref 1 0 (panels.length:Int).toNat (some (panels.length:Int).toNat) 1)),(12,(I (w (s6+(w ((w (b.2.2.2*(ix q1.1 s7).2.2))+(ix q1.1 s7).2.1)))))),(31,(.lst (q1.1.flatMap E_turn) q1.1.length .shared)),(32,(I (q1.1.length:Int))),(33,(I s7)),(48,(.lst (((ix q1.1 s7).1).map I) ((ix q1.1 s7).1).length .shared)),(49,(I (((ix q1.1 s7).1).length:Int))),(50,(I s9))]∧H=((AObj.cells [(I b.1),(.lst (b.2.1.map I) b.2.1.length .shared),(I b.2.2.1),(I b.2.2.2)]::AObj.cells (s10.map I)::Y28_1)++[o5])∧x28_l4 b panels q1 s6 s7 kl4_0 m s9 s10=some v) FU ⟨s9,s10,rfl,rfl,h⟩ ?_
 clear h hT
 rintro m T H ⟨s9,s10,rfl,rfl,h⟩
 cases m
 ·exact none_ne h
 rename_i m
 rw [x28_l4.eq_2] at h
 conv=>whnf
 subst g_15
 unfold xrc28_15
 obtain ⟨c_16,g_16⟩:∃ c,xrc28_16=c:=⟨_,rfl⟩
 rw [g_16]
 conv=>whnf
 rcases bt (decide (s9<(((ix q1.1 s7).1).length:Int))) with hb14 | hb14
 ·rw [hb14]
  conv=>whnf
  replace h:=it_t hb14 h
  subst g_16
  unfold xrc28_16
  obtain ⟨c_17,g_17⟩:∃ c,xrc28_17=c:=⟨_,rfl⟩
  rw [g_17]
  obtain ⟨c_18,g_18⟩:∃ c,xrc28_18=c:=⟨_,rfl⟩
  rw [g_18]
  conv=>whnf
  obtain ⟨hb15,h⟩:=gd_some h
  refine ⟨hb15,?_⟩
  rw [drop1 I ((ix q1.1 s7).1) s9 hb15]
  conv=>whnf
  subst g_18
  unfold xrc28_18
  skip
  conv=>whnf
  obtain ⟨hb16,h⟩:=gd_some h
  refine ⟨⟨hb16.1,hb16.2.1⟩,?_⟩
  replace hb16:0≤(ix ((ix q1.1 s7).1) s9)∧(ix ((ix q1.1 s7).1) s9)<(s10.length:Int):=⟨hb16.1,by have:=hb16.2;omega⟩
  conv=>whnf
  refine updD I s10 (ix ((ix q1.1 s7).1) s9) (w (s6+(w ((w (b.2.2.2*(ix q1.1 s7).2.2))+(ix q1.1 s7).2.1)))) hb16 ?_
  conv=>whnf
  subst g_17
  unfold xrc28_17
  skip
  conv=>whnf
  exact ⟨m,Nat.lt_succ_self m,(w (s9+(1:Int))),(s10.set (ix ((ix q1.1 s7).1) s9).toNat (w (s6+(w ((w (b.2.2.2*(ix q1.1 s7).2.2))+(ix q1.1 s7).2.1))))),rfl,rfl,h⟩
 ·rw [hb14]
  conv=>whnf
  replace h:=it_f hb14 h
  exact hkl4_0 _ _ _ _ _ _ _ _ _ _ _ _ _ _ _ _ _ _ _ _ _ _ _ _ _ _ _ _ _ _ _ _ _ _ _ _ _ _ _ _ _ _ _ _ _ _ _ _ _ _ _ _ _ h
theorem x28_l3_ok {b:(Int×(List Int)×Int×Int)} {panels:(List (Int×Int))} {q1:((List ((List Int)×Int×Int))×Int)} {kl3_0:(List Int)→Option ((List Int)×Int)} {s6:Int} {s7:Int} {s8:(List Int)} {v:((List Int)×Int)} {Q:Ex→List AV→List AObj→Prop}   (hkl3_0:∀ (z4:(List Int)) (u0:AV) (u1:AV) (u2:AV) (u3:AV) (u6:AV) (u7:AV) (u8:AV) (u9:AV) (u10:AV) (u12:AV) (u14:AV) (u16:AV) (u17:AV) (u18:AV) (u19:AV) (u20:AV) (u21:AV) (u22:AV) (u23:AV) (u24:AV) (u25:AV) (u26:AV) (u27:AV) (u28:AV) (u29:AV) (u30:AV) (u31:AV) (u32:AV) (u33:AV) (u34:AV) (u35:AV) (u36:AV) (u37:AV) (u38:AV) (u39:AV) (u40:AV) (u41:AV) (u42:AV) (u43:AV) (u44:AV) (u45:AV) (u46:AV) (u47:AV) (u48:AV) (u49:AV) (u50:AV) (u51:AV) (u52:AV) (u53:AV) (u54:AV) (u55:AV) (u56:AV) (u57:AV) (u58:AV) (u59:AV) (u60:AV) (o1:AObj) (Yq:List AObj),kl3_0 z4=some v→Q (.exit 0) [u0,u1,u2,u3,J,J,u6,u7,u8,u9,u10,(.ref 1 0 (panels.length:Int).toNat (some (panels.length:Int).toNat) 1),u12,J,u14,J,u16,u17,u18,u19,u20,u21,u22,u23,u24,u25,u26,u27,u28,u29,u30,u31,u32,u33,u34,u35,u36,u37,u38,u39,u40,u41,u42,u43,u44,u45,u46,u47,u48,u49,u50,u51,u52,u53,u54,u55,u56,u57,u58,u59,u60] (o1::AObj.cells (z4.map I)::Yq)) {T:List AV} (hT:zipKeep [o_,o_,o_,i_,o_,o_,o_,o_,o_,o_,o_,i_,i_,o_,o_,o_,o_,o_,o_,o_,o_,o_,o_,o_,o_,o_,o_,o_,o_,o_,o_,i_,i_,i_,o_,o_,o_,o_,o_,o_,o_,o_,o_,o_,o_,o_,o_,o_,o_,o_,o_,o_,o_,o_,o_,o_,o_,o_,o_,o_,o_] T=slots 61 [(3,(.ptr 0 0)),(11,(.ref 1 0 (panels.length:Int).toNat (some (panels.length:Int).toNat) 1)),(12,(I s6)),(31,(.lst (q1.1.flatMap E_turn) q1.1.length .shared)),(32,(I (q1.1.length:Int))),(33,(I s7))]) (h:x28_l3 b panels q1 kl3_0 FU s6 s7 s8=some v) :
  wpR Tryz.prog ann28 28 0 none xrc28_20 T [AObj.cells [(I b.1),(.lst (b.2.1.map I) b.2.1.length .shared),(I b.2.2.1),(I b.2.2.2)],AObj.cells (s8.map I)] Q:=by
 unfold xrc28_20
 obtain ⟨c_9,g_9⟩:∃ c,xrc28_9=c:=⟨_,rfl⟩
 rw [g_9]
 refine wp_loop hT ?_
 refine .intro (fun m T H=>∃ (s6:Int) (s7:Int) (s8:(List Int)) (Y28_1:List AObj),T=slots 61 [(3,(.ptr 0 0)),(11,(.ref 1 0 (panels.length:Int).toNat (some (panels.length:Int).toNat) 1)),(12,(I s6)),(31,(.lst (q1.1.flatMap E_turn) q1.1.length .shared)),(32,(I (q1.1.length:Int))),(33,(I s7))]∧H=(AObj.cells [(I b.1),(.lst (b.2.1.map I) b.2.1.length .shared),(I b.2.2.1),(I b.2.2.2)]::AObj.cells (s8.map I)::Y28_1)∧x28_l3 b panels q1 kl3_0 m s6 s7 s8=some v) FU ⟨s6,s7,s8,[],rfl,rfl,h⟩ ?_
 clear h hT
 rintro m T H ⟨s6,s7,s8,Y28_1,rfl,rfl,h⟩
 cases m
 ·exact none_ne h
 rename_i m
 rw [x28_l3.eq_2] at h
 conv=>whnf
 subst g_9
 unfold xrc28_9
 obtain ⟨c_10,g_10⟩:∃ c,xrc28_10=c:=⟨_,rfl⟩
 rw [g_10]
 conv=>whnf
 rcases bt (decide (s7<(q1.1.length:Int))) with hb12 | hb12
 ·rw [hb12]
  conv=>whnf
  replace h:=it_t hb12 h
  subst g_10
  unfold xrc28_10
  obtain ⟨c_11,g_11⟩:∃ c,xrc28_11=c:=⟨_,rfl⟩
  rw [g_11]
  obtain ⟨c_12,g_12⟩:∃ c,xrc28_12=c:=⟨_,rfl⟩
  rw [g_12]
  conv=>whnf
  obtain ⟨hb13,h⟩:=gd_some h
  refine ⟨hb13,?_⟩
  rw [dropS E_turn 3 E_turn_len q1.1 s7 hb13]
  conv=>whnf
  refine nthK_of (x:=AObj.cells [(.lst [] 0 .full),(I (0:Int)),(I (0:Int))]) (by first | with_reducible exact get_concat _ _ | exact get_concat _ _ | exact ga (get_concat _ _) | rfl | (simp [List.getElem?_append,AV.settle];done)) ?_
  conv=>whnf
  rw [set_concat]
  subst g_12
  unfold xrc28_12
  obtain ⟨c_13,g_13⟩:∃ c,xrc28_13=c:=⟨_,rfl⟩
  rw [g_13]
  conv=>whnf
  refine nthK_of (x:=AObj.cells [(.lst (((ix q1.1 s7).1).map I) ((ix q1.1 s7).1).length .shared),(I (ix q1.1 s7).2.1),(I (ix q1.1 s7).2.2)]) (by first | with_reducible exact get_concat _ _ | exact get_concat _ _ | exact ga (get_concat _ _) | rfl | (simp [List.getElem?_append,AV.settle];done)) ?_
  conv=>whnf
  refine nthK_of (x:=AObj.cells [(.lst (((ix q1.1 s7).1).map I) ((ix q1.1 s7).1).length .shared),(I (ix q1.1 s7).2.1),(I (ix q1.1 s7).2.2)]) (by first | with_reducible exact get_concat _ _ | exact get_concat _ _ | exact ga (get_concat _ _) | rfl | (simp [List.getElem?_append,AV.settle];done)) ?_
  conv=>whnf
  subst g_13
  unfold xrc28_13
  obtain ⟨c_14,g_14⟩:∃ c,xrc28_14=c:=⟨_,rfl⟩
  rw [g_14]
  conv=>whnf
  refine nthK_of (x:=AObj.cells [(.lst (((ix q1.1 s7).1).map I) ((ix q1.1 s7).1).length .shared),(I (ix q1.1 s7).2.1),(I (ix q1.1 s7).2.2)]) (by first | with_reducible exact get_concat _ _ | exact get_concat _ _ | exact ga (get_concat _ _) | rfl | (simp [List.getElem?_append,AV.settle];done)) ?_
  conv=>whnf
  subst g_14
  unfold xrc28_14
  obtain ⟨c_19,g_19⟩:∃ c,xrc28_19=c:=⟨_,rfl⟩
  rw [g_19]
  conv=>whnf
  subst g_19
  refine x28_l4_ok ?_ (by exact rfl) h
  intro z3 u0 u1 u2 u6 u7 u8 u9 u10 u14 u16 u17 u18 u19 u20 u21 u22 u23 u24 u25 u26 u27 u28 u29 u30 u34 u35 u36 u37 u38 u39 u40 u41 u42 u43 u44 u45 u46 u47 u48 u49 u50 u51 u52 u53 u54 u55 u56 u57 u58 u59 u60 Yq h
  conv=>whnf
  subst g_11
  unfold xrc28_11
  skip
  conv=>whnf
  exact ⟨m,Nat.lt_succ_self m,(w (s6+(w ((w (b.2.2.2*(ix q1.1 s7).2.2))+(ix q1.1 s7).2.1)))),(w (s7+(1:Int))),z3,_,rfl,rfl,h⟩
 ·rw [hb12]
  conv=>whnf
  replace h:=it_f hb12 h
  exact hkl3_0 _ _ _ _ _ _ _ _ _ _ _ _ _ _ _ _ _ _ _ _ _ _ _ _ _ _ _ _ _ _ _ _ _ _ _ _ _ _ _ _ _ _ _ _ _ _ _ _ _ _ _ _ _ _ _ _ _ _ _ h
theorem x28_ok {b:(Int×(List Int)×Int×Int)} {panels:(List (Int×Int))} {turns:(List (List Int))} {v:((List Int)×Int)} (h:x28 b panels turns=some v):PO 28 [(.agg [(I b.1),(.lst (b.2.1.map I) b.2.1.length .shared),(I b.2.2.1),(I b.2.2.2)]),(.lst (panels.flatMap pr) panels.length .shared),(.lst (turns.map L1) turns.length .shared)] (.tuple [(.lst (v.1.map I) v.1.length .shared),(I v.2)]):=by
 refine fn_pureW hmix lxx28 rfl (pu_tup (allc (pu_map (fun _=>rfl) _ _ _) (allc rfl rfl))) fun Q hQ=>?_
 have hR:∀ T H,RetW [.tmp 6,.tmp 7] (.tuple [(.lst (v.1.map I) v.1.length .shared),(I v.2)]) .ret T H→Q .ret T H:=fun T H hh=>hQ _ T H hh
 unfold x28 at h
 unfold xrc28
 obtain ⟨c_1,g_1⟩:∃ c,xrc28_1=c:=⟨_,rfl⟩
 rw [g_1]
 conv=>whnf
 subst g_1
 unfold xrc28_1
 obtain ⟨c_2,g_2⟩:∃ c,xrc28_2=c:=⟨_,rfl⟩
 rw [g_2]
 conv=>whnf
 obtain ⟨r1,hb1,h⟩:=bd_some h
 rcases r1 with ⟨_ | p1,q1⟩
 ·refine ⟨(allc (pu_agg (allc rfl (allc (pu_map (fun _=>rfl) _ _ _) (allc rfl (allc rfl rfl))))) (allc (pu_flat (fun _=>(allc rfl (allc rfl rfl))) _ _ _) (allc (pu_map (fun _=>(pu_map (fun _=>rfl) _ _ _)) _ _ _) rfl))),_,x65_ok hb1,?_⟩
  conv=>whnf
  subst g_2
  unfold xrc28_2
  obtain ⟨c_3,g_3⟩:∃ c,xrc28_3=c:=⟨_,rfl⟩
  rw [g_3]
  obtain ⟨c_4,g_4⟩:∃ c,xrc28_4=c:=⟨_,rfl⟩
  rw [g_4]
  conv=>whnf
  subst g_4
  unfold xrc28_4
  skip
  conv=>whnf
  rcases bt (decide (q1.2≠(0:Int))) with hb2 | hb2
  ·rw [hb2]
   conv=>whnf
   replace h:=it_t hb2 h
   obtain rfl:=Option.some.inj h
   exact hR _ _ ⟨.inr rfl,_,rfl,_,frz_pure (pu_tup (allc rfl (allc rfl rfl))),rfl⟩
  ·rw [hb2]
   conv=>whnf
   replace h:=it_f hb2 h
   subst g_3
   unfold xrc28_3
   obtain ⟨c_5,g_5⟩:∃ c,xrc28_5=c:=⟨_,rfl⟩
   rw [g_5]
   conv=>whnf
   obtain ⟨hb3,h⟩:=gd_some h
   refine ⟨hb3.1,hb3.2.1,hb3.2.2,?_⟩
   rw [replMap I (0:Int)]
   conv=>whnf
   subst g_5
   unfold xrc28_5
   obtain ⟨c_6,g_6⟩:∃ c,xrc28_6=c:=⟨_,rfl⟩
   rw [g_6]
   conv=>whnf
   subst g_6
   unfold xrc28_6
   obtain ⟨c_7,g_7⟩:∃ c,xrc28_7=c:=⟨_,rfl⟩
   rw [g_7]
   obtain ⟨c_8,g_8⟩:∃ c,xrc28_8=c:=⟨_,rfl⟩
   rw [g_8]
   conv=>whnf
   subst g_8
   unfold xrc28_8
   obtain ⟨c_20,g_20⟩:∃ c,xrc28_20=c:=⟨_,rfl⟩
   rw [g_20]
   conv=>whnf
   subst g_20
   refine x28_l1_ok ?_ (by exact rfl) h
   intro z2 u0 u1 u2 u3 u6 u7 u8 u9 u10 u12 u14 u16 u17 u18 u19 u20 u21 u22 u23 u24 u25 u26 u27 u28 u29 u30 u31 u32 u33 u34 u35 u36 u37 u38 u39 u40 u41 u42 u43 u44 u45 u46 u47 u48 u49 u50 u51 u52 u53 u54 u55 u56 u57 u58 u59 u60 o1 Yq h
   conv=>whnf
   subst g_7
   unfold xrc28_7
   skip
   conv=>whnf
   obtain ⟨hb9,h⟩:=gd_some h
   obtain rfl:=Option.some.inj h
   exact hR _ _ ⟨.inr rfl,_,rfl,_,(frz_tup (mapO_cons' (frz_row (f:=I) (l:=z2) (by first | with_reducible exact get_concat _ _ | exact get_concat _ _ | exact ga (get_concat _ _) | rfl | (simp [List.getElem?_append,AV.settle];done)) hb9 (fun _=>rfl) (fun _=>rfl)) (mapO_cons' (frz_pure rfl) mapO_nil'))),by simp only [AV.settle,AV.view,AV.dim,List.map_cons,List.map_nil,dim0_frz];exact congrArg (fun n=>AV.tuple [AV.lst _ n .shared,_]) hb9⟩
 ·refine ⟨(allc (pu_agg (allc rfl (allc (pu_map (fun _=>rfl) _ _ _) (allc rfl (allc rfl rfl))))) (allc (pu_flat (fun _=>(allc rfl (allc rfl rfl))) _ _ _) (allc (pu_map (fun _=>(pu_map (fun _=>rfl) _ _ _)) _ _ _) rfl))),_,x65_ok hb1,?_⟩
  conv=>whnf
  subst g_2
  unfold xrc28_2
  obtain ⟨c_3,g_3⟩:∃ c,xrc28_3=c:=⟨_,rfl⟩
  rw [g_3]
  obtain ⟨c_4,g_4⟩:∃ c,xrc28_4=c:=⟨_,rfl⟩
  rw [g_4]
  conv=>whnf
  subst g_4
  unfold xrc28_4
  skip
  conv=>whnf
  rcases bt (decide (q1.2≠(0:Int))) with hb10 | hb10
  ·rw [hb10]
   conv=>whnf
   replace h:=it_t hb10 h
   obtain rfl:=Option.some.inj h
   exact hR _ _ ⟨.inr rfl,_,rfl,_,frz_pure (pu_tup (allc rfl (allc rfl rfl))),rfl⟩
  ·rw [hb10]
   conv=>whnf
   replace h:=it_f hb10 h
   subst g_3
   unfold xrc28_3
   obtain ⟨c_5,g_5⟩:∃ c,xrc28_5=c:=⟨_,rfl⟩
   rw [g_5]
   conv=>whnf
   obtain ⟨hb11,h⟩:=gd_some h
   refine ⟨hb11.1,hb11.2.1,hb11.2.2,?_⟩
   rw [replMap I (0:Int)]
   conv=>whnf
   subst g_5
   unfold xrc28_5
   obtain ⟨c_6,g_6⟩:∃ c,xrc28_6=c:=⟨_,rfl⟩
   rw [g_6]
   conv=>whnf
   subst g_6
   unfold xrc28_6
   obtain ⟨c_7,g_7⟩:∃ c,xrc28_7=c:=⟨_,rfl⟩
   rw [g_7]
   obtain ⟨c_8,g_8⟩:∃ c,xrc28_8=c:=⟨_,rfl⟩
   rw [g_8]
   conv=>whnf
   subst g_8
   unfold xrc28_8
   obtain ⟨c_20,g_20⟩:∃ c,xrc28_20=c:=⟨_,rfl⟩
   rw [g_20]
   conv=>whnf
   subst g_20
   refine x28_l3_ok ?_ (by exact rfl) h
   intro z4 u0 u1 u2 u3 u6 u7 u8 u9 u10 u12 u14 u16 u17 u18 u19 u20 u21 u22 u23 u24 u25 u26 u27 u28 u29 u30 u31 u32 u33 u34 u35 u36 u37 u38 u39 u40 u41 u42 u43 u44 u45 u46 u47 u48 u49 u50 u51 u52 u53 u54 u55 u56 u57 u58 u59 u60 o1 Yq h
   conv=>whnf
   subst g_7
   unfold xrc28_7
   skip
   conv=>whnf
   obtain ⟨hb17,h⟩:=gd_some h
   obtain rfl:=Option.some.inj h
   exact hR _ _ ⟨.inr rfl,_,rfl,_,(frz_tup (mapO_cons' (frz_row (f:=I) (l:=z4) (by first | with_reducible exact get_concat _ _ | exact get_concat _ _ | exact ga (get_concat _ _) | rfl | (simp [List.getElem?_append,AV.settle];done)) hb17 (fun _=>rfl) (fun _=>rfl)) (mapO_cons' (frz_pure rfl) mapO_nil'))),by simp only [AV.settle,AV.view,AV.dim,List.map_cons,List.map_nil,dim0_frz];exact congrArg (fun n=>AV.tuple [AV.lst _ n .shared,_]) hb17⟩

def x29_l2 (b:(Int×(List Int)×Int×Int)) (panels:(List (Int×Int))) (turns:(List (List Int))) (s1:Int) (s3:Int) (r2:Int) (r3:Int) (kl2_0:(List Int)→Option ((List Int)×Int)):Nat→Int→(List Int)→Option ((List Int)×Int)
 | 0,_,_=>none
 | m+1,s5,s6 =>
   gd (0≤s3∧s3<(turns.length:Int)) <|
   if (decide (s5<((ix turns s3).length:Int)))=true then
    gd (0≤s3∧s3<(turns.length:Int)) <|
    gd (0≤s5∧s5<((ix turns s3).length:Int)) <|
    gd (0≤(ix (ix turns s3) s5)∧(ix (ix turns s3) s5)<(((panels.length:Int).toNat:Nat):Int)∧(panels.length:Int).toNat=s6.length) <|
    x29_l2 b panels turns s1 s3 r2 r3 kl2_0 m (w (s5+(1:Int))) (s6.set (ix (ix turns s3) s5).toNat (w (s1+(w ((w (b.2.2.2*r2))+r3)))))
   else
    kl2_0 s6
def x29_l1 (b:(Int×(List Int)×Int×Int)) (panels:(List (Int×Int))) (turns:(List (List Int))) (kl1_0:(List Int)→Option ((List Int)×Int)):Nat→Int→Int→Int→(List Int)→Option ((List Int)×Int)
 | 0,_,_,_,_=>none
 | m+1,s1,s2,s3,s4 =>
   if (decide (s3<(turns.length:Int)))=true then
    gd (0≤s3∧s3<(turns.length:Int)) <|
    gd (0≤(0:Int)∧(0:Int)<((ix turns s3).length:Int)) <|
    gd (0≤(ix (ix turns s3) (0:Int))∧(ix (ix turns s3) (0:Int))<(panels.length:Int)) <|
    (x52 s2 ((ix panels (ix (ix turns s3) (0:Int))).1)).bind fun r2 =>
    gd (0≤s3∧s3<(turns.length:Int)) <|
    (x68 panels (ix turns s3)).bind fun r3 =>
    x29_l2 b panels turns s1 s3 r2 r3 (fun z1 =>
      x29_l1 b panels turns kl1_0 m (w (s1+(w ((w (b.2.2.2*r2))+r3)))) ((ix panels (ix (ix turns s3) (0:Int))).1) (w (s3+(1:Int))) z1) FU (0:Int) s4
   else
    kl1_0 s4
def x29 (b:(Int×(List Int)×Int×Int)) (panels:(List (Int×Int))) (turns:(List (List Int))):Option ((List Int)×Int) :=
 (x27 b panels turns).bind fun r1 =>
 if (decide (r1.2.2≠(0:Int)))=true then
  some ([],r1.2.2)
 else
  gd (0≤(panels.length:Int)∧(panels.length:Int)≤(panels.length:Int)∧(panels.length:Int).toNat*8≤140737488355328) <|
  x29_l1 b panels turns (fun z2 =>
    gd ((panels.length:Int).toNat=z2.length) <|
    some (z2,(0:Int))) FU (0:Int) b.2.2.1 (0:Int) (List.replicate (panels.length:Int).toNat (0:Int))
end Go.Proofs.YtbnbjjgagikobaaGreat.Ab
