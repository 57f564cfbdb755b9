
import Derived.Test.YtfakoboiahbhaaaGreatJo4
import Derived.Test.YtfakoboiahbhaaaGreatJo7
import Derived.KernelRfl
set_option linter.unusedSimpArgs false
set_option linter.unusedVariables false
set_option linter.unusedSectionVars false

namespace Go.Proofs.YtfakoboiahbhaaaGreat.Ab
open Go
set_option maxRecDepth 20000
set_option maxHeartbeats 4000000
noncomputable def xrc45_1:RC :=
 .rng (.sl 50) [51] (rngA Tryz.prog 45 0) (rngB Tryz.prog 45 0)
noncomputable def xrc45_2:RC :=
 .loop (some [o_,o_,i_,o_,i_,o_,o_,o_,i_,o_,i_,i_,o_,o_,o_,o_,o_,o_,o_,o_,o_,o_,o_,o_,o_,o_,o_,o_,o_,o_,o_,o_,o_,o_,o_,o_,o_,o_,o_,o_,o_,o_,o_,o_,o_,o_,o_,o_,o_,o_,o_,o_,o_,o_,o_,o_,o_,o_,o_,o_,o_,o_,o_,o_,o_,o_,o_,o_,o_,o_,o_,o_]) (.seq (.seq (.reg false [I_ 45 [.sl 4] (.ld .one),I_ 46 [.sl 2] .mv,I_ 47 [.tv 45,.tv 46] (.bin .neq)]) (.cond (.sl 47) .skip (.exit 1))) (.block 2 (.seq (.reg
 false [I_ 48 [.sl 8] (.ld .one),I_ 49 [.sl 4] (.ld .one),I_ 50 [.cv (.func 89 [] []),.sl 48,.sl 49] (.call 3)]) (.block 3 xrc45_1))))
noncomputable def xrc45:RC :=
 .seq (.reg false [I_ 3 [.tk 0] .box,I_ 4 [.tk 1] .box,I_ 6 [.cv (.lst [] 0 .full)] (.nil 2),I_ 7 [.cv (.int .i64 0)] .mv]) (.seq (.reg false [I_ 16 [.sl 3] (.ld (.str 2)),I_ 17 [.cv (.func 64 [] []),.sl 16] (.call 3),I_ 15
 [.tk 17] .mv,I_ 18 [.sl 15] (.ext 0),I_ 19 [.tv 15] (.ext 1),I_ 8 [] (.alloc [.nilp]),⟨none,[.sl 8,.tk 18],none,none,.st 1⟩,I_ 9 [.tk 19] .mv]) (.seq (.block 0 (.seq (.reg false [I_ 21 [.sl 9] .mv,I_ 22 [.tv 21,.cv
 (.int .i64 0)] (.bin .neq),I_ 20 [.tk 22] .mv]) (.cond (.sl 20) (.seq (.reg false [I_ 23 [.tk 9] .mv,I_ 6 [.cv (.lst [] 0 .full)] (.nil 2),I_ 7 [.tk 23] .mv]) .ret) (.seq (.reg false [I_ 25 [.tv 3] (.fa 0),I_ 26 [.tv 25]
 (.ld .one),I_ 27 [.tv 26,.cv (.int .i64 1)] (.bin .sub),I_ 28 [.sl 4] (.ld .one),I_ 29 [.sl 2] .mv,I_ 30 [.tv 28,.tv 29] (.buildS 2 1 [.int .i64 0] [0,1]),I_ 31 [.cv (.func 66 [] []),.cv (.int .i64 0),.sl 27,.sl 30]
 (.call 3),I_ 32 [.tv 31] (.un .not),I_ 33 [.tk 32] .mv,⟨some 34,[.sl 4],some (33,false),none,.ld .one⟩,⟨some 35,[.sl 2],some (33,false),none,.mv⟩,⟨some 36,[.tv 34,.tv 35],some (33,false),none,.bin .eql⟩,I_
 37 [.tv 33,.cv (.bool true),.tv 36] .pick,I_ 24 [.tk 37] .mv]) (.cond (.sl 24) (.seq (.reg false [I_ 6 [.cv (.lst [] 0 .full)] (.nil 2),I_ 7 [.cv (.int .i64 2)] .mv]) .ret) .skip))))) (.seq (.reg false [I_ 38 [.sl 8] (.ld
 .one),I_ 39 [.sl 2] .mv,I_ 40 [.cv (.func 81 [] []),.sl 38,.sl 39,.cv (.int .i64 (-1))] (.call 3),I_ 10 [] (.alloc [.int .i64 0,.int .i64 0,.int .i64 0,.int .i64 0,.int .i64 0,.int .i64 0]),⟨none,[.sl 10,.tk 40],
 none,none,.st 6⟩]) (.seq (.seq (.reg false [I_ 41 [.sl 4] (.ld .one),I_ 42 [.sl 10,.tv 41] (.iaA 6 1),I_ 43 [.tv 42] (.ld .one),I_ 44 [.tv 43,.cv (.int .i64 0)] (.bin .lss)]) (.cond (.sl 44) (.seq (.reg false [I_ 6 [.cv
 (.lst [] 0 .full)] (.nil 2),I_ 7 [.cv (.int .i64 5)] .mv]) .ret) .skip)) (.seq (.reg false [I_ 11 [] (.alloc [.lst [] 0 (.own 2)])]) (.seq (.block 1 xrc45_2) (.seq (.reg false [I_ 71 [.tv 11] (.ld .one),I_ 6 [.tk 71] .mv,I_
 7 [.cv (.int .i64 0)] .mv]) .ret)))))))
noncomputable def xrc45_A0:RC :=
 .reg false [I_ 12 [] (.alloc [.int .i64 0,.int .i64 0]),⟨none,[.sl 12,.tk 51],none,none,.st 2⟩]
theorem lxx45_A0:linkC Tryz.prog ann45 (rngA Tryz.prog 45 0) 0=some xrc45_A0:=by kernel_rfl
noncomputable def xrc45_B0:RC :=
 .block 4 (.seq (.reg false [I_ 53 [.tv 8] (.ld .one),I_ 54 [.sl 12] (.ld (.str 2)),I_ 55 [.cv (.func 68 [] []),.sl 53,.sl 54] (.call 3),I_ 52 [.tk 55] .mv,I_ 56 [.sl 52] (.ext 0),I_ 57 [.tv 52] (.ext 1),I_ 13 [.tk 56]
 .mv,I_ 14 [.tk 57] .mv]) (.seq (.reg true [I_ 58 [.sl 14] .mv,I_ 59 [.sl 10,.tv 58] (.iaA 6 1),I_ 60 [.tv 59] (.ld .one),I_ 61 [.sl 4] (.ld .one),I_ 62 [.sl 10,.tv 61] (.iaA 6 1),I_ 63 [.tv 62] (.ld .one),I_ 64 [.tv
 63,.cv (.int .i64 1)] (.bin .sub),I_ 65 [.tv 60,.tv 64] (.bin .eql)]) (.cond (.sl 65) (.seq (.reg false [I_ 66 [.sl 11] .take,I_ 67 [.tv 12] (.ld (.str 2)),I_ 68 [.tv 67] (.buildS 1 2 [.int .i64 0,.int .i64 0] [0]),I_ 69
 [.tk 66,.tk 68] (.app 2 16),I_ 70 [.tk 14] .mv,⟨none,[.tk 11,.tk 69],none,none,.st 1⟩,⟨none,[.tk 4,.tk 70],none,none,.st 1⟩]) (.exit 3)) .skip)))
theorem lxx45_B0:linkC Tryz.prog ann45 (rngB Tryz.prog 45 0) 0=some xrc45_B0:=by kernel_rfl
theorem lxx45:linkF Tryz.prog ann45 45=some (xrc45,72,[.tmp 6,.tmp 7]):=by kernel_rfl
def x45_r1 (p1:(Int×(List (Int×Int)))) (r4:(List Int)) (st_:Int×(List (Int×Int))) (e1:(Int×Int)):Option ((Int×(List (Int×Int)))×Bool) :=
 match st_ with
 | (t1,t2) =>
   (x68 p1 e1).bind fun r6 =>
   gd (0≤r6.2∧r6.2<(6:Int)∧6=r4.length) <|
   gd (0≤t1∧t1<(6:Int)∧6=r4.length) <|
   if (decide ((ix r4 r6.2)=(w ((ix r4 t1)-(1:Int)))))=true then
    gd ((t2.length+1)*16≤140737488355328) <|
    some ((r6.2,(t2++[e1])),true)
   else
    some ((t1,t2),false)
def x45_l1 (to:Int) (p1:(Int×(List (Int×Int)))) (r4:(List Int)) (kl1_0:(List (Int×Int))→Option ((List (Int×Int))×Int)):Nat→Int→(List (Int×Int))→Option ((List (Int×Int))×Int)
 | 0,_,_=>none
 | m+1,s1,s2 =>
   if (decide (s1≠to))=true then
    (x89 p1 s1).bind fun r5 =>
    (s113 p1 s1).bind fun l1 =>
    (foldX (x45_r1 p1 r4) l1 (s1,s2)).bind fun r7 =>
    if r7.2=true then
     x45_l1 to p1 r4 kl1_0 m r7.1.1 r7.1.2
    else
     x45_l1 to p1 r4 kl1_0 m r7.1.1 r7.1.2
   else
    kl1_0 s2
def x45 (b:(Int×(List (Int×Int)))) (fromq:Int) (to:Int):Option ((List (Int×Int))×Int) :=
 (x64 b).bind fun r1 =>
 match r1 with
 | (none,q1) =>
   if (decide (q1≠(0:Int)))=true then
    some ([],q1)
   else
    (x66 (0:Int) (w (b.1-(1:Int))) [fromq,to]).bind fun r2 =>
    if r2=true then
     if (decide (fromq=to))=true then
      some ([],(2:Int))
     else
      none
    else
     some ([],(2:Int))
 | (some p1,q1) =>
   if (decide (q1≠(0:Int)))=true then
    some ([],q1)
   else
    (x66 (0:Int) (w (b.1-(1:Int))) [fromq,to]).bind fun r3 =>
    if r3=true then
     if (decide (fromq=to))=true then
      some ([],(2:Int))
     else
      (x81 p1 to (-1:Int)).bind fun r4 =>
      gd (r4.length=6∧(List.replicate 6 (0:Int)).length=6) <|
      gd (0≤fromq∧fromq<(6:Int)∧6=r4.length) <|
      if (decide ((ix r4 fromq)<(0:Int)))=true then
       some ([],(5:Int))
      else
       x45_l1 to p1 r4 (fun z1 =>
         some (z1,(0:Int))) FU fromq ([]:List (Int×Int))
    else
     some ([],(2:Int))
theorem x45_r1_ok {p1:(Int×(List (Int×Int)))} {r4:(List Int)} {t1:Int} {t2:(List (Int×Int))} {e1:(Int×Int)} {u0:AV} {u1:AV} {u2:AV} {u3:AV} {u5:AV} {u6:AV} {u7:AV} {u9:AV} {u12:AV} {u13:AV} {u14:AV} {u15:AV} {u16:AV} {u17:AV} {u18:AV} {u19:AV} {u20:AV} {u21:AV} {u22:AV} {u23:AV} {u24:AV} {u25:AV} {u26:AV} {u27:AV} {u28:AV} {u29:AV} {u30:AV} {u31:AV} {u32:AV} {u33:AV} {u34:AV} {u35:AV} {u36:AV} {u37:AV} {u38:AV} {u39:AV} {u40:AV} {u41:AV} {u42:AV} {u43:AV} {u44:AV} {u45:AV} {u46:AV} {u47:AV} {u48:AV} {u49:AV} {u50:AV} {u51:AV} {u52:AV} {u53:AV} {u54:AV} {u55:AV} {u56:AV} {u57:AV} {u58:AV} {u59:AV} {u60:AV} {u61:AV} {u62:AV} {u63:AV} {u64:AV} {u65:AV} {u66:AV} {u67:AV} {u68:AV} {u69:AV} {u70:AV} {u71:AV} {o1:AObj} {Y45_1:List AObj} {v_:Int×(List (Int×Int))} (h:x45_r1 p1 r4 (t1,t2) e1=some (v_,false)) (Y:List AObj) :
  ∃ Y',Sem Tryz.prog (.yield ((o1::AObj.cells [(I t1)]::AObj.cells [(.lptr [(I p1.1),(.lst (p1.2.flatMap pr) p1.2.length .shared)])]::AObj.cells (r4.map I)::AObj.cells [(.lst (t2.flatMap pr) t2.length (.own 2))]::Y45_1)).length) [(.agg [(I e1.1),(I e1.2)])] (((o1::AObj.cells [(I t1)]::AObj.cells [(.lptr [(I p1.1),(.lst (p1.2.flatMap pr) p1.2.length .shared)])]::AObj.cells (r4.map I)::AObj.cells [(.lst (t2.flatMap pr) t2.length (.own 2))]::Y45_1)++[AObj.loop .ready none 45 [u0,u1,u2,u3,(.ptr 1 0),u5,u6,u7,(.ptr 2 0),u9,(.ptr 3 0),(.ptr 4 0),u12,u13,u14,u15,u16,u17,u18,u19,u20,u21,u22,u23,u24,u25,u26,u27,u28,u29,u30,u31,u32,u33,u34,u35,u36,u37,u38,u39,u40,u41,u42,u43,u44,u45,u46,u47,u48,u49,u50,u51,u52,u53,u54,u55,u56,u57,u58,u59,u60,u61,u62,u63,u64,u65,u66,u67,u68,u69,u70,u71] [51] (rngA Tryz.prog 45 0) (rngB Tryz.prog 45 0) ann45])++Y) 0 (.bool true) (((o1::AObj.cells [(I v_.1)]::AObj.cells [(.lptr [(I p1.1),(.lst (p1.2.flatMap pr) p1.2.length .shared)])]::AObj.cells (r4.map I)::AObj.cells [(.lst (v_.2.flatMap pr) v_.2.length (.own 2))]::Y45_1)++[AObj.loop .ready none 45 [u0,u1,u2,u3,(.ptr 1 0),u5,u6,u7,(.ptr 2 0),u9,(.ptr 3 0),(.ptr 4 0),u12,u13,u14,u15,u16,u17,u18,u19,u20,u21,u22,u23,u24,u25,u26,u27,u28,u29,u30,u31,u32,u33,u34,u35,u36,u37,u38,u39,u40,u41,u42,u43,u44,u45,u46,u47,u48,u49,u50,u51,u52,u53,u54,u55,u56,u57,u58,u59,u60,u61,u62,u63,u64,u65,u66,u67,u68,u69,u70,u71] [51] (rngA Tryz.prog 45 0) (rngB Tryz.prog 45 0) ann45])++Y'):=by
 unfold x45_r1 at h
 refine ⟨Y++[.dead],sem_round hmix lxx45_A0 lxx45_B0 (get_mid _ _ _) rfl (low0 (by simp)) ?_⟩
 unfold xrc45_A0
 conv=>whnf
 refine nthK_of (x:=AObj.cells [(I (0:Int)),(I (0:Int))]) (by first | with_reducible exact get_concat _ _ | exact get_concat _ _ | exact ga (get_concat _ _) | rfl | (simp [List.getElem?_append,AV.settle];done)) ?_
 conv=>whnf
 rw [set_concat]
 refine ⟨rfl,get_midY _ _ _ _,?_⟩
 rw [set_midY]
 unfold xrc45_B0
 conv=>whnf
 refine nthK_of (x:=AObj.cells [(I e1.1),(I e1.2)]) (by first | with_reducible exact get_concat _ _ | exact get_concat _ _ | exact ga (get_concat _ _) | rfl | (simp [List.getElem?_append,AV.settle];done)) ?_
 conv=>whnf
 obtain ⟨r6,hb14,h⟩:=bd_some h
 refine ⟨(allc (pu_lptr (allc rfl (allc (pu_flat (fun _=>(allc rfl (allc rfl rfl))) _ _ _) rfl))) (allc (pu_agg (allc rfl (allc rfl rfl))) rfl)),_,x68_ok hb14,?_⟩
 conv=>whnf
 obtain ⟨hb15,h⟩:=gd_some h
 refine ⟨⟨hb15.1,hb15.2.1⟩,?_⟩
 replace hb15:0≤r6.2∧r6.2<(r4.length:Int):=⟨hb15.1,by have:=hb15.2;omega⟩
 conv=>whnf
 refine rdD I r4 r6.2 hb15 ?_
 conv=>whnf
 obtain ⟨hb16,h⟩:=gd_some h
 refine ⟨⟨hb16.1,hb16.2.1⟩,?_⟩
 replace hb16:0≤t1∧t1<(r4.length:Int):=⟨hb16.1,by have:=hb16.2;omega⟩
 conv=>whnf
 refine rdD I r4 t1 hb16 ?_
 conv=>whnf
 rcases bt (decide ((ix r4 r6.2)=(w ((ix r4 t1)-(1:Int))))) with hb17 | hb17
 ·rw [hb17]
  conv=>whnf
  replace h:=it_t hb17 h
  refine nthK_of (x:=AObj.cells [(I e1.1),(I e1.2)]) (by first | with_reducible exact get_concat _ _ | exact get_concat _ _ | exact ga (get_concat _ _) | rfl | (simp [List.getElem?_append,AV.settle];done)) ?_
  conv=>whnf
  obtain ⟨hb18,h⟩:=gd_some h
  refine ⟨by first | rfl | (simp;done) | exact flatLen pr _ pr_len _,by have:=hb18;omega,rfl,hb18,?_⟩
  erw [apndS pr t2 e1]
  conv=>whnf
  exact absurd (congrArg (fun q=>q.2) (Option.some.inj h)) (by simp)
 ·rw [hb17]
  conv=>whnf
  replace h:=it_f hb17 h
  obtain rfl:=congrArg (fun q=>q.1) (Option.some.inj h)
  show _∧((((o1::AObj.cells [(I t1)]::AObj.cells [(.lptr [(I p1.1),(.lst (p1.2.flatMap pr) p1.2.length .shared)])]::AObj.cells (r4.map I)::AObj.cells [(.lst (t2.flatMap pr) t2.length (.own 2))]::Y45_1)++[AObj.loop .busy none 45 [u0,u1,u2,u3,(AV.ptr 1 0),u5,u6,u7,(AV.ptr 2 0),u9,(AV.ptr 3 0),(AV.ptr 4 0),u12,u13,u14,u15,u16,u17,u18,u19,u20,u21,u22,u23,u24,u25,u26,u27,u28,u29,u30,u31,u32,u33,u34,u35,u36,u37,u38,u39,u40,u41,u42,u43,u44,u45,u46,u47,u48,u49,u50,u51,u52,u53,u54,u55,u56,u57,u58,u59,u60,u61,u62,u63,u64,u65,u66,u67,u68,u69,u70,u71] [51] (rngA Tryz.prog 45 0) (rngB Tryz.prog 45 0) ann45])++Y)++[_])[((o1::AObj.cells [(I t1)]::AObj.cells [(.lptr [(I p1.1),(.lst (p1.2.flatMap pr) p1.2.length .shared)])]::AObj.cells (r4.map I)::AObj.cells [(.lst (t2.flatMap pr) t2.length (.own 2))]::Y45_1)).length]?=_∧Fgt (((((o1::AObj.cells [(I t1)]::AObj.cells [(.lptr [(I p1.1),(.lst (p1.2.flatMap pr) p1.2.length .shared)])]::AObj.cells (r4.map I)::AObj.cells [(.lst (t2.flatMap pr) t2.length (.own 2))]::Y45_1)++[AObj.loop .busy none 45 [u0,u1,u2,u3,(AV.ptr 1 0),u5,u6,u7,(AV.ptr 2 0),u9,(AV.ptr 3 0),(AV.ptr 4 0),u12,u13,u14,u15,u16,u17,u18,u19,u20,u21,u22,u23,u24,u25,u26,u27,u28,u29,u30,u31,u32,u33,u34,u35,u36,u37,u38,u39,u40,u41,u42,u43,u44,u45,u46,u47,u48,u49,u50,u51,u52,u53,u54,u55,u56,u57,u58,u59,u60,u61,u62,u63,u64,u65,u66,u67,u68,u69,u70,u71] [51] (rngA Tryz.prog 45 0) (rngB Tryz.prog 45 0) ann45])++Y)++[_]).set ((o1::AObj.cells [(I t1)]::AObj.cells [(.lptr [(I p1.1),(.lst (p1.2.flatMap pr) p1.2.length .shared)])]::AObj.cells (r4.map I)::AObj.cells [(.lst (t2.flatMap pr) t2.length (.own 2))]::Y45_1)).length _) _
  exact ⟨rfl,get_midY _ _ _ _,by rw [set_midY];exact fgt_midY _ _ _ _⟩
theorem x45_r1_okX {p1:(Int×(List (Int×Int)))} {r4:(List Int)} {t1:Int} {t2:(List (Int×Int))} {e1:(Int×Int)} {u0:AV} {u1:AV} {u2:AV} {u3:AV} {u5:AV} {u6:AV} {u7:AV} {u9:AV} {u12:AV} {u13:AV} {u14:AV} {u15:AV} {u16:AV} {u17:AV} {u18:AV} {u19:AV} {u20:AV} {u21:AV} {u22:AV} {u23:AV} {u24:AV} {u25:AV} {u26:AV} {u27:AV} {u28:AV} {u29:AV} {u30:AV} {u31:AV} {u32:AV} {u33:AV} {u34:AV} {u35:AV} {u36:AV} {u37:AV} {u38:AV} {u39:AV} {u40:AV} {u41:AV} {u42:AV} {u43:AV} {u44:AV} {u45:AV} {u46:AV} {u47:AV} {u48:AV} {u49:AV} {u50:AV} {u51:AV} {u52:AV} {u53:AV} {u54:AV} {u55:AV} {u56:AV} {u57:AV} {u58:AV} {u59:AV} {u60:AV} {u61:AV} {u62:AV} {u63:AV} {u64:AV} {u65:AV} {u66:AV} {u67:AV} {u68:AV} {u69:AV} {u70:AV} {u71:AV} {o1:AObj} {Y45_1:List AObj} {v_:Int×(List (Int×Int))} (h:x45_r1 p1 r4 (t1,t2) e1=some (v_,true)) (Y:List AObj) :
  ∃ Y',Sem Tryz.prog (.yield ((o1::AObj.cells [(I t1)]::AObj.cells [(.lptr [(I p1.1),(.lst (p1.2.flatMap pr) p1.2.length .shared)])]::AObj.cells (r4.map I)::AObj.cells [(.lst (t2.flatMap pr) t2.length (.own 2))]::Y45_1)).length) [(.agg [(I e1.1),(I e1.2)])] (((o1::AObj.cells [(I t1)]::AObj.cells [(.lptr [(I p1.1),(.lst (p1.2.flatMap pr) p1.2.length .shared)])]::AObj.cells (r4.map I)::AObj.cells [(.lst (t2.flatMap pr) t2.length (.own 2))]::Y45_1)++[AObj.loop .ready none 45 [u0,u1,u2,u3,(.ptr 1 0),u5,u6,u7,(.ptr 2 0),u9,(.ptr 3 0),(.ptr 4 0),u12,u13,u14,u15,u16,u17,u18,u19,u20,u21,u22,u23,u24,u25,u26,u27,u28,u29,u30,u31,u32,u33,u34,u35,u36,u37,u38,u39,u40,u41,u42,u43,u44,u45,u46,u47,u48,u49,u50,u51,u52,u53,u54,u55,u56,u57,u58,u59,u60,u61,u62,u63,u64,u65,u66,u67,u68,u69,u70,u71] [51] (rngA Tryz.prog 45 0) (rngB Tryz.prog 45 0) ann45])++Y) 0 (.bool false) (((o1::AObj.cells [(I v_.1)]::AObj.cells [(.lptr [(I p1.1),(.lst (p1.2.flatMap pr) p1.2.length .shared)])]::AObj.cells (r4.map I)::AObj.cells [(.lst (v_.2.flatMap pr) v_.2.length (.own 2))]::Y45_1)++[AObj.loop .done (some (.exit 3)) 45 [u0,u1,u2,u3,(.ptr 1 0),u5,u6,u7,(.ptr 2 0),u9,(.ptr 3 0),(.ptr 4 0),u12,u13,u14,u15,u16,u17,u18,u19,u20,u21,u22,u23,u24,u25,u26,u27,u28,u29,u30,u31,u32,u33,u34,u35,u36,u37,u38,u39,u40,u41,u42,u43,u44,u45,u46,u47,u48,u49,u50,u51,u52,u53,u54,u55,u56,u57,u58,u59,u60,u61,u62,u63,u64,u65,u66,u67,u68,u69,u70,u71] [51] (rngA Tryz.prog 45 0) (rngB Tryz.prog 45 0) ann45])++Y'):=by
 unfold x45_r1 at h
 refine ⟨Y++[.dead],sem_roundX (id:=3) hmix lxx45_A0 lxx45_B0 (get_mid _ _ _) rfl (low0 (by simp)) ?_⟩
 unfold xrc45_A0
 conv=>whnf
 refine nthK_of (x:=AObj.cells [(I (0:Int)),(I (0:Int))]) (by first | with_reducible exact get_concat _ _ | exact get_concat _ _ | exact ga (get_concat _ _) | rfl | (simp [List.getElem?_append,AV.settle];done)) ?_
 conv=>whnf
 rw [set_concat]
 refine ⟨rfl,get_midY _ _ _ _,?_⟩
 rw [set_midY]
 unfold xrc45_B0
 conv=>whnf
 refine nthK_of (x:=AObj.cells [(I e1.1),(I e1.2)]) (by first | with_reducible exact get_concat _ _ | exact get_concat _ _ | exact ga (get_concat _ _) | rfl | (simp [List.getElem?_append,AV.settle];done)) ?_
 conv=>whnf
 obtain ⟨r6,hb14,h⟩:=bd_some h
 refine ⟨(allc (pu_lptr (allc rfl (allc (pu_flat (fun _=>(allc rfl (allc rfl rfl))) _ _ _) rfl))) (allc (pu_agg (allc rfl (allc rfl rfl))) rfl)),_,x68_ok hb14,?_⟩
 conv=>whnf
 obtain ⟨hb15,h⟩:=gd_some h
 refine ⟨⟨hb15.1,hb15.2.1⟩,?_⟩
 replace hb15:0≤r6.2∧r6.2<(r4.length:Int):=⟨hb15.1,by have:=hb15.2;omega⟩
 conv=>whnf
 refine rdD I r4 r6.2 hb15 ?_
 conv=>whnf
 obtain ⟨hb16,h⟩:=gd_some h
 refine ⟨⟨hb16.1,hb16.2.1⟩,?_⟩
 replace hb16:0≤t1∧t1<(r4.length:Int):=⟨hb16.1,by have:=hb16.2;omega⟩
 conv=>whnf
 refine rdD I r4 t1 hb16 ?_
 conv=>whnf
 rcases bt (decide ((ix r4 r6.2)=(w ((ix r4 t1)-(1:Int))))) with hb17 | hb17
 ·rw [hb17]
  conv=>whnf
  replace h:=it_t hb17 h
  refine nthK_of (x:=AObj.cells [(I e1.1),(I e1.2)]) (by first | with_reducible exact get_concat _ _ | exact get_concat _ _ | exact ga (get_concat _ _) | rfl | (simp [List.getElem?_append,AV.settle];done)) ?_
  conv=>whnf
  obtain ⟨hb18,h⟩:=gd_some h
  refine ⟨by first | rfl | (simp;done) | exact flatLen pr _ pr_len _,by have:=hb18;omega,rfl,hb18,?_⟩
  erw [apndS pr t2 e1]
  conv=>whnf
  obtain rfl:=congrArg (fun q=>q.1) (Option.some.inj h)
  show _∧((((o1::AObj.cells [(I r6.2)]::AObj.cells [(.lptr [(I p1.1),(.lst (p1.2.flatMap pr) p1.2.length .shared)])]::AObj.cells (r4.map I)::AObj.cells [(.lst ((t2++[e1]).flatMap pr) (t2++[e1]).length (.own 2))]::Y45_1)++[AObj.loop .busy none 45 [u0,u1,u2,u3,(AV.ptr 1 0),u5,u6,u7,(AV.ptr 2 0),u9,(AV.ptr 3 0),(AV.ptr 4 0),u12,u13,u14,u15,u16,u17,u18,u19,u20,u21,u22,u23,u24,u25,u26,u27,u28,u29,u30,u31,u32,u33,u34,u35,u36,u37,u38,u39,u40,u41,u42,u43,u44,u45,u46,u47,u48,u49,u50,u51,u52,u53,u54,u55,u56,u57,u58,u59,u60,u61,u62,u63,u64,u65,u66,u67,u68,u69,u70,u71] [51] (rngA Tryz.prog 45 0) (rngB Tryz.prog 45 0) ann45])++Y)++[_])[((o1::AObj.cells [(I r6.2)]::AObj.cells [(.lptr [(I p1.1),(.lst (p1.2.flatMap pr) p1.2.length .shared)])]::AObj.cells (r4.map I)::AObj.cells [(.lst ((t2++[e1]).flatMap pr) (t2++[e1]).length (.own 2))]::Y45_1)).length]?=_∧Fgt (((((o1::AObj.cells [(I r6.2)]::AObj.cells [(.lptr [(I p1.1),(.lst (p1.2.flatMap pr) p1.2.length .shared)])]::AObj.cells (r4.map I)::AObj.cells [(.lst ((t2++[e1]).flatMap pr) (t2++[e1]).length (.own 2))]::Y45_1)++[AObj.loop .busy none 45 [u0,u1,u2,u3,(AV.ptr 1 0),u5,u6,u7,(AV.ptr 2 0),u9,(AV.ptr 3 0),(AV.ptr 4 0),u12,u13,u14,u15,u16,u17,u18,u19,u20,u21,u22,u23,u24,u25,u26,u27,u28,u29,u30,u31,u32,u33,u34,u35,u36,u37,u38,u39,u40,u41,u42,u43,u44,u45,u46,u47,u48,u49,u50,u51,u52,u53,u54,u55,u56,u57,u58,u59,u60,u61,u62,u63,u64,u65,u66,u67,u68,u69,u70,u71] [51] (rngA Tryz.prog 45 0) (rngB Tryz.prog 45 0) ann45])++Y)++[_]).set ((o1::AObj.cells [(I r6.2)]::AObj.cells [(.lptr [(I p1.1),(.lst (p1.2.flatMap pr) p1.2.length .shared)])]::AObj.cells (r4.map I)::AObj.cells [(.lst ((t2++[e1]).flatMap pr) (t2++[e1]).length (.own 2))]::Y45_1)).length _) _
  exact ⟨rfl,get_midY _ _ _ _,by rw [set_midY];exact fgt_midY _ _ _ _⟩
 ·rw [hb17]
  conv=>whnf
  replace h:=it_f hb17 h
  exact absurd (congrArg (fun q=>q.2) (Option.some.inj h)) (by simp)
theorem x45_l1_ok {to:Int} {p1:(Int×(List (Int×Int)))} {r4:(List Int)} {kl1_0:(List (Int×Int))→Option ((List (Int×Int))×Int)} {s1:Int} {s2:(List (Int×Int))} {v:((List (Int×Int))×Int)} {Q:Ex→List AV→List AObj→Prop} {o1:AObj}  (hkl1_0:∀ (z1:(List (Int×Int))) (u0:AV) (u1:AV) (u2:AV) (u3:AV) (u4:AV) (u6:AV) (u7:AV) (u8:AV) (u9:AV) (u10:AV) (u12:AV) (u13:AV) (u14:AV) (u15:AV) (u16:AV) (u17:AV) (u18:AV) (u19:AV) (u20:AV) (u21:AV) (u22:AV) (u23:AV) (u24:AV) (u25:AV) (u26:AV) (u27:AV) (u28:AV) (u29:AV) (u30:AV) (u31:AV) (u32:AV) (u33:AV) (u34:AV) (u35:AV) (u36:AV) (u37:AV) (u38:AV) (u39:AV) (u40:AV) (u41:AV) (u42:AV) (u43:AV) (u44:AV) (u45:AV) (u46:AV) (u47:AV) (u48:AV) (u49:AV) (u50:AV) (u51:AV) (u52:AV) (u53:AV) (u54:AV) (u55:AV) (u56:AV) (u57:AV) (u58:AV) (u59:AV) (u60:AV) (u61:AV) (u62:AV) (u63:AV) (u64:AV) (u65:AV) (u66:AV) (u67:AV) (u68:AV) (u69:AV) (u70:AV) (u71:AV) (o2:AObj) (o4:AObj) (o5:AObj) (Yq:List AObj),kl1_0 z1=some v→Q (.exit 1) [u0,u1,u2,u3,u4,J,u6,u7,u8,u9,u10,(.ptr 4 0),u12,u13,u14,u15,u16,u17,u18,u19,u20,u21,u22,u23,u24,u25,u26,u27,u28,u29,u30,u31,u32,u33,u34,u35,u36,u37,u38,u39,u40,u41,u42,u43,u44,u45,u46,u47,u48,u49,u50,u51,u52,u53,u54,u55,u56,u57,u58,u59,u60,u61,u62,u63,u64,u65,u66,u67,u68,u69,u70,u71] (o1::o2::o4::o5::AObj.cells [(.lst (z1.flatMap pr) z1.length (.own 2))]::Yq)) {T:List AV} (hT:zipKeep [o_,o_,i_,o_,i_,o_,o_,o_,i_,o_,i_,i_,o_,o_,o_,o_,o_,o_,o_,o_,o_,o_,o_,o_,o_,o_,o_,o_,o_,o_,o_,o_,o_,o_,o_,o_,o_,o_,o_,o_,o_,o_,o_,o_,o_,o_,o_,o_,o_,o_,o_,o_,o_,o_,o_,o_,o_,o_,o_,o_,o_,o_,o_,o_,o_,o_,o_,o_,o_,o_,o_,o_] T=slots 72 [(2,(I to)),(4,(.ptr 1 0)),(8,(.ptr 2 0)),(10,(.ptr 3 0)),(11,(.ptr 4 0))]) (h:x45_l1 to p1 r4 kl1_0 FU s1 s2=some v) :
  wpR Tryz.prog ann45 45 0 none xrc45_2 T [o1,AObj.cells [(I s1)],AObj.cells [(.lptr [(I p1.1),(.lst (p1.2.flatMap pr) p1.2.length .shared)])],AObj.cells (r4.map I),AObj.cells [(.lst (s2.flatMap pr) s2.length (.own 2))]] Q:=by
 unfold xrc45_2
 obtain ⟨c_1,g_1⟩:∃ c,xrc45_1=c:=⟨_,rfl⟩
 rw [g_1]
 refine wp_loop hT ?_
 refine .intro (fun m T H=>∃ (s1:Int) (s2:(List (Int×Int))) (Y45_1:List AObj),T=slots 72 [(2,(I to)),(4,(.ptr 1 0)),(8,(.ptr 2 0)),(10,(.ptr 3 0)),(11,(.ptr 4 0))]∧H=(o1::AObj.cells [(I s1)]::AObj.cells [(.lptr [(I p1.1),(.lst (p1.2.flatMap pr) p1.2.length .shared)])]::AObj.cells (r4.map I)::AObj.cells [(.lst (s2.flatMap pr) s2.length (.own 2))]::Y45_1)∧x45_l1 to p1 r4 kl1_0 m s1 s2=some v) FU ⟨s1,s2,[],rfl,rfl,h⟩ ?_
 clear h hT
 rintro m T H ⟨s1,s2,Y45_1,rfl,rfl,h⟩
 cases m
 ·exact none_ne h
 rename_i m
 rw [x45_l1.eq_2] at h
 conv=>whnf
 rcases bt (decide (s1≠to)) with hb12 | hb12
 ·rw [hb12]
  conv=>whnf
  replace h:=it_t hb12 h
  obtain ⟨r5,hb13,h⟩:=bd_some h
  refine ⟨(allc (pu_lptr (allc rfl (allc (pu_flat (fun _=>(allc rfl (allc rfl rfl))) _ _ _) rfl))) (allc rfl rfl)),_,x89_ok hb13,?_⟩
  conv=>whnf
  obtain ⟨l1,hb19,h⟩:=bd_some h
  obtain ⟨r7,hb20,h⟩:=bd_some h
  rcases foldX_states hb20 with ⟨hst_,F_,hF0,hFn,hF⟩ | ⟨hst_,n_,hn_,F_,hF0,hF,hX⟩
  ·have hst:r7.2=false:=hst_
   replace h:=it_f (by rw [hst] <;> decide) h
   subst g_1
   unfold xrc45_1
   refine rng_wp (f:=fun (e1:(Int×Int))=>(.agg [(I e1.1),(I e1.2)])) (s113_ok hb19) (fun i=>(o1::AObj.cells [(I (F_ i).1)]::AObj.cells [(.lptr [(I p1.1),(.lst (p1.2.flatMap pr) p1.2.length .shared)])]::AObj.cells (r4.map I)::AObj.cells [(.lst (((F_ i).2).flatMap pr) ((F_ i).2).length (.own 2))]::Y45_1)) (by exact rfl) (by show (o1::AObj.cells [(I (F_ 0).1)]::AObj.cells [(.lptr [(I p1.1),(.lst (p1.2.flatMap pr) p1.2.length .shared)])]::AObj.cells (r4.map I)::AObj.cells [(.lst (((F_ 0).2).flatMap pr) ((F_ 0).2).length (.own 2))]::Y45_1)=_;first | (rw [hF0];done) | (rw [hF0];rfl)) (fun _=>rfl) ?_ (rl:=none) (by exact rfl) (Hn:=(o1::AObj.cells [(I r7.1.1)]::AObj.cells [(.lptr [(I p1.1),(.lst (p1.2.flatMap pr) p1.2.length .shared)])]::AObj.cells (r4.map I)::AObj.cells [(.lst (r7.1.2.flatMap pr) r7.1.2.length (.own 2))]::Y45_1)) (by show (o1::AObj.cells [(I (F_ l1.length).1)]::AObj.cells [(.lptr [(I p1.1),(.lst (p1.2.flatMap pr) p1.2.length .shared)])]::AObj.cells (r4.map I)::AObj.cells [(.lst (((F_ l1.length).2).flatMap pr) ((F_ l1.length).2).length (.own 2))]::Y45_1)=_;first | (rw [hFn];done) | (rw [hFn];rfl)) (fun Yr7=>?_)
   ·intro i hi Y
    exact x45_r1_ok (hF i hi) Y
   conv=>whnf
   exact ⟨m,Nat.lt_succ_self m,r7.1.1,r7.1.2,_,rfl,rfl,h⟩
  ·have hst:r7.2=true:=hst_
   replace h:=it_t hst h
   subst g_1
   unfold xrc45_1
   refine rngS_wp (id:=3) (f:=fun (e1:(Int×Int))=>(.agg [(I e1.1),(I e1.2)])) (s113S_ok hb19) hn_ (fun i=>(o1::AObj.cells [(I (F_ i).1)]::AObj.cells [(.lptr [(I p1.1),(.lst (p1.2.flatMap pr) p1.2.length .shared)])]::AObj.cells (r4.map I)::AObj.cells [(.lst (((F_ i).2).flatMap pr) ((F_ i).2).length (.own 2))]::Y45_1)) (by exact rfl) (by show (o1::AObj.cells [(I (F_ 0).1)]::AObj.cells [(.lptr [(I p1.1),(.lst (p1.2.flatMap pr) p1.2.length .shared)])]::AObj.cells (r4.map I)::AObj.cells [(.lst (((F_ 0).2).flatMap pr) ((F_ 0).2).length (.own 2))]::Y45_1)=_;first | (rw [hF0];done) | (rw [hF0];rfl)) (fun _=>rfl) rfl ?_ ?_ (rl:=none) (by exact rfl) (Hn:=(o1::AObj.cells [(I r7.1.1)]::AObj.cells [(.lptr [(I p1.1),(.lst (p1.2.flatMap pr) p1.2.length .shared)])]::AObj.cells (r4.map I)::AObj.cells [(.lst (r7.1.2.flatMap pr) r7.1.2.length (.own 2))]::Y45_1)) (fun Yr7=>?_)
   ·intro i hi Y
    exact x45_r1_ok (hF i hi) Y
   ·intro Y
    exact x45_r1_okX hX Y
   conv=>whnf
   exact ⟨m,Nat.lt_succ_self m,r7.1.1,r7.1.2,_,rfl,rfl,h⟩
 ·rw [hb12]
  conv=>whnf
  replace h:=it_f hb12 h
  exact hkl1_0 _ _ _ _ _ _ _ _ _ _ _ _ _ _ _ _ _ _ _ _ _ _ _ _ _ _ _ _ _ _ _ _ _ _ _ _ _ _ _ _ _ _ _ _ _ _ _ _ _ _ _ _ _ _ _ _ _ _ _ _ _ _ _ _ _ _ _ _ _ _ _ _ _ _ _ h
theorem x45_ok {b:(Int×(List (Int×Int)))} {fromq:Int} {to:Int} {v:((List (Int×Int))×Int)} (h:x45 b fromq to=some v):PO 45 [(.agg [(I b.1),(.lst (b.2.flatMap pr) b.2.length .shared)]),(I fromq),(I to)] (.tuple [(.lst (v.1.flatMap pr) v.1.length .shared),(I v.2)]):=by
 refine fn_pureW hmix lxx45 rfl (pu_tup (allc (pu_flat (fun _=>(allc rfl (allc rfl rfl))) _ _ _) (allc rfl rfl))) fun Q hQ=>?_
 have hR:∀ T H,RetW [.tmp 6,.tmp 7] (.tuple [(.lst (v.1.flatMap pr) v.1.length .shared),(I v.2)]) .ret T H→Q .ret T H:=fun T H hh=>hQ _ T H hh
 unfold x45 at h
 unfold xrc45
 obtain ⟨c_2,g_2⟩:∃ c,xrc45_2=c:=⟨_,rfl⟩
 rw [g_2]
 conv=>whnf
 obtain ⟨r1,hb1,h⟩:=bd_some h
 rcases r1 with ⟨_ | p1,q1⟩
 ·refine ⟨(allc (pu_agg (allc rfl (allc (pu_flat (fun _=>(allc rfl (allc rfl rfl))) _ _ _) rfl))) rfl),_,x64_ok hb1,?_⟩
  conv=>whnf
  rcases bt (decide (q1≠(0:Int))) with hb2 | hb2
  ·rw [hb2]
   conv=>whnf
   replace h:=it_t hb2 h
   obtain rfl:=Option.some.inj h
   exact hR _ _ ⟨.inr rfl,_,rfl,_,frz_pure (pu_tup (allc rfl (allc rfl rfl))),rfl⟩
  ·rw [hb2]
   conv=>whnf
   replace h:=it_f hb2 h
   obtain ⟨r2,hb3,h⟩:=bd_some h
   refine ⟨(allc rfl (allc rfl (allc rfl rfl))),_,x66_ok hb3,?_⟩
   conv=>whnf
   cases r2
   ·conv=>whnf
    replace h:=it_f rfl h
    obtain rfl:=Option.some.inj h
    exact hR _ _ ⟨.inr rfl,_,rfl,_,frz_pure (pu_tup (allc rfl (allc rfl rfl))),rfl⟩
   ·conv=>whnf
    replace h:=it_t rfl h
    rcases bt (decide (fromq=to)) with hb4 | hb4
    ·rw [hb4]
     conv=>whnf
     replace h:=it_t hb4 h
     obtain rfl:=Option.some.inj h
     exact hR _ _ ⟨.inr rfl,_,rfl,_,frz_pure (pu_tup (allc rfl (allc rfl rfl))),rfl⟩
    ·rw [hb4]
     conv=>whnf
     replace h:=it_f hb4 h
     exact none_ne h
 ·refine ⟨(allc (pu_agg (allc rfl (allc (pu_flat (fun _=>(allc rfl (allc rfl rfl))) _ _ _) rfl))) rfl),_,x64_ok hb1,?_⟩
  conv=>whnf
  rcases bt (decide (q1≠(0:Int))) with hb5 | hb5
  ·rw [hb5]
   conv=>whnf
   replace h:=it_t hb5 h
   obtain rfl:=Option.some.inj h
   exact hR _ _ ⟨.inr rfl,_,rfl,_,frz_pure (pu_tup (allc rfl (allc rfl rfl))),rfl⟩
  ·rw [hb5]
   conv=>whnf
   replace h:=it_f hb5 h
   obtain ⟨r3,hb6,h⟩:=bd_some h
   refine ⟨(allc rfl (allc rfl (allc rfl rfl))),_,x66_ok hb6,?_⟩
   conv=>whnf
   cases r3
   ·conv=>whnf
    replace h:=it_f rfl h
    obtain rfl:=Option.some.inj h
    exact hR _ _ ⟨.inr rfl,_,rfl,_,frz_pure (pu_tup (allc rfl (allc rfl rfl))),rfl⟩
   ·conv=>whnf
    replace h:=it_t rfl h
    rcases bt (decide (fromq=to)) with hb7 | hb7
    ·rw [hb7]
     conv=>whnf
     replace h:=it_t hb7 h
     obtain rfl:=Option.some.inj h
     exact hR _ _ ⟨.inr rfl,_,rfl,_,frz_pure (pu_tup (allc rfl (allc rfl rfl))),rfl⟩
    ·rw [hb7]
     conv=>whnf
     replace h:=it_f hb7 h
     obtain ⟨r4,hb8,h⟩:=bd_some h
     refine ⟨(allc (pu_lptr (allc rfl (allc (pu_flat (fun _=>(allc rfl (allc rfl rfl))) _ _ _) rfl))) (allc rfl (allc rfl rfl))),_,x81_ok hb8,?_⟩
     conv=>whnf
     obtain ⟨hb9,h⟩:=gd_some h
     try rw [show List.map AV.dim0 (List.map I r4)=List.map I r4 from by rw [List.map_map];rfl]
     first | (refine stArr I r4 (n:=6) (l:=(List.replicate 6 (0:Int))) (Nat.zero_le _) (fun _=>rfl) (by first | with_reducible exact get_concat _ _ | exact get_concat _ _ | exact ga (get_concat _ _) | rfl | (simp [List.getElem?_append,AV.settle];done)) hb9.1 hb9.2 (by decide) ?_) | (rw [show Nat.beq (List.map I r4).length 6=true from by rw [List.length_map,hb9.1] <;> exact Nat.beq_refl _];refine updsArr I (List.replicate 6 (0:Int)) r4 (fun _=>rfl) (by rw [hb9.1,hb9.2]) ?_)
     conv=>whnf
     obtain ⟨hb10,h⟩:=gd_some h
     refine ⟨⟨hb10.1,hb10.2.1⟩,?_⟩
     replace hb10:0≤fromq∧fromq<(r4.length:Int):=⟨hb10.1,by have:=hb10.2;omega⟩
     conv=>whnf
     refine rdD I r4 fromq hb10 ?_
     conv=>whnf
     rcases bt (decide ((ix r4 fromq)<(0:Int))) with hb11 | hb11
     ·rw [hb11]
      conv=>whnf
      replace h:=it_t hb11 h
      obtain rfl:=Option.some.inj h
      exact hR _ _ ⟨.inr rfl,_,rfl,_,frz_pure (pu_tup (allc rfl (allc rfl rfl))),rfl⟩
     ·rw [hb11]
      conv=>whnf
      replace h:=it_f hb11 h
      subst g_2
      refine x45_l1_ok ?_ (by exact rfl) h
      intro z1 u0 u1 u2 u3 u4 u6 u7 u8 u9 u10 u12 u13 u14 u15 u16 u17 u18 u19 u20 u21 u22 u23 u24 u25 u26 u27 u28 u29 u30 u31 u32 u33 u34 u35 u36 u37 u38 u39 u40 u41 u42 u43 u44 u45 u46 u47 u48 u49 u50 u51 u52 u53 u54 u55 u56 u57 u58 u59 u60 u61 u62 u63 u64 u65 u66 u67 u68 u69 u70 u71 o2 o4 o5 Yq h
      conv=>whnf
      obtain rfl:=Option.some.inj h
      exact hR _ _ ⟨.inr rfl,_,rfl,_,frz_pure (pu_tup (allc (pu_flat (fun _=>(allc rfl (allc rfl rfl))) _ _ _) (allc rfl rfl))),rfl⟩
end Go.Proofs.YtfakoboiahbhaaaGreat.Ab


namespace Go.Proofs.YtfakoboiahbhaaaGreat.Ab
open Go
theorem mem_places {b:Bk} {f:Int} {p:Int×Int}:p∈places b f↔0≤p.1∧p.1<(b.2.length:Int)∧0≤p.2∧p.2≤1∧beg b p=f:=by
 refine ⟨places_in,fun ⟨h1,h2,h3,h4,h5⟩=>?_⟩
 have e:plc (2*p.1.toNat+p.2.toNat)=p:=by
  rw [plc_in (n:=b.2.length) (by omega) (by omega)]
  exact Prod.ext (by simp only;omega) (by simp only;omega)
 refine List.mem_map.2 ⟨2*p.1.toNat+p.2.toNat,List.mem_filter.2 ⟨List.mem_range.2 (by omega),?_⟩,e⟩
 rw [begs,e];exact decide_eq_true h5
def flipP (p:Int×Int):Int×Int:=(p.1,1-p.2)
theorem beg_flip {b:Bk} {p:Int×Int} (h:0≤p.2∧p.2≤1):beg b (flipP p)=fin b p:=by
 unfold beg fin flipP;simp only
 by_cases h1:0<p.2
 ·rw [if_neg (by omega),if_pos h1]
 ·rw [if_pos (by omega),if_neg h1]
theorem fin_flip {b:Bk} {p:Int×Int} (h:0≤p.2∧p.2≤1):fin b (flipP p)=beg b p:=by
 unfold beg fin flipP;simp only
 by_cases h1:0<p.2
 ·rw [if_neg (by omega),if_pos h1]
 ·rw [if_pos (by omega),if_neg h1]
theorem Ed.symm {b:Bk} {wo f g:Int} (h:Ed b wo f g):Ed b wo g f:=by
 obtain ⟨p,h1,h2,h3⟩:=h
 have hp:=mem_places.1 h1
 exact ⟨flipP p,mem_places.2 ⟨hp.1,hp.2.1,by simp only [flipP];omega,by simp only [flipP];omega,by rw [beg_flip ⟨hp.2.2.1,hp.2.2.2.1⟩,h3]⟩,h2,by rw [fin_flip ⟨hp.2.2.1,hp.2.2.2.1⟩,hp.2.2.2.2]⟩
theorem Wk.cons {b:Bk} {wo:Int}:∀ {n:Nat} {a c g:Int},Ed b wo a c→Wk b wo n c g→Wk b wo (n+1) a g
 | 0,a,c,g,h,(k:c=g)=>⟨a,rfl,k ▸ h⟩
 | n+1,a,c,g,h,⟨f,k1,k2⟩=>⟨f,Wk.cons h k1,k2⟩
theorem Wk.symm {b:Bk} {wo:Int}:∀ {n:Nat} {a g:Int},Wk b wo n a g→Wk b wo n g a
 | 0,_,_,(h:_=_)=>h.symm
 | _+1,_,_,⟨_,h1,h2⟩=>Wk.cons h2.symm h1.symm
theorem Wk.uncons {b:Bk} {wo:Int} {n:Nat} {a g:Int} (h:Wk b wo (n+1) a g):∃ c,Ed b wo a c∧Wk b wo n c g:=by
 obtain ⟨f,h1,h2⟩:=h.symm
 exact ⟨f,h2.symm,h1.symm⟩
def nr (b:Bk) (D:List Int) (f:Int) (p:Int×Int):Bool:=decide (ix D (fin b p)=ix D f-1)
def chainP (b:Bk) (D:List Int):Nat→Int→Row
 | 0,_=>[]
 | n+1,f=>match (places b f).find? (nr b D f) with
   | some p=>p::chainP b D n (fin b p)
   | none=>[]
theorem fold45 {b:Bk} (hB:Book b) {D:List Int} (hD:D.length=6) {f:Int} (hf:0≤f∧f<b.1) (hd:0≤ix D f∧ix D f≤100) {s:Row} (hs:s.length≤1000):∀ (l:Row),(∀ p∈l,p∈places b f) →
  foldX (x45_r1 b D) l (f,s)=some (match l.find? (nr b D f) with
   | some p=>((fin b p,s++[p]),true)
   | none=>((f,s),false))
 | [],_=>rfl
 | p::l,h=>by
   have hp:=places_in (h p (by simp))
   have hfi:=fin_in hB (h p (by simp))
   have h6:=hB.f6
   rw [foldX,x45_r1]
   rw [x68_eq ⟨hp.1,hp.2.1⟩,Option.bind_some]
   dsimp only
   rw [gd_pos ⟨by omega,by omega,hD.symm⟩,gd_pos ⟨by omega,by omega,hD.symm⟩,w_id (by omega),List.find?_cons]
   by_cases hn:ix D (fin b p)=ix D f-1
   ·rw [if_pos (decide_eq_true hn),gd_pos (by omega),Option.bind_some,if_pos rfl,show nr b D f p=true from decide_eq_true hn]
   ·rw [if_neg (by simpa using hn),Option.bind_some,if_neg (by simp),show nr b D f p=false from decide_eq_false hn]
    exact fold45 hB hD hf hd hs l fun q hq=>h q (by simp [hq])
theorem near_ex {b:Bk} (hB:Book b) {wo to f:Int} {D:List Int} (hD:FarD b wo to D) {n:Nat} (hf:0≤f∧f<6) (hn:ix D f=((n+1:Nat):Int)):∃ p∈places b f,p.1≠wo∧ix D (fin b p)=(n:Int):=by
 obtain ⟨c,rfl⟩:∃ c:Nat,f=(c:Int):=⟨f.toNat,by omega⟩
 have hw:=hD.walk c (by omega) (by omega)
 rw [hn] at hw
 obtain ⟨e,he,hw⟩:=hw.symm.uncons
 have hl:=hD.least n e hw.symm
 have hlow:(n:Int)≤ix D e:=by
  refine Classical.byContradiction fun hh=>?_
  have h2:=hD.walk e.toNat (by omega) (by rw [Int.toNat_of_nonneg hl.1];exact hl.2.2.1)
  rw [Int.toNat_of_nonneg hl.1] at h2
  have:=(hD.least ((ix D e).toNat+1) (c:Int) ⟨e,h2,he.symm⟩).2.2.2
  omega
 obtain ⟨p,h1,h2,h3⟩:=he
 exact ⟨p,h1,h2,by rw [h3];omega⟩
theorem x45_l1_eq {b:Bk} (hB:Book b) {to:Int} {D:List Int} (hD:FarD b (-1) to D) {k:Row→Option (Row×Int)}:∀ (n m:Nat) (f:Int) (s:Row),0≤f→f<b.1→ix D f=(n:Int)→n<m→s.length+n≤1000 →
  x45_l1 to b D k m f s=k (s++chainP b D n f)
 | _,0,_,_,_,_,_,h,_=>absurd h (by omega)
 | 0,m+1,f,s,h1,h2,h3,_,_=>by
   have h6:=hB.f6
   have hw:=hD.walk f.toNat (by omega) (by rw [Int.toNat_of_nonneg h1];omega)
   rw [Int.toNat_of_nonneg h1,h3] at hw
   have hw:to=f:=hw
   rw [x45_l1,if_neg (by simp [hw]),chainP,List.append_nil]
 | n+1,m+1,f,s,h1,h2,h3,h4,h5=>by
   have h6:=hB.f6
   have hto:f≠to:=fun e=>by
    have:=(hD.least 0 to rfl).2.2.2
    subst e;omega
   obtain ⟨p,p1,_,p2⟩:=near_ex hB hD ⟨h1,by omega⟩ h3
   have hs5:=hD.small f.toNat (by omega)
   rw [Int.toNat_of_nonneg h1] at hs5
   have hlen:=hB.len
   rw [x45_l1,if_pos (decide_eq_true hto),x89,Option.bind_some,s113,if_pos (by omega),Option.bind_some,fold45 hB hD.len ⟨h1,h2⟩ ⟨by omega,by omega⟩ (by omega) _ (fun p hp=>hp),Option.bind_some,chainP]
   cases hq:(places b f).find? (nr b D f) with
   | none =>
     have:=List.find?_eq_none.1 hq p p1
     exact absurd (decide_eq_true (by rw [p2,h3];omega)) this
   | some q =>
     have q1:=List.mem_of_find?_eq_some hq
     have q2:ix D (fin b q)=ix D f-1:=of_decide_eq_true (p:=ix D (fin b q)=ix D f-1) (List.find?_some (p:=nr b D f) hq)
     have q3:=fin_in hB q1
     dsimp only
     rw [if_pos rfl,x45_l1_eq hB hD n m _ _ q3.1 q3.2 (by rw [q2,h3];omega) (by omega) (by simp;omega),List.append_assoc];rfl
def chainA (b:Bk) (D:List Int) (f:Int):Row×Int:=if ix D f<0 then ([],5) else (chainP b D (ix D f).toNat f,0)
def argOk (b:Bk) (f t:Int):Prop:=0≤f∧f<b.1∧0≤t∧t<b.1∧f≠t
theorem x45_arg {b:Bk} (hB:Book b) {f t:Int} (h:¬ argOk b f t):x45 b f t=some ([],2):=by
 have h6:=hB.f6;have h1:=hB.f1;have hl:=hB.len
 rw [x45,x64,x20_eq b (by omega),Option.bind_some,if_neg (by simp [bkErr_zero.2 hB]),Option.bind_some]
 dsimp only
 rw [if_neg (by decide),x66_eq _ _ _ (by simp),Option.bind_some,w_id (by omega)]
 by_cases h2:[f,t].any (offB 0 (b.1-1))=true
 ·rw [h2,if_neg (by decide)]
 ·have h3:[f,t].any (offB 0 (b.1-1))=false:=by simpa using h2
  rw [h3,if_pos (by decide)]
  simp only [List.any_cons,List.any_nil,Bool.or_false,Bool.or_eq_false_iff,offB_false] at h3
  have:f=t:=Classical.byContradiction fun e=>h ⟨h3.1.1,by omega,h3.2.1,by omega,e⟩
  rw [if_pos (decide_eq_true this)]
theorem x45_eq {b:Bk} (hB:Book b) {f t:Int} (h:argOk b f t):∃ D,FarD b (-1) t D∧x45 b f t=some (chainA b D f):=by
 have h6:=hB.f6;have h1:=hB.f1;have hl:=hB.len
 obtain ⟨a1,a2,a3,a4,a5⟩:=h
 obtain ⟨D,e,hD⟩:=x81_eq hB (wo := -1) ⟨a3,a4⟩
 refine ⟨D,hD,?_⟩
 rw [x45,x64,x20_eq b (by omega),Option.bind_some,if_neg (by simp [bkErr_zero.2 hB]),Option.bind_some]
 dsimp only
 have h3:[f,t].any (offB 0 (b.1-1))=false:=by
  simp only [List.any_cons,List.any_nil,Bool.or_false,Bool.or_eq_false_iff,offB_false];omega
 rw [if_neg (by decide),x66_eq _ _ _ (by simp),Option.bind_some,w_id (by omega),h3,if_pos (by decide),if_neg (by simpa using a5),e,Option.bind_some,gd_pos ⟨hD.len,by simp⟩,gd_pos ⟨a1,by omega,hD.len.symm⟩]
 unfold chainA
 by_cases hd:ix D f<0
 ·rw [if_pos (decide_eq_true hd),if_pos hd]
 ·have hs5:=hD.small f.toNat (by omega)
  rw [Int.toNat_of_nonneg a1] at hs5
  rw [if_neg (by simpa using hd),if_neg hd,x45_l1_eq hB hD (ix D f).toNat FU f [] a1 a2 (by omega) (FU_lt (by omega)) (by simp;omega),List.nil_append]
end Go.Proofs.YtfakoboiahbhaaaGreat.Ab


namespace Go.Proofs.YtfakoboiahbhaaaGreat.Ab
open Go
set_option maxRecDepth 20000
set_option maxHeartbeats 4000000

end Go.Proofs.YtfakoboiahbhaaaGreat.Ab


namespace Go.Proofs.YtfakoboiahbhaaaGreat.Ab
open Go
set_option maxRecDepth 20000
set_option maxHeartbeats 4000000

end Go.Proofs.YtfakoboiahbhaaaGreat.Ab


namespace Go.Proofs.YtfakoboiahbhaaaGreat.Ab
open Go
def stands (r:Row) (s:Int):Bool:=r.any fun q=>decide (q.1=s)
theorem ends_of {b:Bk} {p q:Int×Int} (h:p.1=q.1):fin b p=beg b q∨fin b p=fin b q:=by
 unfold fin beg;rw [h];by_cases h1:0<p.2 <;> by_cases h2:0<q.2 <;> simp [h1,h2]
theorem far_few {b:Bk} (hB:Book b) {wo to:Int} {D:List Int} (hD:FarD b wo to D):∀ (n:Nat) (f:Int),0≤f→f<b.1→ix D f=(n:Int)→∃ l:List Int,l.Nodup∧l.length=n+1∧∀ x∈l,0≤x∧x<b.1∧ix D x≤(n:Int)
 | 0,f,h1,h2,h=>⟨[f],by simp,rfl,fun x hx=>by simp only [List.mem_singleton] at hx;subst hx;exact ⟨h1,h2,by omega⟩⟩
 | n+1,f,h1,h2,h=>by
   have h6:=hB.f6
   obtain ⟨p,p1,_,p2⟩:=near_ex hB hD ⟨h1,by omega⟩ h
   have hf:=fin_in hB p1
   obtain ⟨l,l1,l2,l3⟩:=far_few hB hD n _ hf.1 hf.2 p2
   refine ⟨f::l,List.nodup_cons.2 ⟨fun hm=>?_,l1⟩,by simp [l2],fun x hx=>?_⟩
   ·have:=(l3 f hm).2.2;omega
   ·rcases List.mem_cons.1 hx with e | e
    ·subst e;exact ⟨h1,h2,by omega⟩
    ·have:=l3 x e;exact ⟨this.1,this.2.1,by omega⟩
theorem far_lt {b:Bk} (hB:Book b) {wo to f:Int} {D:List Int} (hD:FarD b wo to D) (h1:0≤f) (h2:f<b.1):ix D f<b.1:=by
 rcases Int.lt_or_le (ix D f) 0 with h | h
 ·omega
 ·obtain ⟨l,l1,l2,l3⟩:=far_few hB hD (ix D f).toNat f h1 h2 (by omega)
  have:=nodup_bound (n:=b.1.toNat) l1 fun x hx=>by have:=l3 x hx;omega
  omega
end Go.Proofs.YtfakoboiahbhaaaGreat.Ab


namespace Go.Proofs.YtfakoboiahbhaaaGreat.Ab
open Go
section
variable {P:Program} {A:FAnn} {fn:FuncId} {lo:Nat} {rl:Option Nat}
inductive LoopP (P:Program) (A:FAnn) (fn:FuncId) (lo:Nat) (rl:Option Nat) (rc:RC) (T:List AV) (H:List AObj) (Q:Ex→List AV→List AObj→Prop):Prop where
 | mk (keep:List Bool) (c:RC) (he:rc=.loop (some keep) c) (I:Nat→List AV→List AObj→Prop) (m:Nat) (hm:m≤FU) (h0:I m T H)
   (step:∀ (J:List AV→List AObj→Prop) m T H,I m T H→(∀ m' T' H',m'<m→I m' T' H'→J T' H')→nfK T fun T=>wpR P A fn lo rl c T H fun e T' H'=>match e with
    | .normal=>keepO (some keep) T' fun T'=>J T' H'
    | e=>Q e T' H')
def peelI (P:Program) (A:FAnn) (fn:FuncId) (lo:Nat) (rl:Option Nat) (keep:List Bool) (c:RC) (T0:List AV) (H0:List AObj) (Q:Ex→List AV→List AObj→Prop) (m:Nat) (T':List AV) (H':List AObj):Prop :=
 (m=FU+1∧T'=T0∧H'=H0)∨(m≤FU∧∃ I:Nat→List AV→List AObj→Prop,I m T' H'∧∀ (J:List AV→List AObj→Prop) m T H,I m T H→(∀ m' T' H',m'<m→I m' T' H'→J T' H')→nfK T fun T=>wpR P A fn lo rl c T H fun e T' H'=>match e with
   | .normal=>keepO (some keep) T' fun T'=>J T' H'
   | e=>Q e T' H')
theorem wp_peel {rc c:RC} {keep:List Bool} {T T0:List AV} {H:List AObj} {Q:Ex→List AV→List AObj→Prop} (he:rc=.loop (some keep) c) (hT:zipKeep keep T=T0)
  (h:∀ J:List AV→List AObj→Prop,(∀ T H,LoopP P A fn lo rl rc T H Q→J T H)→nfK T0 fun T=>wpR P A fn lo rl c T H fun e T' H'=>match e with
   | .normal=>keepO (some keep) T' fun T'=>J T' H'
   | e=>Q e T' H'):wpR P A fn lo rl rc T H Q:=by
 subst he
 refine wp_loop hT (.intro (peelI P A fn lo rl keep c T0 H Q) (FU+1) (.inl ⟨rfl,rfl,rfl⟩) ?_)
 rintro m T' H' (⟨rfl,rfl,rfl⟩ | ⟨hm,I,hI,step⟩)
 ·have:=h (fun T1 H1=>∃ m',m'<FU+1∧peelI P A fn lo rl keep c T' H' Q m' T1 H1) fun T H hW=>by
   obtain ⟨keep',c',he,I,m,hm,h0,step⟩:=hW
   cases he
   exact ⟨m,by omega,.inr ⟨hm,I,h0,step⟩⟩
  refine cast (congrArg (nfK T') (funext fun T=>congrArg (wpR P A fn lo rl c T H') (funext fun e=>?_))) this
  cases e <;> rfl
 ·have:=step (fun T1 H1=>∃ m',m'<m∧peelI P A fn lo rl keep c T0 H Q m' T1 H1) m T' H' hI fun m' T1 H1 hlt h1=>⟨m',hlt,.inr ⟨by omega,I,h1,step⟩⟩
  refine cast (congrArg (nfK T') (funext fun T=>congrArg (wpR P A fn lo rl c T H') (funext fun e=>?_))) this
  cases e <;> rfl
end
theorem get_grow (X:List AObj) (a:AObj):(X++[a,.dead])[X.length]?=some a:=by simp
theorem set_grow (X:List AObj) (a a':AObj):(X++[a,.dead]).set X.length a'=X++[a',.dead]:=by simp
theorem frz_gref {P:Program} {C:CallFn} {lo id gid n z:Nat} {o:Oper} {x:Operand} {H:List AObj} {l:List AV} {g z':Nat} (ho:o.op=.move x) (hlo:lo≤id) (hH:H[id]?=some (.grow l g z')) (hn:l.length=n*z) :
  opAll P C lo o 2 [.gref id gid n z] H=some (.lst (l.map AV.view) n .shared,H.set id .dead):=by
 unfold opAll;rw [ho]
 show opMove P lo 2 o.type x H [.gref id gid n z]=_
 unfold opMove
 simp only [hlo,if_true,hH]
 rw [if_pos hn]
theorem app_row {α:Type} (f:α→AV) (l:List α) (x:α):l.map f++[f x]=(l++[x]).map f:=by simp
theorem app_len {α:Type} (l:List α) (x:α):l.length+1=(l++[x]).length:=by simp
theorem app_dead (X:List AObj) (a:AObj):(X++[a,.dead]).length=(X++[AObj.dead,.dead]).length:=by simp
end Go.Proofs.YtfakoboiahbhaaaGreat.Ab


namespace Go.Proofs.YtfakoboiahbhaaaGreat.Ab
open Go
set_option maxRecDepth 20000
set_option maxHeartbeats 4000000
def ann56b:FAnn:={ ops:=[[{ takes:=[true] }],[],[],[{},{},{ takes:=[true] },{ takes:=[true,true] }],[{ takes:=[true] },{ takes:=[true] },{ takes:=[true] }],[{ takes:=[true] },{},{ takes:=[true] },{ takes:=[true,true],mode:=1 },{ takes:=[true] }],[],[{},{},{ takes:=[true] },{ takes:=[true,true] }],[{ takes:=[true] },{ takes:=[true] },{ takes:=[true] }],[],[{},{},{ takes:=[true] },{ takes:=[true] },{ takes:=[true,true] }],[{ takes:=[true] },{ takes:=[true] },{ takes:=[true] }],[{},{ takes:=[true] },{},{ takes:=[true,true] },{ takes:=[true] },{ takes:=[true] },{},{ takes:=[true] },{},{ takes:=[true,true] },{ takes:=[true] },{ takes:=[true] },{ takes:=[true] },{ takes:=[true] }],[{},{},{ takes:=[true,true] }],[{},{},{ takes:=[true,true] },{ takes:=[true] },{},{},{ takes:=[true,true] },{ takes:=[true] },{ takes:=[true,true] },{ takes:=[true] }],[{},{ takes:=[true] },{},{ takes:=[true,true] },{ takes:=[true,true] }],[{},{ takes:=[true] },{ takes:=[true] },{ takes:=[true,true] },{ takes:=[true,true] }],[{ takes:=[true],mode:=2 },{ takes:=[true] }]],keepL:=[(0,[o_,i_,i_,o_,o_,i_,i_,o_,o_,o_,o_,o_,o_,o_,o_,o_,o_,o_,o_,o_,o_,o_,o_,o_,o_,o_,o_,o_,o_,o_,o_,o_,o_,o_,o_,o_,o_,o_,o_,o_,o_,o_,o_,o_,o_,o_,o_,o_,o_,o_,o_,o_,o_,o_,o_,o_,o_,o_,o_,o_,o_,o_,o_,o_,o_,o_,o_,o_]),(2,[o_,i_,i_,o_,o_,i_,o_,i_,o_,o_,o_,o_,o_,o_,o_,o_,o_,o_,o_,o_,o_,o_,o_,o_,o_,o_,o_,o_,o_,o_,o_,o_,o_,o_,o_,o_,o_,o_,o_,o_,o_,o_,o_,o_,o_,o_,o_,o_,o_,o_,o_,o_,o_,o_,o_,o_,o_,o_,o_,o_,o_,o_,o_,o_,o_,o_,o_,o_]),(4,[o_,i_,i_,o_,o_,i_,o_,i_,i_,o_,o_,o_,o_,o_,o_,o_,o_,o_,o_,o_,o_,o_,o_,o_,o_,o_,o_,o_,o_,o_,o_,o_,o_,o_,o_,o_,o_,o_,o_,o_,o_,o_,o_,o_,o_,o_,o_,o_,o_,o_,o_,o_,o_,o_,o_,o_,o_,o_,o_,o_,o_,o_,o_,o_,o_,o_,o_,o_])] }
noncomputable def xrc56_1:RC :=
 .loop (some [o_,i_,i_,o_,o_,i_,i_,o_,o_,o_,o_,o_,o_,o_,o_,o_,o_,o_,o_,o_,o_,o_,o_,o_,o_,o_,o_,o_,o_,o_,o_,o_,o_,o_,o_,o_,o_,o_,o_,o_,o_,o_,o_,o_,o_,o_,o_,o_,o_,o_,o_,o_,o_,o_,o_,o_,o_,o_,o_,o_,o_,o_,o_,o_,o_,o_,o_,o_]) (.seq (.seq (.reg false [I_ 12 [.sl 6] .mv,I_ 13 [.sl 2] (.fa 0),I_ 14 [.tv 13] (.ld .one),I_ 15 [.tv 12,.tv 14] (.bin .lss)]) (.cond (.sl 15) .skip (.exit 0))) (.seq (.block 1 (.reg
 false [I_ 18 [.tk 5] .mv,I_ 19 [.sl 6] .mv,I_ 20 [.tv 19] (.buildS 1 1 [.int .i64 0] [0]),I_ 21 [.tk 18,.tk 20] (.appG 1 8),I_ 5 [.tk 21] .mv])) (.reg false [I_ 16 [.tk 6] .mv,I_ 17 [.tv 16,.cv (.int .i64 1)] (.bin
 .add),I_ 6 [.tk 17] .mv])))
noncomputable def xrc56_2:RC :=
 .loop (some [o_,i_,i_,o_,o_,i_,o_,i_,i_,o_,o_,o_,o_,o_,o_,o_,o_,o_,o_,o_,o_,o_,o_,o_,o_,o_,o_,o_,o_,o_,o_,o_,o_,o_,o_,o_,o_,o_,o_,o_,o_,o_,o_,o_,o_,o_,o_,o_,o_,o_,o_,o_,o_,o_,o_,o_,o_,o_,o_,o_,o_,o_,o_,o_,o_,o_,o_,o_]) (.seq (.seq (.reg false [I_ 28 [.sl 8] .mv,I_ 29 [.sl 2] (.fa 1),I_ 30 [.tv 29] (.ld .one),I_ 31 [.tk 30] .lenS,I_ 32 [.tv 28,.tv 31] (.bin .lss)]) (.cond (.sl 32) .skip (.exit 4)))
 (.seq (.block 5 (.seq (.reg true [I_ 35 [.sl 2] (.fa 1),I_ 36 [.tv 35] (.ld .one),I_ 37 [.sl 8] .mv,I_ 38 [.tv 36,.tv 37] (.ia 2),I_ 39 [.tv 38] (.fa 0),I_ 40 [.tv 39] (.ld .one),I_ 41 [.sl 2] (.fa 1),I_ 42 [.tv 41]
 (.ld .one),I_ 43 [.sl 8] .mv,I_ 44 [.tv 42,.tv 43] (.ia 2),I_ 45 [.tv 44] (.fa 1),I_ 46 [.tv 45] (.ld .one),I_ 9 [.tk 40] .mv,I_ 10 [.tk 46] .mv]) (.seq (.reg false [I_ 47 [.sl 8] .mv,I_ 48 [.sl 1] .mv,I_ 49 [.tv 47,
 .tv 48] (.bin .neq)]) (.cond (.sl 49) (.seq (.reg true [I_ 50 [.sl 5] .mv,I_ 51 [.sl 9] .mv,I_ 52 [.tv 50,.tv 51] (.ia 1),I_ 53 [.tv 52] (.ld .one),I_ 54 [.sl 5] .mv,I_ 55 [.sl 10] .mv,I_ 56 [.tv 54,.tv 55] (.ia 1),I_
 57 [.tv 56] (.ld .one),I_ 58 [.tk 53,.tk 57] .min,I_ 11 [.tk 58] .mv]) (.seq (.reg false [I_ 59 [.sl 5] .mv,I_ 60 [.tk 9] .mv,I_ 61 [.sl 11] .mv,I_ 62 [.tv 59,.tv 60] (.ia 1),⟨none,[.tk 62,.tk 61],none,none,.st
 1⟩]) (.reg false [I_ 63 [.sl 5] .mv,I_ 64 [.tk 10] .mv,I_ 65 [.tk 11] .mv,I_ 66 [.tv 63,.tv 64] (.ia 1),⟨none,[.tk 66,.tk 65],none,none,.st 1⟩]))) .skip)))) (.reg false [I_ 33 [.tk 8] .mv,I_ 34 [.tv 33,.cv (.int
 .i64 1)] (.bin .add),I_ 8 [.tk 34] .mv])))
noncomputable def xrc56_3:RC :=
 .loop (some [o_,i_,i_,o_,o_,i_,o_,i_,o_,o_,o_,o_,o_,o_,o_,o_,o_,o_,o_,o_,o_,o_,o_,o_,o_,o_,o_,o_,o_,o_,o_,o_,o_,o_,o_,o_,o_,o_,o_,o_,o_,o_,o_,o_,o_,o_,o_,o_,o_,o_,o_,o_,o_,o_,o_,o_,o_,o_,o_,o_,o_,o_,o_,o_,o_,o_,o_,o_]) (.seq (.seq (.reg false [I_ 22 [.sl 7] .mv,I_ 23 [.sl 2] (.fa 0),I_ 24 [.tv 23] (.ld .one),I_ 25 [.tv 22,.tv 24] (.bin .lss)]) (.cond (.sl 25) .skip (.exit 2))) (.seq (.block 3 (.seq
 (.reg false [I_ 8 [.cv (.int .i64 0)] .mv]) (.block 4 xrc56_2))) (.reg false [I_ 26 [.tk 7] .mv,I_ 27 [.tv 26,.cv (.int .i64 1)] (.bin .add),I_ 7 [.tk 27] .mv])))
noncomputable def xrc56:RC :=
 .seq (.reg false [I_ 2 [.tk 0] .box,I_ 4 [.cv (.lst [] 0 .full)] (.nil 1)]) (.seq (.reg false [I_ 5 [.cv (.lst [] 0 .full)] (.nil 1)]) (.seq (.seq (.reg false [I_ 6 [.cv (.int .i64 0)] .mv]) (.block 0 xrc56_1)) (.seq (.seq (.reg
 false [I_ 7 [.cv (.int .i64 0)] .mv]) (.block 2 xrc56_3)) (.seq (.reg false [⟨some 67, [.tk 5], none, some 5, .other (Oper.mk (some 67) (Op.move (Operand.tmp 5)) 38 "ref.go:158" (Array.mk []) none) 2⟩, I_ 4 [.tk 67] .mv])
 .ret))))
theorem lxx56:linkF Tryz.prog ann56b 56=some (xrc56,68,[.tmp 4]):=by kernel_rfl
def x56_l1 (b:(Int×(List (Int×Int)))) (kl1_0:(List Int)→Option (List Int)):Nat→Int→(List Int)→Option (List Int)
 | 0,_,_=>none
 | m+1,s1,s2 =>
   if (decide (s1<b.1))=true then
    gd ((s2.length+1)*8≤140737488355328) <|
    x56_l1 b kl1_0 m (w (s1+(1:Int))) (s2++[s1])
   else
    kl1_0 s2
def x56_l3 (b:(Int×(List (Int×Int)))) (but:Int) (kl3_0:(List Int)→Option (List Int)):Nat→Int→(List Int)→Option (List Int)
 | 0,_,_=>none
 | m+1,s5,s6 =>
   if (decide (s5<(b.2.length:Int)))=true then
    gd (0≤s5∧s5<(b.2.length:Int)) <|
    gd (0≤s5∧s5<(b.2.length:Int)) <|
    if (decide (s5≠but))=true then
     gd (0≤(ix b.2 s5).1∧(ix b.2 s5).1<(s6.length:Int)) <|
     gd (0≤(ix b.2 s5).2∧(ix b.2 s5).2<(s6.length:Int)) <|
     gd (0≤(ix b.2 s5).1∧(ix b.2 s5).1<(s6.length:Int)) <|
     gd (0≤(ix b.2 s5).2∧(ix b.2 s5).2<((s6.set ((ix b.2 s5).1).toNat (min (ix s6 ((ix b.2 s5).1)) (ix s6 ((ix b.2 s5).2)))).length:Int)) <|
     x56_l3 b but kl3_0 m (w (s5+(1:Int))) ((s6.set ((ix b.2 s5).1).toNat (min (ix s6 ((ix b.2 s5).1)) (ix s6 ((ix b.2 s5).2)))).set ((ix b.2 s5).2).toNat (min (ix s6 ((ix b.2 s5).1)) (ix s6 ((ix b.2 s5).2))))
    else
     x56_l3 b but kl3_0 m (w (s5+(1:Int))) s6
   else
    kl3_0 s6
def x56_l2 (b:(Int×(List (Int×Int)))) (but:Int) (kl2_0:(List Int)→Option (List Int)):Nat→Int→(List Int)→Option (List Int)
 | 0,_,_=>none
 | m+1,s3,s4 =>
   if (decide (s3<b.1))=true then
    x56_l3 b but (fun z2 =>
      x56_l2 b but kl2_0 m (w (s3+(1:Int))) z2) FU (0:Int) s4
   else
    kl2_0 s4
def x56 (b:(Int×(List (Int×Int)))) (but:Int):Option (List Int) :=
 if (decide ((0:Int)<b.1))=true then
  x56_l1 b (fun z1 =>
    x56_l2 b but (fun z3 =>
      some z3) FU (0:Int) z1) FU (w ((0:Int)+(1:Int))) [(0:Int)]
 else
  none
theorem x56_l1_ok {b:(Int×(List (Int×Int)))} {kl1_0:(List Int)→Option (List Int)} {s1:Int} {s2:(List Int)} {but:Int} {v:(List Int)} {Q:Ex→List AV→List AObj→Prop}   (hkl1_0:∀ (z1:(List Int)) (u0:AV) (u4:AV) (u6:AV) (u7:AV) (u8:AV) (u9:AV) (u10:AV) (u11:AV) (u12:AV) (u13:AV) (u14:AV) (u15:AV) (u16:AV) (u17:AV) (u18:AV) (u19:AV) (u20:AV) (u21:AV) (u22:AV) (u23:AV) (u24:AV) (u25:AV) (u26:AV) (u27:AV) (u28:AV) (u29:AV) (u30:AV) (u31:AV) (u32:AV) (u33:AV) (u34:AV) (u35:AV) (u36:AV) (u37:AV) (u38:AV) (u39:AV) (u40:AV) (u41:AV) (u42:AV) (u43:AV) (u44:AV) (u45:AV) (u46:AV) (u47:AV) (u48:AV) (u49:AV) (u50:AV) (u51:AV) (u52:AV) (u53:AV) (u54:AV) (u55:AV) (u56:AV) (u57:AV) (u58:AV) (u59:AV) (u60:AV) (u61:AV) (u62:AV) (u63:AV) (u64:AV) (u65:AV) (u66:AV) (u67:AV) (Yg_Y56_1:List AObj),kl1_0 z1=some v→Q (.exit 0) [u0,(I but),(.ptr 0 0),J,u4,(.gref (AObj.cells [(I b.1),(.lst (b.2.flatMap pr) b.2.length .shared)]::Yg_Y56_1).length ((AObj.cells [(I b.1),(.lst (b.2.flatMap pr) b.2.length .shared)]::Yg_Y56_1).length+1) z1.length 1),u6,u7,u8,u9,u10,u11,u12,u13,u14,u15,u16,u17,u18,u19,u20,u21,u22,u23,u24,u25,u26,u27,u28,u29,u30,u31,u32,u33,u34,u35,u36,u37,u38,u39,u40,u41,u42,u43,u44,u45,u46,u47,u48,u49,u50,u51,u52,u53,u54,u55,u56,u57,u58,u59,u60,u61,u62,u63,u64,u65,u66,u67] ((AObj.cells [(I b.1),(.lst (b.2.flatMap pr) b.2.length .shared)]::Yg_Y56_1)++[AObj.grow (z1.map I) ((AObj.cells [(I b.1),(.lst (b.2.flatMap pr) b.2.length .shared)]::Yg_Y56_1).length+1) 1,AObj.dead])) {T:List AV} (hT:T=slots 68 [(1,(I but)),(2,(.ptr 0 0)),(5,(.gref ([AObj.cells [(I b.1),(.lst (b.2.flatMap pr) b.2.length .shared)]]).length (([AObj.cells [(I b.1),(.lst (b.2.flatMap pr) b.2.length .shared)]]).length+1) s2.length 1)),(6,(I s1))]) (h:x56_l1 b kl1_0 FU s1 s2=some v) :
  LoopP Tryz.prog ann56b 56 0 none xrc56_1 T ((AObj.cells [(I b.1),(.lst (b.2.flatMap pr) b.2.length .shared)]::([]:List AObj))++[AObj.grow (s2.map I) ((AObj.cells [(I b.1),(.lst (b.2.flatMap pr) b.2.length .shared)]::([]:List AObj)).length+1) 1,AObj.dead]) Q:=by
 subst hT
 refine .mk _ _ rfl (fun m T H=>∃ (s1:Int) (s2:(List Int)) (Y56_1:List AObj),T=slots 68 [(1,(I but)),(2,(.ptr 0 0)),(5,(.gref (AObj.cells [(I b.1),(.lst (b.2.flatMap pr) b.2.length .shared)]::Y56_1).length ((AObj.cells [(I b.1),(.lst (b.2.flatMap pr) b.2.length .shared)]::Y56_1).length+1) s2.length 1)),(6,(I s1))]∧H=((AObj.cells [(I b.1),(.lst (b.2.flatMap pr) b.2.length .shared)]::Y56_1)++[AObj.grow (s2.map I) ((AObj.cells [(I b.1),(.lst (b.2.flatMap pr) b.2.length .shared)]::Y56_1).length+1) 1,AObj.dead])∧x56_l1 b kl1_0 m s1 s2=some v) FU (Nat.le_refl _) ⟨s1,s2,_,rfl,rfl,h⟩ ?_
 skip
 clear h
 rintro J_ m T H ⟨s1,s2,Y56_1,rfl,rfl,h⟩ hJp_
 cases m
 ·exact none_ne h
 rename_i m
 rw [x56_l1.eq_2] at h
 conv=>whnf
 rcases bt (decide (s1<b.1)) with hb2 | hb2
 ·rw [hb2]
  conv=>whnf
  replace h:=it_t hb2 h
  obtain ⟨hb3,h⟩:=gd_some h
  refine ⟨⟨rfl,by decide⟩,?_⟩
  conv=>whnf
  refine nthK_of (get_grow (AObj.cells [(I b.1),(.lst (b.2.flatMap pr) b.2.length .shared)]::Y56_1) _) ?_
  conv=>whnf
  refine ⟨⟨rfl,rfl,rfl,by simp,by decide,hb3⟩,?_⟩
  rw [set_grow,app_dead]
  erw [app_row I s2 s1,app_len s2 s1]
  conv=>whnf
  exact hJp_ m _ _ (Nat.lt_succ_self m) ⟨(w (s1+(1:Int))),(s2++[s1]),_,rfl,rfl,h⟩
 ·rw [hb2]
  conv=>whnf
  replace h:=it_f hb2 h
  exact hkl1_0 _ _ _ _ _ _ _ _ _ _ _ _ _ _ _ _ _ _ _ _ _ _ _ _ _ _ _ _ _ _ _ _ _ _ _ _ _ _ _ _ _ _ _ _ _ _ _ _ _ _ _ _ _ _ _ _ _ _ _ _ _ _ _ _ _ _ h
theorem x56_l3_ok {b:(Int×(List (Int×Int)))} {but:Int} {kl3_0:(List Int)→Option (List Int)} {s5:Int} {s6:(List Int)} {s3:Int} {v:(List Int)} {Q:Ex→List AV→List AObj→Prop}  {Yg_Y56_1:List AObj} (hkl3_0:∀ (z2:(List Int)) (u0:AV) (u4:AV) (u6:AV) (u8:AV) (u9:AV) (u10:AV) (u11:AV) (u12:AV) (u13:AV) (u14:AV) (u15:AV) (u16:AV) (u17:AV) (u18:AV) (u19:AV) (u20:AV) (u21:AV) (u22:AV) (u23:AV) (u24:AV) (u25:AV) (u26:AV) (u27:AV) (u28:AV) (u29:AV) (u30:AV) (u31:AV) (u32:AV) (u33:AV) (u34:AV) (u35:AV) (u36:AV) (u37:AV) (u38:AV) (u39:AV) (u40:AV) (u41:AV) (u42:AV) (u43:AV) (u44:AV) (u45:AV) (u46:AV) (u47:AV) (u48:AV) (u49:AV) (u50:AV) (u51:AV) (u52:AV) (u53:AV) (u54:AV) (u55:AV) (u56:AV) (u57:AV) (u58:AV) (u59:AV) (u60:AV) (u61:AV) (u62:AV) (u63:AV) (u64:AV) (u65:AV) (u66:AV) (u67:AV),kl3_0 z2=some v→Q (.exit 4) [u0,(I but),(.ptr 0 0),J,u4,(.gref (AObj.cells [(I b.1),(.lst (b.2.flatMap pr) b.2.length .shared)]::Yg_Y56_1).length ((AObj.cells [(I b.1),(.lst (b.2.flatMap pr) b.2.length .shared)]::Yg_Y56_1).length+1) z2.length 1),u6,(I s3),u8,u9,u10,u11,u12,u13,u14,u15,u16,u17,u18,u19,u20,u21,u22,u23,u24,u25,u26,u27,u28,u29,u30,u31,u32,u33,u34,u35,u36,u37,u38,u39,u40,u41,u42,u43,u44,u45,u46,u47,u48,u49,u50,u51,u52,u53,u54,u55,u56,u57,u58,u59,u60,u61,u62,u63,u64,u65,u66,u67] ((AObj.cells [(I b.1),(.lst (b.2.flatMap pr) b.2.length .shared)]::Yg_Y56_1)++[AObj.grow (z2.map I) ((AObj.cells [(I b.1),(.lst (b.2.flatMap pr) b.2.length .shared)]::Yg_Y56_1).length+1) 1,AObj.dead])) {T:List AV} (hT:zipKeep [o_,i_,i_,o_,o_,i_,o_,i_,i_,o_,o_,o_,o_,o_,o_,o_,o_,o_,o_,o_,o_,o_,o_,o_,o_,o_,o_,o_,o_,o_,o_,o_,o_,o_,o_,o_,o_,o_,o_,o_,o_,o_,o_,o_,o_,o_,o_,o_,o_,o_,o_,o_,o_,o_,o_,o_,o_,o_,o_,o_,o_,o_,o_,o_,o_,o_,o_,o_] T=slots 68 [(1,(I but)),(2,(.ptr 0 0)),(5,(.gref (AObj.cells [(I b.1),(.lst (b.2.flatMap pr) b.2.length .shared)]::Yg_Y56_1).length ((AObj.cells [(I b.1),(.lst (b.2.flatMap pr) b.2.length .shared)]::Yg_Y56_1).length+1) s6.length 1)),(7,(I s3)),(8,(I s5))]) (h:x56_l3 b but kl3_0 FU s5 s6=some v) :
  wpR Tryz.prog ann56b 56 0 none xrc56_2 T ((AObj.cells [(I b.1),(.lst (b.2.flatMap pr) b.2.length .shared)]::Yg_Y56_1)++[AObj.grow (s6.map I) ((AObj.cells [(I b.1),(.lst (b.2.flatMap pr) b.2.length .shared)]::Yg_Y56_1).length+1) 1,AObj.dead]) Q:=by
 unfold xrc56_2
 skip
 refine wp_loop hT ?_
 refine .intro (fun m T H=>∃ (s5:Int) (s6:(List Int)),T=slots 68 [(1,(I but)),(2,(.ptr 0 0)),(5,(.gref (AObj.cells [(I b.1),(.lst (b.2.flatMap pr) b.2.length .shared)]::Yg_Y56_1).length ((AObj.cells [(I b.1),(.lst (b.2.flatMap pr) b.2.length .shared)]::Yg_Y56_1).length+1) s6.length 1)),(7,(I s3)),(8,(I s5))]∧H=((AObj.cells [(I b.1),(.lst (b.2.flatMap pr) b.2.length .shared)]::Yg_Y56_1)++[AObj.grow (s6.map I) ((AObj.cells [(I b.1),(.lst (b.2.flatMap pr) b.2.length .shared)]::Yg_Y56_1).length+1) 1,AObj.dead])∧x56_l3 b but kl3_0 m s5 s6=some v) FU ⟨s5,s6,rfl,rfl,h⟩ ?_
 clear h hT
 rintro m T H ⟨s5,s6,rfl,rfl,h⟩
 cases m
 ·exact none_ne h
 rename_i m
 rw [x56_l3.eq_2] at h
 conv=>whnf
 rcases bt (decide (s5<(b.2.length:Int))) with hb5 | hb5
 ·rw [hb5]
  conv=>whnf
  replace h:=it_t hb5 h
  obtain ⟨hb6,h⟩:=gd_some h
  refine ⟨hb6,?_⟩
  rw [dropS pr 2 pr_len b.2 s5 hb6]
  conv=>whnf
  obtain ⟨hb7,h⟩:=gd_some h
  refine ⟨hb7,?_⟩
  rw [dropS pr 2 pr_len b.2 s5 hb7]
  conv=>whnf
  rcases bt (decide (s5≠but)) with hb8 | hb8
  ·rw [hb8]
   conv=>whnf
   replace h:=it_t hb8 h
   obtain ⟨hb9,h⟩:=gd_some h
   refine ⟨hb9,?_⟩
   conv=>whnf
   refine nthK_of (get_grow (AObj.cells [(I b.1),(.lst (b.2.flatMap pr) b.2.length .shared)]::Yg_Y56_1) _) ?_
   conv=>whnf
   refine rdD I s6 ((ix b.2 s5).1) hb9 ?_
   conv=>whnf
   obtain ⟨hb10,h⟩:=gd_some h
   refine ⟨hb10,?_⟩
   conv=>whnf
   refine nthK_of (get_grow (AObj.cells [(I b.1),(.lst (b.2.flatMap pr) b.2.length .shared)]::Yg_Y56_1) _) ?_
   conv=>whnf
   refine rdD I s6 ((ix b.2 s5).2) hb10 ?_
   conv=>whnf
   obtain ⟨hb11,h⟩:=gd_some h
   refine ⟨hb11,?_⟩
   conv=>whnf
   refine nthK_of (get_grow (AObj.cells [(I b.1),(.lst (b.2.flatMap pr) b.2.length .shared)]::Yg_Y56_1) _) ?_
   conv=>whnf
   refine updD I s6 ((ix b.2 s5).1) (min (ix s6 ((ix b.2 s5).1)) (ix s6 ((ix b.2 s5).2))) hb11 ?_
   rw [set_grow,show s6.length=(s6.set ((ix b.2 s5).1).toNat (min (ix s6 ((ix b.2 s5).1)) (ix s6 ((ix b.2 s5).2)))).length from (List.length_set ..).symm]
   conv=>whnf
   obtain ⟨hb12,h⟩:=gd_some h
   refine ⟨hb12,?_⟩
   conv=>whnf
   refine nthK_of (get_grow (AObj.cells [(I b.1),(.lst (b.2.flatMap pr) b.2.length .shared)]::Yg_Y56_1) _) ?_
   conv=>whnf
   refine updD I (s6.set ((ix b.2 s5).1).toNat (min (ix s6 ((ix b.2 s5).1)) (ix s6 ((ix b.2 s5).2)))) ((ix b.2 s5).2) (min (ix s6 ((ix b.2 s5).1)) (ix s6 ((ix b.2 s5).2))) hb12 ?_
   rw [set_grow,show (s6.set ((ix b.2 s5).1).toNat (min (ix s6 ((ix b.2 s5).1)) (ix s6 ((ix b.2 s5).2)))).length=((s6.set ((ix b.2 s5).1).toNat (min (ix s6 ((ix b.2 s5).1)) (ix s6 ((ix b.2 s5).2)))).set ((ix b.2 s5).2).toNat (min (ix s6 ((ix b.2 s5).1)) (ix s6 ((ix b.2 s5).2)))).length from (List.length_set ..).symm]
   conv=>whnf
   exact ⟨m,Nat.lt_succ_self m,(w (s5+(1:Int))),((s6.set ((ix b.2 s5).1).toNat (min (ix s6 ((ix b.2 s5).1)) (ix s6 ((ix b.2 s5).2)))).set ((ix b.2 s5).2).toNat (min (ix s6 ((ix b.2 s5).1)) (ix s6 ((ix b.2 s5).2)))),rfl,rfl,h⟩
  ·rw [hb8]
   conv=>whnf
   replace h:=it_f hb8 h
   exact ⟨m,Nat.lt_succ_self m,(w (s5+(1:Int))),s6,rfl,rfl,h⟩
 ·rw [hb5]
  conv=>whnf
  replace h:=it_f hb5 h
  exact hkl3_0 _ _ _ _ _ _ _ _ _ _ _ _ _ _ _ _ _ _ _ _ _ _ _ _ _ _ _ _ _ _ _ _ _ _ _ _ _ _ _ _ _ _ _ _ _ _ _ _ _ _ _ _ _ _ _ _ _ _ _ _ _ _ _ _ h
theorem x56_l2_ok {b:(Int×(List (Int×Int)))} {but:Int} {kl2_0:(List Int)→Option (List Int)} {s3:Int} {s4:(List Int)} {v:(List Int)} {Q:Ex→List AV→List AObj→Prop}  {Yg_Y56_1:List AObj} (hkl2_0:∀ (z3:(List Int)) (u0:AV) (u1:AV) (u2:AV) (u4:AV) (u6:AV) (u7:AV) (u8:AV) (u9:AV) (u10:AV) (u11:AV) (u12:AV) (u13:AV) (u14:AV) (u15:AV) (u16:AV) (u17:AV) (u18:AV) (u19:AV) (u20:AV) (u21:AV) (u22:AV) (u23:AV) (u24:AV) (u25:AV) (u26:AV) (u27:AV) (u28:AV) (u29:AV) (u30:AV) (u31:AV) (u32:AV) (u33:AV) (u34:AV) (u35:AV) (u36:AV) (u37:AV) (u38:AV) (u39:AV) (u40:AV) (u41:AV) (u42:AV) (u43:AV) (u44:AV) (u45:AV) (u46:AV) (u47:AV) (u48:AV) (u49:AV) (u50:AV) (u51:AV) (u52:AV) (u53:AV) (u54:AV) (u55:AV) (u56:AV) (u57:AV) (u58:AV) (u59:AV) (u60:AV) (u61:AV) (u62:AV) (u63:AV) (u64:AV) (u65:AV) (u66:AV) (u67:AV) (o1:AObj),kl2_0 z3=some v→Q (.exit 2) [u0,u1,u2,J,u4,(.gref (o1::Yg_Y56_1).length ((o1::Yg_Y56_1).length+1) z3.length 1),u6,u7,u8,u9,u10,u11,u12,u13,u14,u15,u16,u17,u18,u19,u20,u21,u22,u23,u24,u25,u26,u27,u28,u29,u30,u31,u32,u33,u34,u35,u36,u37,u38,u39,u40,u41,u42,u43,u44,u45,u46,u47,u48,u49,u50,u51,u52,u53,u54,u55,u56,u57,u58,u59,u60,u61,u62,u63,u64,u65,u66,u67] ((o1::Yg_Y56_1)++[AObj.grow (z3.map I) ((o1::Yg_Y56_1).length+1) 1,AObj.dead])) {T:List AV} (hT:zipKeep [o_,i_,i_,o_,o_,i_,o_,i_,o_,o_,o_,o_,o_,o_,o_,o_,o_,o_,o_,o_,o_,o_,o_,o_,o_,o_,o_,o_,o_,o_,o_,o_,o_,o_,o_,o_,o_,o_,o_,o_,o_,o_,o_,o_,o_,o_,o_,o_,o_,o_,o_,o_,o_,o_,o_,o_,o_,o_,o_,o_,o_,o_,o_,o_,o_,o_,o_,o_] T=slots 68 [(1,(I but)),(2,(.ptr 0 0)),(5,(.gref (AObj.cells [(I b.1),(.lst (b.2.flatMap pr) b.2.length .shared)]::Yg_Y56_1).length ((AObj.cells [(I b.1),(.lst (b.2.flatMap pr) b.2.length .shared)]::Yg_Y56_1).length+1) s4.length 1)),(7,(I s3))]) (h:x56_l2 b but kl2_0 FU s3 s4=some v) :
  wpR Tryz.prog ann56b 56 0 none xrc56_3 T ((AObj.cells [(I b.1),(.lst (b.2.flatMap pr) b.2.length .shared)]::Yg_Y56_1)++[AObj.grow (s4.map I) ((AObj.cells [(I b.1),(.lst (b.2.flatMap pr) b.2.length .shared)]::Yg_Y56_1).length+1) 1,AObj.dead]) Q:=by
 unfold xrc56_3
 obtain ⟨c_2,g_2⟩:∃ c,xrc56_2=c:=⟨_,rfl⟩
 rw [g_2]
 refine wp_loop hT ?_
 refine .intro (fun m T H=>∃ (s3:Int) (s4:(List Int)),T=slots 68 [(1,(I but)),(2,(.ptr 0 0)),(5,(.gref (AObj.cells [(I b.1),(.lst (b.2.flatMap pr) b.2.length .shared)]::Yg_Y56_1).length ((AObj.cells [(I b.1),(.lst (b.2.flatMap pr) b.2.length .shared)]::Yg_Y56_1).length+1) s4.length 1)),(7,(I s3))]∧H=((AObj.cells [(I b.1),(.lst (b.2.flatMap pr) b.2.length .shared)]::Yg_Y56_1)++[AObj.grow (s4.map I) ((AObj.cells [(I b.1),(.lst (b.2.flatMap pr) b.2.length .shared)]::Yg_Y56_1).length+1) 1,AObj.dead])∧x56_l2 b but kl2_0 m s3 s4=some v) FU ⟨s3,s4,rfl,rfl,h⟩ ?_
 clear h hT
 rintro m T H ⟨s3,s4,rfl,rfl,h⟩
 cases m
 ·exact none_ne h
 rename_i m
 rw [x56_l2.eq_2] at h
 conv=>whnf
 rcases bt (decide (s3<b.1)) with hb4 | hb4
 ·rw [hb4]
  conv=>whnf
  replace h:=it_t hb4 h
  subst g_2
  refine x56_l3_ok ?_ (by exact rfl) h
  intro z2 u0 u4 u6 u8 u9 u10 u11 u12 u13 u14 u15 u16 u17 u18 u19 u20 u21 u22 u23 u24 u25 u26 u27 u28 u29 u30 u31 u32 u33 u34 u35 u36 u37 u38 u39 u40 u41 u42 u43 u44 u45 u46 u47 u48 u49 u50 u51 u52 u53 u54 u55 u56 u57 u58 u59 u60 u61 u62 u63 u64 u65 u66 u67 h
  conv=>whnf
  exact ⟨m,Nat.lt_succ_self m,(w (s3+(1:Int))),z2,rfl,rfl,h⟩
 ·rw [hb4]
  conv=>whnf
  replace h:=it_f hb4 h
  exact hkl2_0 _ _ _ _ _ _ _ _ _ _ _ _ _ _ _ _ _ _ _ _ _ _ _ _ _ _ _ _ _ _ _ _ _ _ _ _ _ _ _ _ _ _ _ _ _ _ _ _ _ _ _ _ _ _ _ _ _ _ _ _ _ _ _ _ _ _ _ _ h
theorem x56_ok {b:(Int×(List (Int×Int)))} {but:Int} {v:(List Int)} (h:x56 b but=some v):PO 56 [(.agg [(I b.1),(.lst (b.2.flatMap pr) b.2.length .shared)]),(I but)] (.lst (v.map I) v.length .shared):=by
 refine fn_pureW hmix lxx56 rfl (pu_map (fun _=>rfl) _ _ _) fun Q hQ=>?_
 have hR:∀ T H,RetW [.tmp 4] (.lst (v.map I) v.length .shared) .ret T H→Q .ret T H:=fun T H hh=>hQ _ T H hh
 unfold x56 at h
 unfold xrc56
 obtain ⟨c_1,g_1⟩:∃ c,xrc56_1=c:=⟨_,rfl⟩
 rw [g_1]
 obtain ⟨c_3,g_3⟩:∃ c,xrc56_3=c:=⟨_,rfl⟩
 rw [g_3]
 conv=>whnf
 subst g_1
 refine wp_peel (rc:=xrc56_1) rfl (by exact rfl) ?_
 skip
 intro J1_ hJ1_
 conv=>whnf
 rcases bt (decide ((0:Int)<b.1)) with hb1 | hb1
 ·rw [hb1]
  conv=>whnf
  replace h:=it_t hb1 h
  refine ⟨⟨rfl,by decide⟩,?_⟩
  conv=>whnf
  refine ⟨⟨rfl,by decide,by decide⟩,?_⟩
  conv=>whnf
  refine hJ1_ _ _ ?_
  refine x56_l1_ok ?_ (by exact rfl) h
  intro z1 u0 u4 u6 u7 u8 u9 u10 u11 u12 u13 u14 u15 u16 u17 u18 u19 u20 u21 u22 u23 u24 u25 u26 u27 u28 u29 u30 u31 u32 u33 u34 u35 u36 u37 u38 u39 u40 u41 u42 u43 u44 u45 u46 u47 u48 u49 u50 u51 u52 u53 u54 u55 u56 u57 u58 u59 u60 u61 u62 u63 u64 u65 u66 u67 Yg_Y56_1 h
  conv=>whnf
  subst g_3
  refine x56_l2_ok ?_ (by exact rfl) h
  intro z3 u0 u1 u2 u4 u6 u7 u8 u9 u10 u11 u12 u13 u14 u15 u16 u17 u18 u19 u20 u21 u22 u23 u24 u25 u26 u27 u28 u29 u30 u31 u32 u33 u34 u35 u36 u37 u38 u39 u40 u41 u42 u43 u44 u45 u46 u47 u48 u49 u50 u51 u52 u53 u54 u55 u56 u57 u58 u59 u60 u61 u62 u63 u64 u65 u66 u67 o1 h
  conv=>whnf
  refine ⟨_,_,fun C=>frz_gref rfl (Nat.zero_le _) (get_grow (o1::Yg_Y56_1) _) (by simp),?_⟩
  rw [view_all (fun _=>rfl),set_grow]
  conv=>whnf
  obtain rfl:=Option.some.inj h
  exact hR _ _ ⟨.inr rfl,_,rfl,_,frz_pure (pu_map (fun _=>rfl) _ _ _),rfl⟩
 ·rw [hb1]
  conv=>whnf
  replace h:=it_f hb1 h
  exact none_ne h
end Go.Proofs.YtfakoboiahbhaaaGreat.Ab


namespace Go.Proofs.YtfakoboiahbhaaaGreat.Ab
open Go
def Cn (b:Bk) (wo f g:Int):Prop:=∃ n,Wk b wo n f g
theorem Wk.trans {b:Bk} {wo:Int}:∀ {n m:Nat} {a c g:Int},Wk b wo n a c→Wk b wo m c g→Wk b wo (n+m) a g
 | n,0,a,c,g,h,(k:c=g)=>k ▸ h
 | n,m+1,a,c,g,h,⟨f,k1,k2⟩=>⟨f,Wk.trans h k1,k2⟩
theorem Cn.refl {b:Bk} {wo:Int} (f:Int):Cn b wo f f:=⟨0,rfl⟩
theorem Cn.symm {b:Bk} {wo f g:Int} (h:Cn b wo f g):Cn b wo g f:=h.elim fun n h=>⟨n,h.symm⟩
theorem Cn.trans {b:Bk} {wo f g h:Int} (h1:Cn b wo f g) (h2:Cn b wo g h):Cn b wo f h:=by
 obtain ⟨n,h1⟩:=h1;obtain ⟨m,h2⟩:=h2;exact ⟨n+m,h1.trans h2⟩
theorem Ed.cn {b:Bk} {wo f g:Int} (h:Ed b wo f g):Cn b wo f g:=⟨1,f,rfl,h⟩
theorem Ed.of {b:Bk} {wo:Int} {i:Nat} (hi:i<b.2.length) (hw:(i:Int)≠wo):Ed b wo (ix b.2 (i:Int)).1 (ix b.2 (i:Int)).2 :=
 ⟨((i:Int),0),mem_places.2 ⟨by simp only;omega,by simp only;omega,by simp only;omega,by simp only;omega,rfl⟩,hw,rfl⟩
theorem Ed.sheet {b:Bk} {wo f g:Int} (h:Ed b wo f g):∃ i:Nat,i<b.2.length∧(i:Int)≠wo∧(((ix b.2 (i:Int)).1=f∧(ix b.2 (i:Int)).2=g)∨((ix b.2 (i:Int)).2=f∧(ix b.2 (i:Int)).1=g)):=by
 obtain ⟨p,h1,h2,h3⟩:=h
 have hp:=mem_places.1 h1
 refine ⟨p.1.toNat,by omega,by omega,?_⟩
 rw [Int.toNat_of_nonneg hp.1]
 have h4:=hp.2.2.2.2
 unfold beg at h4;unfold fin at h3
 by_cases hc:0<p.2
 ·rw [if_pos hc] at h4 h3;exact .inr ⟨h4,h3⟩
 ·rw [if_neg hc] at h4 h3;exact .inl ⟨h4,h3⟩
theorem Cn.short {b:Bk} (hB:Book b) {wo f g:Int} (hg:0≤g∧g<b.1) (hf:0≤f∧f<b.1) (h:Cn b wo f g):∃ n:Nat,(n:Int)<b.1∧Wk b wo n f g:=by
 obtain ⟨D,_,hD⟩:=x81_eq hB (wo:=wo) hg
 obtain ⟨n,h⟩:=h
 have hl:=hD.least n f h.symm
 have h6:=hB.f6
 have hlt:=far_lt hB hD hf.1 hf.2
 have hw:=hD.walk f.toNat (by omega) (by rw [Int.toNat_of_nonneg hf.1];exact hl.2.2.1)
 rw [Int.toNat_of_nonneg hf.1] at hw
 exact ⟨(ix D f).toNat,by omega,hw.symm⟩
theorem sheet_in {b:Bk} (hB:Book b) {i:Nat} (hi:i<b.2.length):0≤(ix b.2 (i:Int)).1∧(ix b.2 (i:Int)).1<b.1∧0≤(ix b.2 (i:Int)).2∧(ix b.2 (i:Int)).2<b.1:=by
 have hm:=ix_mem' (l:=b.2) (i:=(i:Int)) ⟨by omega,by omega⟩
 have h1:=hB.left _ hm;have h2:=hB.right _ hm
 exact ⟨h1.1,h1.2,h2.1,h2.2⟩
def upto (n:Nat):List Int:=(List.range n).map fun (j:Nat)=>(j:Int)
theorem upto_len (n:Nat):(upto n).length=n:=by simp [upto]
theorem upto_get {n j:Nat} (h:j<n):ix (upto n) (j:Int)=(j:Int):=by
 rw [ix_nat (by rw [upto_len];exact h)];simp [upto]
theorem upto_succ (n:Nat):upto (n+1)=upto n++[(n:Int)]:=by simp [upto,List.range_succ]
theorem x56_l1_eq {b:Bk} (h6:b.1≤6) {k:List Int→Option (List Int)}:∀ (m i:Nat) (z:Int),z=i→(i:Int)≤b.1→b.1.toNat-i<m→x56_l1 b k m z (upto i)=k (upto b.1.toNat)
 | 0,i,_,_,_,h=>absurd h (by omega)
 | m+1,i,_,rfl,hi,hm=>by
   rw [x56_l1]
   by_cases h:(i:Int)<b.1
   ·rw [if_pos (decide_eq_true h),gd_pos (by rw [upto_len];omega),w_succ i (by omega),←upto_succ]
    exact x56_l1_eq h6 m (i+1) _ rfl (by omega) (by omega)
   ·rw [if_neg (by simpa using h),show i=b.1.toNat by omega]
structure NI (b:Bk) (wo:Int) (S:List Int):Prop where
 len:S.length=b.1.toNat
 con:∀ f:Int,0≤f→f<b.1→Cn b wo f (ix S f)∧0≤ix S f∧ix S f<b.1
structure RndI (b:Bk) (wo:Int) (S0:List Int) (i:Nat) (S:List Int):Prop extends NI b wo S where
 mono:∀ f:Int,0≤f→f<b.1→ix S f≤ix S0 f
 done:∀ j:Nat,j<i→(j:Int)≠wo→ix S (ix b.2 (j:Int)).1≤ix S0 (ix b.2 (j:Int)).2∧ix S (ix b.2 (j:Int)).2≤ix S0 (ix b.2 (j:Int)).1
theorem ix_set2 {S:List Int} {x y f v:Int} (hx:0≤x∧x<(S.length:Int)) (hy:0≤y∧y<(S.length:Int)) (hf:0≤f∧f<(S.length:Int)):ix ((S.set x.toNat v).set y.toNat v) f=if f=x∨f=y then v else ix S f:=by
 obtain ⟨a,rfl⟩:∃ a:Nat,x=(a:Int):=⟨x.toNat,by omega⟩
 obtain ⟨c,rfl⟩:∃ c:Nat,y=(c:Int):=⟨y.toNat,by omega⟩
 obtain ⟨e,rfl⟩:∃ e:Nat,f=(e:Int):=⟨f.toNat,by omega⟩
 rw [Int.toNat_natCast,Int.toNat_natCast]
 by_cases h1:e=c
 ·subst h1;rw [ix_set_self (by simp;omega),if_pos (.inr rfl)]
 ·rw [ix_set_ne h1]
  by_cases h2:e=a
  ·subst h2;rw [ix_set_self (by omega),if_pos (.inl rfl)]
  ·rw [ix_set_ne h2,if_neg (by omega)]
theorem RndI.step {b:Bk} (hB:Book b) {wo:Int} {S0 S:List Int} {i:Nat} (h:RndI b wo S0 i S) (hi:i<b.2.length) (hw:(i:Int)≠wo) :
  RndI b wo S0 (i+1) ((S.set (ix b.2 (i:Int)).1.toNat (min (ix S (ix b.2 (i:Int)).1) (ix S (ix b.2 (i:Int)).2))).set (ix b.2 (i:Int)).2.toNat (min (ix S (ix b.2 (i:Int)).1) (ix S (ix b.2 (i:Int)).2))):=by
 have hs:=sheet_in hB hi
 have he:=Ed.of hi hw
 obtain ⟨x,hx⟩:∃ x,x=(ix b.2 (i:Int)).1:=⟨_,rfl⟩
 obtain ⟨y,hy⟩:∃ y,y=(ix b.2 (i:Int)).2:=⟨_,rfl⟩
 rw [←hx,←hy] at hs he
 rw [←hx,←hy]
 have hl:=h.len
 have hix:∀ f:Int,0≤f→f<b.1→_:=fun f h1 h2=>ix_set2 (S:=S) (x:=x) (y:=y) (f:=f) (v:=min (ix S x) (ix S y)) ⟨hs.1,by omega⟩ ⟨hs.2.2.1,by omega⟩ ⟨h1,by omega⟩
 have hcx:=h.con x hs.1 hs.2.1
 have hcy:=h.con y hs.2.2.1 hs.2.2.2
 have hle:∀ f:Int,0≤f→f<b.1→ix ((S.set x.toNat (min (ix S x) (ix S y))).set y.toNat (min (ix S x) (ix S y))) f≤ix S f:=fun f h1 h2=>by
  rw [hix f h1 h2];split
  ·rename_i e;rcases e with rfl | rfl <;> omega
  ·exact Int.le_refl _
 refine ⟨⟨by simpa using hl,fun f h1 h2=>?_⟩,fun f h1 h2=>Int.le_trans (hle f h1 h2) (h.mono f h1 h2),fun j hj hjw=>?_⟩
 ·rw [hix f h1 h2]
  split
  ·rename_i e
   rcases Int.le_total (ix S x) (ix S y) with hm | hm
   ·rw [Int.min_eq_left hm]
    refine ⟨?_,hcx.2⟩
    rcases e with rfl | rfl
    ·exact hcx.1
    ·exact he.symm.cn.trans hcx.1
   ·rw [Int.min_eq_right hm]
    refine ⟨?_,hcy.2⟩
    rcases e with rfl | rfl
    ·exact he.cn.trans hcy.1
    ·exact hcy.1
  ·exact h.con f h1 h2
 ·have hj':j<i∨j=i:=by omega
  rcases hj' with hj' | rfl
  ·have hsj:=sheet_in hB (i:=j) (by omega)
   obtain ⟨d1,d2⟩:=h.done j hj' hjw
   exact ⟨Int.le_trans (hle _ hsj.1 hsj.2.1) d1,Int.le_trans (hle _ hsj.2.2.1 hsj.2.2.2) d2⟩
  ·rw [←hx,←hy,hix x hs.1 hs.2.1,hix y hs.2.2.1 hs.2.2.2,if_pos (.inl rfl),if_pos (.inr rfl)]
   have m1:=h.mono x hs.1 hs.2.1
   have m2:=h.mono y hs.2.2.1 hs.2.2.2
   omega
theorem x56_l3_eq {b:Bk} (hB:Book b) {wo:Int} {S0:List Int} {k:List Int→Option (List Int)}:∀ (m i:Nat) (z:Int) (S:List Int),z=i→i≤b.2.length→b.2.length-i<m→RndI b wo S0 i S →
  ∃ S',RndI b wo S0 b.2.length S'∧x56_l3 b wo k m z S=k S'
 | 0,i,_,_,_,_,h,_=>absurd h (by omega)
 | m+1,i,_,S,rfl,hi,hm,h=>by
   have hl:=hB.len
   rw [x56_l3]
   by_cases hlt:i<b.2.length
   ·have hs:=sheet_in hB hlt
    have hsl:=h.len
    rw [iflt hlt,gdi hlt,gdi hlt]
    by_cases hw:(i:Int)≠wo
    ·rw [if_pos (decide_eq_true hw),gd_pos ⟨hs.1,by omega⟩,gd_pos ⟨hs.2.2.1,by omega⟩,gd_pos ⟨hs.1,by omega⟩,gd_pos ⟨hs.2.2.1,by rw [List.length_set];omega⟩,w_succ i (by omega)]
     exact x56_l3_eq hB m (i+1) _ _ rfl (by omega) (by omega) (h.step hB hlt hw)
    ·rw [if_neg (by simpa using hw),w_succ i (by omega)]
     exact x56_l3_eq hB m (i+1) _ _ rfl (by omega) (by omega) ⟨h.toNI,h.mono,fun j hj hjw=>h.done j (by omega) hjw⟩
   ·rw [ifge hlt]
    obtain rfl:i=b.2.length:=by omega
    exact ⟨S,h,rfl⟩
theorem x56_l2_eq {b:Bk} (hB:Book b) {wo:Int} {k:List Int→Option (List Int)}:∀ (m r:Nat) (z:Int) (S:List Int),z=r→(r:Int)≤b.1→b.1.toNat-r<m→NI b wo S→(∀ (n:Nat) (f g:Int),n≤r→0≤f→f<b.1→Wk b wo n f g→ix S f≤g) →
  ∃ S',NI b wo S'∧(∀ (n:Nat) (f g:Int),(n:Int)≤b.1→0≤f→f<b.1→Wk b wo n f g→ix S' f≤g)∧x56_l2 b wo k m z S=k S'
 | 0,i,_,_,_,_,h,_,_=>absurd h (by omega)
 | m+1,r,_,S,rfl,hr,hm,h,hw=>by
   have h6:=hB.f6
   rw [x56_l2]
   by_cases hlt:(r:Int)<b.1
   ·rw [if_pos (decide_eq_true hlt)]
    obtain ⟨S',d1,d2⟩:=x56_l3_eq hB (wo:=wo) (S0:=S) (k:=fun z2=>x56_l2 b wo k m (w ((r:Int)+(1:Int))) z2) FU 0 0 S rfl (Nat.zero_le _) (FU_lt (by have:=hB.len;omega)) ⟨h,fun _ _ _=>Int.le_refl _,fun j hj=>absurd hj (by omega)⟩
    rw [d2,w_succ r (by omega)]
    refine x56_l2_eq hB m (r+1) _ S' rfl (by omega) (by omega) d1.toNI fun n f g hn h1 h2 hwk=>?_
    cases n with
    | zero =>
      have e:f=g:=hwk
      subst e
      have:=hw 0 f f (by omega) h1 h2 rfl
      have:=d1.mono f h1 h2
      omega
    | succ n =>
      obtain ⟨c,he,hc⟩:=hwk.uncons
      have hci:=Ed.in hB he
      have:=hw n c g (by omega) hci.1 hci.2 hc
      obtain ⟨i,i1,i2,i3⟩:=he.sheet
      obtain ⟨e1,e2⟩:=d1.done i i1 i2
      rcases i3 with ⟨rfl,rfl⟩ | ⟨rfl,rfl⟩ <;> omega
   ·rw [if_neg (by simpa using hlt)]
    exact ⟨S,h,fun n f g hn h1 h2 hwk=>hw n f g (by omega) h1 h2 hwk,rfl⟩
structure NamesD (b:Bk) (wo:Int) (N:List Int):Prop extends NI b wo N where
 least:∀ f g:Int,0≤f→f<b.1→0≤g→g<b.1→Cn b wo f g→ix N f≤g
theorem x56_eq {b:Bk} (hB:Book b) (wo:Int):∃ N,x56 b wo=some N∧NamesD b wo N:=by
 have h6:=hB.f6;have h1:=hB.f1
 have hN:NI b wo (upto b.1.toNat):=⟨upto_len _,fun f hf1 hf2=>by
  obtain ⟨a,rfl⟩:∃ a:Nat,f=(a:Int):=⟨f.toNat,by omega⟩
  rw [upto_get (by omega)];exact ⟨Cn.refl _,hf1,hf2⟩⟩
 obtain ⟨S',d1,d2,d3⟩:=x56_l2_eq hB (wo:=wo) (k:=fun z3=>some z3) FU 0 0 (upto b.1.toNat) rfl (by omega) (FU_lt (by omega)) hN (fun n f g hn hf1 hf2 hwk=>by
  obtain rfl:n=0:=by omega
  have e:f=g:=hwk
  subst e
  obtain ⟨a,rfl⟩:∃ a:Nat,f=(a:Int):=⟨f.toNat,by omega⟩
  rw [upto_get (by omega)];exact Int.le_refl _)
 refine ⟨S',?_,d1,fun f g f1 f2 g1 g2 hc=>?_⟩
 ·rw [x56,if_pos (decide_eq_true (by omega))]
  have:=x56_l1_eq h6 (k:=fun z1=>x56_l2 b wo (fun z3=>some z3) FU (0:Int) z1) FU 1 1 rfl (by omega) (FU_lt (by omega))
  rw [show upto 1=[(0:Int)] from rfl] at this
  rw [show w ((0:Int)+(1:Int))=1 from rfl,this,d3]
 ·obtain ⟨n,hn,hwk⟩:=hc.short hB ⟨g1,g2⟩ ⟨f1,f2⟩
  exact d2 n f g (by omega) f1 f2 hwk
theorem NamesD.iff {b:Bk} {wo:Int} {N:List Int} (h:NamesD b wo N) {f g:Int} (hf:0≤f∧f<b.1) (hg:0≤g∧g<b.1):ix N f=ix N g↔Cn b wo f g:=by
 have a:=h.con f hf.1 hf.2
 have c:=h.con g hg.1 hg.2
 refine ⟨fun e=>a.1.trans (by rw [e];exact c.1.symm),fun e=>?_⟩
 have l1:=h.least f (ix N g) hf.1 hf.2 c.2.1 c.2.2 (e.trans c.1)
 have l2:=h.least g (ix N f) hg.1 hg.2 a.2.1 a.2.2 (e.symm.trans a.1)
 omega
end Go.Proofs.YtfakoboiahbhaaaGreat.Ab


namespace Go.Proofs.YtfakoboiahbhaaaGreat.Ab
open Go
set_option maxRecDepth 20000
set_option maxHeartbeats 4000000
noncomputable def xrc47:RC :=
 .seq (.reg false [I_ 1 [.tk 0] .box,I_ 2 [.cv (.bool false)] .mv]) (.seq (.reg false [I_ 3 [.sl 1] (.ld (.str 2)),I_ 4 [.cv (.func 16 [] []),.sl 3] (.call 3),I_ 5 [.tv 4] (.un .not),I_ 6 [.tk 5] .mv,⟨some 7,[.tv 1],some
 (6,true),none,.ld (.str 2)⟩,⟨some 8,[.cv (.func 21 [] []),.sl 7],some (6,true),none,.call 3⟩,⟨some 9,[.tv 8,.cv (.int .i64 0)],some (6,true),none,.bin .eql⟩,I_ 10 [.tv 6,.tv 9,.cv (.bool false)] .pick,I_ 2
 [.tk 10] .mv]) .ret)
theorem lxx47:linkF Tryz.prog ann47 47=some (xrc47,11,[.tmp 2]):=by kernel_rfl
def x47 (b:(Int×(List (Int×Int)))):Option Bool :=
 (x16 b).bind fun r1 =>
 if r1=true then
  some false
 else
  (x21 b).bind fun r2 =>
  some (decide (r2=(0:Int)))
theorem x47_ok {b:(Int×(List (Int×Int)))} {v:Bool} (h:x47 b=some v):PO 47 [(.agg [(I b.1),(.lst (b.2.flatMap pr) b.2.length .shared)])] (B v):=by
 refine fn_pureW hmix lxx47 rfl rfl fun Q hQ=>?_
 have hR:∀ T H,RetW [.tmp 2] (B v) .ret T H→Q .ret T H:=fun T H hh=>hQ _ T H hh
 unfold x47 at h
 unfold xrc47
 skip
 conv=>whnf
 obtain ⟨r1,hb1,h⟩:=bd_some h
 refine ⟨(allc (pu_agg (allc rfl (allc (pu_flat (fun _=>(allc rfl (allc rfl rfl))) _ _ _) rfl))) rfl),_,x16_ok hb1,?_⟩
 conv=>whnf
 cases r1
 ·conv=>whnf
  replace h:=it_f rfl h
  obtain ⟨r2,hb2,h⟩:=bd_some h
  refine ⟨(allc (pu_agg (allc rfl (allc (pu_flat (fun _=>(allc rfl (allc rfl rfl))) _ _ _) rfl))) rfl),_,x21_ok hb2,?_⟩
  conv=>whnf
  obtain rfl:=Option.some.inj h
  exact hR _ _ ⟨.inr rfl,_,rfl,_,frz_pure rfl,rfl⟩
 ·conv=>whnf
  replace h:=it_t rfl h
  obtain rfl:=Option.some.inj h
  exact hR _ _ ⟨.inr rfl,_,rfl,_,frz_pure rfl,rfl⟩

noncomputable def xrc53_1:RC :=
 .loop (some [i_,i_,o_,o_,o_,i_,o_,o_,o_,o_,o_,o_,o_,o_,o_,o_,o_,o_]) (.seq (.seq (.reg false [I_ 6 [.sl 5] .mv,I_ 7 [.sl 0] .mv,I_ 8 [.tk 7] .lenS,I_ 9 [.tv
 6,.tv 8] (.bin .lss)]) (.cond (.sl 9) .skip (.exit 0))) (.seq (.block 1 (.seq (.reg false [I_ 12 [.sl 0] .mv,I_ 13 [.sl 5] .mv,I_ 14 [.tv 12,.tv 13] (.ia 1),I_ 15 [.tv 14] (.ld .one),I_ 16 [.sl 1] .mv,I_ 17 [.tv 15,.tv
 16] (.bin .eql)]) (.cond (.sl 17) (.seq (.reg false [I_ 4 [.cv (.bool true)] .mv]) .ret) .skip))) (.reg false [I_ 10 [.tk 5] .mv,I_ 11 [.tv 10,.cv (.int .i64 1)] (.bin .add),I_ 5 [.tk 11] .mv])))
noncomputable def xrc53:RC :=
 .seq (.reg false [I_ 4 [.cv (.bool false)] .mv]) (.seq (.seq (.reg false [I_ 5 [.cv (.int .i64 0)] .mv]) (.block 0 xrc53_1)) (.seq (.reg false [I_ 4 [.cv (.bool false)] .mv]) .ret))
theorem lxx53:linkF Tryz.prog ann53 53=some (xrc53,18,[.tmp 4]):=by kernel_rfl
def x53_l1 (l:(List Int)) (n:Int) (kl1_0:Unit→Option Bool):Nat→Int→Option Bool
 | 0,_=>none
 | m+1,s1 =>
   if (decide (s1<(l.length:Int)))=true then
    gd (0≤s1∧s1<(l.length:Int)) <|
    if (decide ((ix l s1)=n))=true then
     some true
    else
     x53_l1 l n kl1_0 m (w (s1+(1:Int)))
   else
    kl1_0 ()
def x53 (l:(List Int)) (n:Int):Option Bool :=
 x53_l1 l n (fun _ =>
   some false) FU (0:Int)
theorem x53_l1_ok {l:(List Int)} {n:Int} {kl1_0:Unit→Option Bool} {s1:Int} {v:Bool} {Q:Ex→List AV→List AObj→Prop}   (hR:∀ T H,RetW [.tmp 4] (B v) .ret T H→Q .ret T H) (hkl1_0:∀ (u0:AV) (u1:AV) (u4:AV) (u5:AV) (u6:AV) (u7:AV) (u8:AV) (u9:AV) (u10:AV) (u11:AV) (u12:AV) (u13:AV) (u14:AV) (u15:AV) (u16:AV) (u17:AV),kl1_0 ()=some v→Q (.exit 0) [u0,u1,J,J,u4,u5,u6,u7,u8,u9,u10,u11,u12,u13,u14,u15,u16,u17] []) {T:List AV} (hT:zipKeep [i_,i_,o_,o_,o_,i_,o_,o_,o_,o_,o_,o_,o_,o_,o_,o_,o_,o_] T=slots 18 [(0,(.lst (l.map I) l.length .shared)),(1,(I n)),(5,(I s1))]) (h:x53_l1 l n kl1_0 FU s1=some v) :
  wpR Tryz.prog ann53 53 0 none xrc53_1 T [] Q:=by
 unfold xrc53_1
 skip
 refine wp_loop hT ?_
 refine .intro (fun m T H=>∃ (s1:Int),T=slots 18 [(0,(.lst (l.map I) l.length .shared)),(1,(I n)),(5,(I s1))]∧H=[]∧x53_l1 l n kl1_0 m s1=some v) FU ⟨s1,rfl,rfl,h⟩ ?_
 clear h hT
 rintro m T H ⟨s1,rfl,rfl,h⟩
 cases m
 ·exact none_ne h
 rename_i m
 rw [x53_l1.eq_2] at h
 conv=>whnf
 rcases bt (decide (s1<(l.length:Int))) with hb1 | hb1
 ·rw [hb1]
  conv=>whnf
  replace h:=it_t hb1 h
  obtain ⟨hb2,h⟩:=gd_some h
  refine ⟨hb2,?_⟩
  rw [drop1 I l s1 hb2]
  conv=>whnf
  rcases bt (decide ((ix l s1)=n)) with hb3 | hb3
  ·rw [hb3]
   conv=>whnf
   replace h:=it_t hb3 h
   obtain rfl:=Option.some.inj h
   exact hR _ _ ⟨.inr rfl,_,rfl,_,frz_pure rfl,rfl⟩
  ·rw [hb3]
   conv=>whnf
   replace h:=it_f hb3 h
   exact ⟨m,Nat.lt_succ_self m,(w (s1+(1:Int))),rfl,rfl,h⟩
 ·rw [hb1]
  conv=>whnf
  replace h:=it_f hb1 h
  exact hkl1_0 _ _ _ _ _ _ _ _ _ _ _ _ _ _ _ _ h
theorem x53_ok {l:(List Int)} {n:Int} {v:Bool} (h:x53 l n=some v):PO 53 [(.lst (l.map I) l.length .shared),(I n)] (B v):=by
 refine fn_pureW hmix lxx53 rfl rfl fun Q hQ=>?_
 have hR:∀ T H,RetW [.tmp 4] (B v) .ret T H→Q .ret T H:=fun T H hh=>hQ _ T H hh
 unfold x53 at h
 unfold xrc53
 obtain ⟨c_1,g_1⟩:∃ c,xrc53_1=c:=⟨_,rfl⟩
 rw [g_1]
 conv=>whnf
 subst g_1
 refine x53_l1_ok ?_ ?_ (by exact rfl) h
 ·exact fun T H hh=>hR T H hh
 ·intro u0 u1 u4 u5 u6 u7 u8 u9 u10 u11 u12 u13 u14 u15 u16 u17 h
  conv=>whnf
  obtain rfl:=Option.some.inj h
  exact hR _ _ ⟨.inr rfl,_,rfl,_,frz_pure rfl,rfl⟩

noncomputable def xrc13_1:RC :=
 .loop (some [o_,o_,o_,i_,o_,o_,o_,o_,i_,i_,o_,o_,o_,o_,o_,o_,o_,o_,o_,o_,i_,i_,o_,o_,o_,o_,o_,o_,o_,o_,o_,o_,o_,o_,o_,o_,o_,o_,o_,o_,o_,o_,o_,o_,o_,o_,o_,o_,o_,o_,o_,o_,o_,o_,o_,o_,o_,o_,o_,o_,o_,o_,o_,o_,o_,o_,o_,o_,o_,o_,o_,o_,o_,o_,o_,o_,o_,o_,o_,o_,o_,o_,o_,o_,o_,o_,o_,o_,o_,o_,o_,o_,o_,o_,o_,o_,o_,o_,o_,o_,o_,o_,o_,o_,o_,o_,o_,o_,o_,o_,o_,o_,o_,o_,o_,o_,o_,o_,o_,o_,o_,o_,o_,o_,o_,o_,o_,o_,o_,o_,o_,o_,o_,o_,o_,o_,o_,o_,o_,o_,o_,o_,o_,o_,o_,o_,o_,o_,o_,o_,o_,o_,o_,o_,o_,o_,o_,o_,o_,o_,o_,o_,o_]) (.seq (.seq (.reg false [I_ 138 [.sl 21] .mv,I_ 139 [.sl 9] .mv,I_ 140 [.tk 139] .lenS,I_ 141 [.tv 138,.tv 140] (.bin .lss)]) (.cond (.sl 141) .skip (.exit 0))) (.seq (.block 1 (.seq (.reg true
 [I_ 144 [.sl 3] (.ld (.str 2)),I_ 145 [.sl 9] .mv,I_ 146 [.sl 21] .mv,I_ 147 [.tv 145,.tv 146] (.ia 2),I_ 148 [.tv 147] (.ld (.str 2)),I_ 149 [.cv (.func 57 [] []),.sl 144,.sl 148] (.call 3),I_ 22 [.tk 149] .mv]) (.seq
 (.seq (.reg false [I_ 150 [.sl 20] .mv,I_ 151 [.sl 22] .mv,I_ 152 [.cv (.func 53 [] []),.sl 150,.sl 151] (.call 3),I_ 153 [.tk 152] .mv,⟨some 154,[.sl 22],some (153,false),none,.mv⟩,⟨some 155,[.sl 8],some (153,
 false),none,.mv⟩,⟨some 156,[.tv 154,.tv 155],some (153,false),none,.bin .eql⟩,I_ 157 [.tv 153,.cv (.bool true),.tv 156] .pick]) (.cond (.sl 157) (.seq (.reg false [I_ 6 [.cv (.bool false)] .mv]) .ret) .skip)) (.reg
 false [I_ 158 [.tk 20] .mv,I_ 159 [.tk 22] .mv,I_ 160 [.tv 159] (.buildS 1 1 [.int .i64 0] [0]),I_ 161 [.tk 158,.tk 160] (.app 1 8),I_ 20 [.tk 161] .mv])))) (.reg false [I_ 142 [.tk 21] .mv,I_ 143 [.tv 142,.cv (.int .i64
 1)] (.bin .add),I_ 21 [.tk 143] .mv])))
noncomputable def xrc13:RC :=
 .seq (.reg false [I_ 3 [.tk 0] .box,I_ 6 [.cv (.bool false)] .mv]) (.seq (.seq (.reg false [I_ 23 [.sl 3] (.ld (.str 2)),I_ 24 [.cv (.func 47 [] []),.sl 23] (.call 3),I_ 25 [.tv 24] (.un .not)]) (.cond (.sl 25) (.seq (.reg
 false [I_ 26 [.cv (.func 17 [] [])] (.call 3),I_ 6 [.tk 26] .mv]) .ret) .skip)) (.seq (.reg true [I_ 27 [.tk 1] .mv,I_ 28 [.tv 27] (.conv .i64),I_ 29 [.sl 3] (.fa 0),I_ 30 [.tv 29] (.ld .one),I_ 31 [.tv 28,.tv 30] (.bin
 .rem),I_ 32 [.tk 2] .mv,I_ 33 [.tv 32] (.conv .i64),I_ 34 [.sl 3] (.fa 0),I_ 35 [.tv 34] (.ld .one),I_ 36 [.tv 33,.tv 35] (.bin .rem),I_ 7 [.tk 31] .mv,I_ 8 [.tk 36] .mv]) (.seq (.reg false [I_ 38 [.sl 3] (.ld (.str
 2)),I_ 39 [.sl 7] .mv,I_ 40 [.sl 8] .mv,I_ 41 [.cv (.func 45 [] []),.sl 38,.sl 39,.sl 40] (.call 3),I_ 37 [.tk 41] .mv,I_ 42 [.sl 37] (.ext 0),I_ 43 [.tv 37] (.ext 1),I_ 9 [.tk 42] .mv,I_ 10 [.tk 43] .mv]) (.seq
 (.reg false [I_ 45 [.sl 3] (.ld (.str 2)),I_ 46 [.sl 8] .mv,I_ 47 [.sl 7] .mv,I_ 48 [.cv (.func 45 [] []),.sl 45,.sl 46,.sl 47] (.call 3),I_ 44 [.tk 48] .mv,I_ 49 [.sl 44] (.ext 0),I_ 50 [.tv 44] (.ext 1),I_ 11 [.tk
 49] .mv,I_ 12 [.tk 50] .mv]) (.seq (.seq (.reg false [I_ 51 [.sl 7] .mv,I_ 52 [.sl 8] .mv,I_ 53 [.tv 51,.tv 52] (.bin .eql)]) (.cond (.sl 53) (.seq (.reg false [I_ 54 [.tk 10] .mv,I_ 55 [.tv 54,.cv (.int .i64 2)] (.bin
 .eql),I_ 56 [.tk 55] .mv,⟨some 57,[.tk 12],some (56,true),none,.mv⟩,⟨some 58,[.tv 57,.cv (.int .i64 2)],some (56,true),none,.bin .eql⟩,I_ 59 [.tv 56,.tv 58,.cv (.bool false)] .pick,I_ 60 [.tk 59] .mv,⟨some
 61,[.cv (.func 17 [] [])],some (60,true),none,.call 3⟩,I_ 62 [.tv 60,.tv 61,.cv (.bool false)] .pick,I_ 6 [.tk 62] .mv]) .ret) .skip)) (.seq (.reg false [I_ 63 [.sl 3] (.ld (.str 2)),I_ 64 [.cv (.func 56 [] []),.sl
 63,.cv (.int .i64 (-1))] (.call 3),I_ 13 [.tk 64] .mv]) (.seq (.seq (.reg true [I_ 65 [.sl 10] .mv,I_ 66 [.tk 12] .mv,I_ 67 [.tv 65,.tv 66] (.bin .neq),I_ 68 [.tk 67] .mv,⟨some 69,[.sl 9],some (68,false),none,.mv⟩,
 ⟨some 70,[.tk 69],some (68,false),none,.lenS⟩,⟨some 71,[.tk 11],some (68,false),none,.mv⟩,⟨some 72,[.tk 71],some (68,false),none,.lenS⟩,⟨some 73,[.tv 70,.tv 72],some (68,false),none,.bin .neq⟩,I_ 74
 [.sl 68,.cv (.bool true),.tv 73] .pick,I_ 75 [.tk 74] .mv,⟨some 76,[.sl 9],some (75,false),none,.mv⟩,⟨some 77,[.tk 76],some (75,false),none,.lenS⟩,⟨some 78,[.sl 3],some (75,false),none,.fa 0⟩,⟨some 79,
 [.tv 78],some (75,false),none,.ld .one⟩,⟨some 80,[.tv 77,.tv 79],some (75,false),none,.bin .geq⟩,I_ 81 [.sl 75,.cv (.bool true),.tv 80] .pick,I_ 82 [.tk 81] .mv,⟨some 83,[.sl 10],some (82,false),none,.mv⟩,
 ⟨some 84,[.tv 83,.cv (.int .i64 0)],some (82,false),none,.bin .eql⟩,⟨some 85,[.sl 13],some (82,false),none,.mv⟩,⟨some 86,[.sl 7],some (82,false),none,.mv⟩,⟨some 87,[.tv 85,.tv 86],some (82,false),none,
 .ia 1⟩,⟨some 88,[.tv 87],some (82,false),none,.ld .one⟩,⟨some 89,[.sl 13],some (82,false),none,.mv⟩,⟨some 90,[.sl 8],some (82,false),none,.mv⟩,⟨some 91,[.tv 89,.tv 90],some (82,false),none,.ia 1⟩,⟨some
 92,[.tv 91],some (82,false),none,.ld .one⟩,⟨some 93,[.tv 88,.tv 92],some (82,false),none,.bin .eql⟩,⟨some 94,[.tv 84,.tv 93],some (82,false),none,.binB true⟩,I_ 95 [.sl 82,.cv (.bool true),.tv 94] .pick])
 (.cond (.sl 95) (.seq (.reg false [I_ 6 [.cv (.bool false)] .mv]) .ret) .skip)) (.seq (.seq (.reg false [I_ 96 [.sl 10] .mv,I_ 97 [.tv 96,.cv (.int .i64 0)] (.bin .neq)]) (.cond (.sl 97) (.seq (.reg false [I_ 98 [.tk 10] .mv,
 I_ 99 [.tv 98,.cv (.int .i64 5)] (.bin .eql),I_ 100 [.tk 99] .mv,⟨some 101,[.tk 9],some (100,true),none,.mv⟩,⟨some 102,[.tk 101],some (100,true),none,.lenS⟩,⟨some 103,[.tv 102,.cv (.int .i64 0)],some (100,
 true),none,.bin .eql⟩,I_ 104 [.tv 100,.tv 103,.cv (.bool false)] .pick,I_ 105 [.tk 104] .mv,⟨some 106,[.cv (.func 17 [] [])],some (105,true),none,.call 3⟩,I_ 107 [.tv 105,.tv 106,.cv (.bool false)] .pick,I_ 6
 [.tk 107] .mv]) .ret) .skip)) (.seq (.reg false [I_ 109 [.sl 3] (.ld (.str 2)),I_ 110 [.sl 9] .mv,I_ 111 [.cv (.func 18 [] []),.sl 109,.sl 110] (.call 3),I_ 108 [.tk 111] .mv,I_ 112 [.sl 108] (.ext 0),I_ 113 [.sl 108]
 (.ext 1),I_ 114 [.tv 108] (.ext 2),I_ 14 [.tk 112] .mv,I_ 15 [.tk 113] .mv,I_ 16 [.tk 114] .mv]) (.seq (.reg false [I_ 116 [.sl 3] (.ld (.str 2)),I_ 117 [.sl 9] .mv,I_ 118 [.cv (.func 19 [] []),.sl 116,.sl 117] (.call
 3),I_ 115 [.tk 118] .mv,I_ 119 [.sl 115] (.ext 0),I_ 120 [.sl 115] (.ext 1),I_ 121 [.tv 115] (.ext 2),I_ 17 [.tk 119] .mv,I_ 18 [.tk 120] .mv,I_ 19 [.tk 121] .mv]) (.seq (.seq (.reg false [I_ 122 [.tk 16] .mv,I_ 123
 [.tv 122,.cv (.int .i64 0)] (.bin .neq),I_ 124 [.tk 123] .mv,⟨some 125,[.tk 19],some (124,false),none,.mv⟩,⟨some 126,[.tv 125,.cv (.int .i64 0)],some (124,false),none,.bin .neq⟩,I_ 127 [.tv 124,.cv (.bool
 true),.tv 126] .pick,I_ 128 [.tk 127] .mv,⟨some 129,[.tk 14],some (128,false),none,.mv⟩,⟨some 130,[.tk 7],some (128,false),none,.mv⟩,⟨some 131,[.tv 129,.tv 130],some (128,false),none,.bin .neq⟩,I_ 132 [.tv
 128,.cv (.bool true),.tv 131] .pick,I_ 133 [.tk 132] .mv,⟨some 134,[.tk 15],some (133,false),none,.mv⟩,⟨some 135,[.sl 8],some (133,false),none,.mv⟩,⟨some 136,[.tv 134,.tv 135],some (133,false),none,.bin
 .neq⟩,I_ 137 [.tv 133,.cv (.bool true),.tv 136] .pick]) (.cond (.sl 137) (.seq (.reg false [I_ 6 [.cv (.bool false)] .mv]) .ret) .skip)) (.seq (.reg false [I_ 20 [.cv (.lst [] 0 .full)] (.nil 1)]) (.seq (.seq (.reg false [I_
 21 [.cv (.int .i64 0)] .mv]) (.block 0 xrc13_1)) (.seq (.reg false [I_ 162 [.cv (.func 17 [] [])] (.call 3),I_ 6 [.tk 162] .mv]) .ret))))))))))))))
theorem lxx13:linkF Tryz.prog ann13 13=some (xrc13,163,[.tmp 6]):=by kernel_rfl
def x13_l1 (b:(Int×(List (Int×Int)))) (two:Int) (r2:((List (Int×Int))×Int)) (kl1_0:Unit→Option Bool):Nat→(List Int)→Int→Option Bool
 | 0,_,_=>none
 | m+1,s1,s2 =>
   if (decide (s2<(r2.1.length:Int)))=true then
    gd (0≤s2∧s2<(r2.1.length:Int)) <|
    (x57 b (ix r2.1 s2)).bind fun r9 =>
    (x53 s1 r9).bind fun r10 =>
    if r10=true then
     some false
    else
     if (decide (r9=((w two).tmod b.1)))=true then
      some false
     else
      gd ((s1.length+1)*8≤140737488355328) <|
      x13_l1 b two r2 kl1_0 m (s1++[r9]) (w (s2+(1:Int)))
   else
    kl1_0 ()
def x13 (b:(Int×(List (Int×Int)))) (one:Int) (two:Int):Option Bool :=
 (x47 b).bind fun r1 =>
 if r1=true then
  gd (b.1≠0) <|
  gd (b.1≠0) <|
  (x45 b ((w one).tmod b.1) ((w two).tmod b.1)).bind fun r2 =>
  (x45 b ((w two).tmod b.1) ((w one).tmod b.1)).bind fun r3 =>
  if (decide (((w one).tmod b.1)=((w two).tmod b.1)))=true then
   if (decide (r2.2=(2:Int)))=true then
    if (decide (r3.2=(2:Int)))=true then
     (x17).bind fun r4 =>
     some r4
    else
     some false
   else
    some false
  else
   (x56 b (-1:Int)).bind fun r5 =>
   if (decide (r2.2≠r3.2))=true then
    some false
   else
    if (decide ((r2.1.length:Int)≠(r3.1.length:Int)))=true then
     some false
    else
     if (decide (b.1≤(r2.1.length:Int)))=true then
      some false
     else
      gd (0≤((w one).tmod b.1)∧((w one).tmod b.1)<(r5.length:Int)) <|
      gd (0≤((w two).tmod b.1)∧((w two).tmod b.1)<(r5.length:Int)) <|
      if ((decide (r2.2=(0:Int))) == (decide ((ix r5 ((w one).tmod b.1))=(ix r5 ((w two).tmod b.1)))))=true then
       if (decide (r2.2≠(0:Int)))=true then
        if (decide (r2.2=(5:Int)))=true then
         if (decide ((r2.1.length:Int)=(0:Int)))=true then
          (x17).bind fun r6 =>
          some r6
         else
          some false
        else
         some false
       else
        (x18 b r2.1).bind fun r7 =>
        (x19 b r2.1).bind fun r8 =>
        if (decide (r7.2.2≠(0:Int)))=true then
         some false
        else
         if (decide (r8.2.2≠(0:Int)))=true then
          some false
         else
          if (decide (r7.1≠((w one).tmod b.1)))=true then
           some false
          else
           if (decide (r7.2.1≠((w two).tmod b.1)))=true then
            some false
           else
            x13_l1 b two r2 (fun _ =>
              (x17).bind fun r11 =>
              some r11) FU ([]:List Int) (0:Int)
      else
       some false
 else
  (x17).bind fun r12 =>
  some r12
theorem x13_l1_ok {b:(Int×(List (Int×Int)))} {two:Int} {r2:((List (Int×Int))×Int)} {kl1_0:Unit→Option Bool} {s1:(List Int)} {s2:Int} {v:Bool} {Q:Ex→List AV→List AObj→Prop}   {cp20:Cap} (hR:∀ T H,RetW [.tmp 6] (B v) .ret T H→Q .ret T H) (hkl1_0:∀ (u0:AV) (u1:AV) (u2:AV) (u3:AV) (u6:AV) (u7:AV) (u8:AV) (u9:AV) (u10:AV) (u11:AV) (u12:AV) (u13:AV) (u14:AV) (u15:AV) (u16:AV) (u17:AV) (u18:AV) (u19:AV) (u20:AV) (u21:AV) (u22:AV) (u23:AV) (u24:AV) (u25:AV) (u26:AV) (u27:AV) (u28:AV) (u29:AV) (u30:AV) (u31:AV) (u32:AV) (u33:AV) (u34:AV) (u35:AV) (u36:AV) (u37:AV) (u38:AV) (u39:AV) (u40:AV) (u41:AV) (u42:AV) (u43:AV) (u44:AV) (u45:AV) (u46:AV) (u47:AV) (u48:AV) (u49:AV) (u50:AV) (u51:AV) (u52:AV) (u53:AV) (u54:AV) (u55:AV) (u56:AV) (u57:AV) (u58:AV) (u59:AV) (u60:AV) (u61:AV) (u62:AV) (u63:AV) (u64:AV) (u65:AV) (u66:AV) (u67:AV) (u68:AV) (u69:AV) (u70:AV) (u71:AV) (u72:AV) (u73:AV) (u74:AV) (u75:AV) (u76:AV) (u77:AV) (u78:AV) (u79:AV) (u80:AV) (u81:AV) (u82:AV) (u83:AV) (u84:AV) (u85:AV) (u86:AV) (u87:AV) (u88:AV) (u89:AV) (u90:AV) (u91:AV) (u92:AV) (u93:AV) (u94:AV) (u95:AV) (u96:AV) (u97:AV) (u98:AV) (u99:AV) (u100:AV) (u101:AV) (u102:AV) (u103:AV) (u104:AV) (u105:AV) (u106:AV) (u107:AV) (u108:AV) (u109:AV) (u110:AV) (u111:AV) (u112:AV) (u113:AV) (u114:AV) (u115:AV) (u116:AV) (u117:AV) (u118:AV) (u119:AV) (u120:AV) (u121:AV) (u122:AV) (u123:AV) (u124:AV) (u125:AV) (u126:AV) (u127:AV) (u128:AV) (u129:AV) (u130:AV) (u131:AV) (u132:AV) (u133:AV) (u134:AV) (u135:AV) (u136:AV) (u137:AV) (u138:AV) (u139:AV) (u140:AV) (u141:AV) (u142:AV) (u143:AV) (u144:AV) (u145:AV) (u146:AV) (u147:AV) (u148:AV) (u149:AV) (u150:AV) (u151:AV) (u152:AV) (u153:AV) (u154:AV) (u155:AV) (u156:AV) (u157:AV) (u158:AV) (u159:AV) (u160:AV) (u161:AV) (u162:AV) (o1:AObj),kl1_0 ()=some v→Q (.exit 0) [u0,u1,u2,u3,J,J,u6,u7,u8,u9,u10,u11,u12,u13,u14,u15,u16,u17,u18,u19,u20,u21,u22,u23,u24,u25,u26,u27,u28,u29,u30,u31,u32,u33,u34,u35,u36,u37,u38,u39,u40,u41,u42,u43,u44,u45,u46,u47,u48,u49,u50,u51,u52,u53,u54,u55,u56,u57,u58,u59,u60,u61,u62,u63,u64,u65,u66,u67,u68,u69,u70,u71,u72,u73,u74,u75,u76,u77,u78,u79,u80,u81,u82,u83,u84,u85,u86,u87,u88,u89,u90,u91,u92,u93,u94,u95,u96,u97,u98,u99,u100,u101,u102,u103,u104,u105,u106,u107,u108,u109,u110,u111,u112,u113,u114,u115,u116,u117,u118,u119,u120,u121,u122,u123,u124,u125,u126,u127,u128,u129,u130,u131,u132,u133,u134,u135,u136,u137,u138,u139,u140,u141,u142,u143,u144,u145,u146,u147,u148,u149,u150,u151,u152,u153,u154,u155,u156,u157,u158,u159,u160,u161,u162] [o1]) (hcp20:(cp20=(.uniq 1)∨cp20=(.own 1))) {T:List AV} (hT:zipKeep [o_,o_,o_,i_,o_,o_,o_,o_,i_,i_,o_,o_,o_,o_,o_,o_,o_,o_,o_,o_,i_,i_,o_,o_,o_,o_,o_,o_,o_,o_,o_,o_,o_,o_,o_,o_,o_,o_,o_,o_,o_,o_,o_,o_,o_,o_,o_,o_,o_,o_,o_,o_,o_,o_,o_,o_,o_,o_,o_,o_,o_,o_,o_,o_,o_,o_,o_,o_,o_,o_,o_,o_,o_,o_,o_,o_,o_,o_,o_,o_,o_,o_,o_,o_,o_,o_,o_,o_,o_,o_,o_,o_,o_,o_,o_,o_,o_,o_,o_,o_,o_,o_,o_,o_,o_,o_,o_,o_,o_,o_,o_,o_,o_,o_,o_,o_,o_,o_,o_,o_,o_,o_,o_,o_,o_,o_,o_,o_,o_,o_,o_,o_,o_,o_,o_,o_,o_,o_,o_,o_,o_,o_,o_,o_,o_,o_,o_,o_,o_,o_,o_,o_,o_,o_,o_,o_,o_,o_,o_,o_,o_,o_,o_] T=slots 163 [(3,(.ptr 0 0)),(8,(I ((w two).tmod b.1))),(9,(.lst (r2.1.flatMap pr) r2.1.length .shared)),(20,(.lst (s1.map I) s1.length cp20)),(21,(I s2))]) (h:x13_l1 b two r2 kl1_0 FU s1 s2=some v) :
  wpR Tryz.prog ann13 13 0 none xrc13_1 T [AObj.cells [(I b.1),(.lst (b.2.flatMap pr) b.2.length .shared)]] Q:=by
 unfold xrc13_1
 skip
 refine wp_loop hT ?_
 refine .intro (fun m T H=>∃ (s1:(List Int)) (s2:Int) (cp20:Cap),(cp20=(.uniq 1)∨cp20=(.own 1))∧T=slots 163 [(3,(.ptr 0 0)),(8,(I ((w two).tmod b.1))),(9,(.lst (r2.1.flatMap pr) r2.1.length .shared)),(20,(.lst (s1.map I) s1.length cp20)),(21,(I s2))]∧H=[AObj.cells [(I b.1),(.lst (b.2.flatMap pr) b.2.length .shared)]]∧x13_l1 b two r2 kl1_0 m s1 s2=some v) FU ⟨s1,s2,_,hcp20,rfl,rfl,h⟩ ?_
 clear h hT
 rintro m T H ⟨s1,s2,cp20,hcp20,rfl,rfl,h⟩
 cases m
 ·exact none_ne h
 rename_i m
 rw [x13_l1.eq_2] at h
 rcases hcp20 with rfl | rfl
 ·conv=>whnf
  rcases bt (decide (s2<(r2.1.length:Int))) with hb27 | hb27
  ·rw [hb27]
   conv=>whnf
   replace h:=it_t hb27 h
   obtain ⟨hb28,h⟩:=gd_some h
   refine ⟨hb28,?_⟩
   rw [dropS pr 2 pr_len r2.1 s2 hb28]
   conv=>whnf
   obtain ⟨r9,hb29,h⟩:=bd_some h
   refine ⟨(allc (pu_agg (allc rfl (allc (pu_flat (fun _=>(allc rfl (allc rfl rfl))) _ _ _) rfl))) (allc (pu_agg (allc rfl (allc rfl rfl))) rfl)),_,x57_ok hb29,acc0,?_⟩
   conv=>whnf
   obtain ⟨r10,hb30,h⟩:=bd_some h
   refine ⟨(allc (pu_map (fun _=>rfl) _ _ _) (allc rfl rfl)),_,x53_ok hb30,?_⟩
   conv=>whnf
   cases r10
   ·conv=>whnf
    replace h:=it_f rfl h
    rcases bt (decide (r9=((w two).tmod b.1))) with hb31 | hb31
    ·rw [hb31]
     conv=>whnf
     replace h:=it_t hb31 h
     obtain rfl:=Option.some.inj h
     exact hR _ _ ⟨.inr rfl,_,rfl,_,frz_pure rfl,rfl⟩
    ·rw [hb31]
     conv=>whnf
     replace h:=it_f hb31 h
     obtain ⟨hb32,h⟩:=gd_some h
     refine ⟨by first | rfl | simp,by have:=hb32;omega,rfl,hb32,?_⟩
     erw [apnd1 I s1 r9]
     conv=>whnf
     exact ⟨m,Nat.lt_succ_self m,(s1++[r9]),(w (s2+(1:Int))),_,(.inr rfl),rfl,rfl,h⟩
   ·conv=>whnf
    replace h:=it_t rfl h
    obtain rfl:=Option.some.inj h
    exact hR _ _ ⟨.inr rfl,_,rfl,_,frz_pure rfl,rfl⟩
  ·rw [hb27]
   conv=>whnf
   replace h:=it_f hb27 h
   exact hkl1_0 _ _ _ _ _ _ _ _ _ _ _ _ _ _ _ _ _ _ _ _ _ _ _ _ _ _ _ _ _ _ _ _ _ _ _ _ _ _ _ _ _ _ _ _ _ _ _ _ _ _ _ _ _ _ _ _ _ _ _ _ _ _ _ _ _ _ _ _ _ _ _ _ _ _ _ _ _ _ _ _ _ _ _ _ _ _ _ _ _ _ _ _ _ _ _ _ _ _ _ _ _ _ _ _ _ _ _ _ _ _ _ _ _ _ _ _ _ _ _ _ _ _ _ _ _ _ _ _ _ _ _ _ _ _ _ _ _ _ _ _ _ _ _ _ _ _ _ _ _ _ _ _ _ _ _ _ _ _ _ _ _ _ h
 ·conv=>whnf
  rcases bt (decide (s2<(r2.1.length:Int))) with hb27 | hb27
  ·rw [hb27]
   conv=>whnf
   replace h:=it_t hb27 h
   obtain ⟨hb28,h⟩:=gd_some h
   refine ⟨hb28,?_⟩
   rw [dropS pr 2 pr_len r2.1 s2 hb28]
   conv=>whnf
   obtain ⟨r9,hb29,h⟩:=bd_some h
   refine ⟨(allc (pu_agg (allc rfl (allc (pu_flat (fun _=>(allc rfl (allc rfl rfl))) _ _ _) rfl))) (allc (pu_agg (allc rfl (allc rfl rfl))) rfl)),_,x57_ok hb29,acc0,?_⟩
   conv=>whnf
   obtain ⟨r10,hb30,h⟩:=bd_some h
   refine ⟨(allc (pu_map (fun _=>rfl) _ _ _) (allc rfl rfl)),_,x53_ok hb30,?_⟩
   conv=>whnf
   cases r10
   ·conv=>whnf
    replace h:=it_f rfl h
    rcases bt (decide (r9=((w two).tmod b.1))) with hb31 | hb31
    ·rw [hb31]
     conv=>whnf
     replace h:=it_t hb31 h
     obtain rfl:=Option.some.inj h
     exact hR _ _ ⟨.inr rfl,_,rfl,_,frz_pure rfl,rfl⟩
    ·rw [hb31]
     conv=>whnf
     replace h:=it_f hb31 h
     obtain ⟨hb32,h⟩:=gd_some h
     refine ⟨by first | rfl | simp,by have:=hb32;omega,rfl,hb32,?_⟩
     erw [apnd1 I s1 r9]
     conv=>whnf
     exact ⟨m,Nat.lt_succ_self m,(s1++[r9]),(w (s2+(1:Int))),_,(.inr rfl),rfl,rfl,h⟩
   ·conv=>whnf
    replace h:=it_t rfl h
    obtain rfl:=Option.some.inj h
    exact hR _ _ ⟨.inr rfl,_,rfl,_,frz_pure rfl,rfl⟩
  ·rw [hb27]
   conv=>whnf
   replace h:=it_f hb27 h
   exact hkl1_0 _ _ _ _ _ _ _ _ _ _ _ _ _ _ _ _ _ _ _ _ _ _ _ _ _ _ _ _ _ _ _ _ _ _ _ _ _ _ _ _ _ _ _ _ _ _ _ _ _ _ _ _ _ _ _ _ _ _ _ _ _ _ _ _ _ _ _ _ _ _ _ _ _ _ _ _ _ _ _ _ _ _ _ _ _ _ _ _ _ _ _ _ _ _ _ _ _ _ _ _ _ _ _ _ _ _ _ _ _ _ _ _ _ _ _ _ _ _ _ _ _ _ _ _ _ _ _ _ _ _ _ _ _ _ _ _ _ _ _ _ _ _ _ _ _ _ _ _ _ _ _ _ _ _ _ _ _ _ _ _ _ _ h
theorem x13_ok {b:(Int×(List (Int×Int)))} {one:Int} {two:Int} {v:Bool} (h:x13 b one two=some v):PO 13 [(.agg [(I b.1),(.lst (b.2.flatMap pr) b.2.length .shared)]),(U8 one),(U8 two)] (B v):=by
 refine fn_pureW hmix lxx13 rfl rfl fun Q hQ=>?_
 have hR:∀ T H,RetW [.tmp 6] (B v) .ret T H→Q .ret T H:=fun T H hh=>hQ _ T H hh
 unfold x13 at h
 unfold xrc13
 obtain ⟨c_1,g_1⟩:∃ c,xrc13_1=c:=⟨_,rfl⟩
 rw [g_1]
 conv=>whnf
 obtain ⟨r1,hb1,h⟩:=bd_some h
 refine ⟨(allc (pu_agg (allc rfl (allc (pu_flat (fun _=>(allc rfl (allc rfl rfl))) _ _ _) rfl))) rfl),_,x47_ok hb1,?_⟩
 conv=>whnf
 cases r1
 ·conv=>whnf
  replace h:=it_f rfl h
  obtain ⟨r12,hb34,h⟩:=bd_some h
  refine ⟨rfl,_,x17_ok hb34,?_⟩
  conv=>whnf
  obtain rfl:=Option.some.inj h
  exact hR _ _ ⟨.inr rfl,_,rfl,_,frz_pure rfl,rfl⟩
 ·conv=>whnf
  replace h:=it_t rfl h
  obtain ⟨hb2,h⟩:=gd_some h
  refine ⟨hb2,?_⟩
  conv=>whnf
  obtain ⟨hb3,h⟩:=gd_some h
  refine ⟨hb3,?_⟩
  conv=>whnf
  obtain ⟨r2,hb4,h⟩:=bd_some h
  refine ⟨(allc (pu_agg (allc rfl (allc (pu_flat (fun _=>(allc rfl (allc rfl rfl))) _ _ _) rfl))) (allc rfl (allc rfl rfl))),_,x45_ok hb4,?_⟩
  conv=>whnf
  obtain ⟨r3,hb5,h⟩:=bd_some h
  refine ⟨(allc (pu_agg (allc rfl (allc (pu_flat (fun _=>(allc rfl (allc rfl rfl))) _ _ _) rfl))) (allc rfl (allc rfl rfl))),_,x45_ok hb5,?_⟩
  conv=>whnf
  rcases bt (decide (((w one).tmod b.1)=((w two).tmod b.1))) with hb6 | hb6
  ·rw [hb6]
   conv=>whnf
   replace h:=it_t hb6 h
   rcases bt (decide (r2.2=(2:Int))) with hb7 | hb7
   ·rw [hb7]
    conv=>whnf
    replace h:=it_t hb7 h
    rcases bt (decide (r3.2=(2:Int))) with hb8 | hb8
    ·rw [hb8]
     conv=>whnf
     replace h:=it_t hb8 h
     obtain ⟨r4,hb9,h⟩:=bd_some h
     refine ⟨rfl,_,x17_ok hb9,?_⟩
     conv=>whnf
     obtain rfl:=Option.some.inj h
     exact hR _ _ ⟨.inr rfl,_,rfl,_,frz_pure rfl,rfl⟩
    ·rw [hb8]
     conv=>whnf
     replace h:=it_f hb8 h
     obtain rfl:=Option.some.inj h
     exact hR _ _ ⟨.inr rfl,_,rfl,_,frz_pure rfl,rfl⟩
   ·rw [hb7]
    conv=>whnf
    replace h:=it_f hb7 h
    obtain rfl:=Option.some.inj h
    exact hR _ _ ⟨.inr rfl,_,rfl,_,frz_pure rfl,rfl⟩
  ·rw [hb6]
   conv=>whnf
   replace h:=it_f hb6 h
   obtain ⟨r5,hb10,h⟩:=bd_some h
   refine ⟨(allc (pu_agg (allc rfl (allc (pu_flat (fun _=>(allc rfl (allc rfl rfl))) _ _ _) rfl))) (allc rfl rfl)),_,x56_ok hb10,?_⟩
   conv=>whnf
   rcases bt (decide (r2.2≠r3.2)) with hb11 | hb11
   ·rw [hb11]
    conv=>whnf
    replace h:=it_t hb11 h
    obtain rfl:=Option.some.inj h
    exact hR _ _ ⟨.inr rfl,_,rfl,_,frz_pure rfl,rfl⟩
   ·rw [hb11]
    conv=>whnf
    replace h:=it_f hb11 h
    rcases bt (decide ((r2.1.length:Int)≠(r3.1.length:Int))) with hb12 | hb12
    ·rw [hb12]
     conv=>whnf
     replace h:=it_t hb12 h
     obtain rfl:=Option.some.inj h
     exact hR _ _ ⟨.inr rfl,_,rfl,_,frz_pure rfl,rfl⟩
    ·rw [hb12]
     conv=>whnf
     replace h:=it_f hb12 h
     rcases bt (decide (b.1≤(r2.1.length:Int))) with hb13 | hb13
     ·rw [hb13]
      conv=>whnf
      replace h:=it_t hb13 h
      obtain rfl:=Option.some.inj h
      exact hR _ _ ⟨.inr rfl,_,rfl,_,frz_pure rfl,rfl⟩
     ·rw [hb13]
      conv=>whnf
      replace h:=it_f hb13 h
      obtain ⟨hb14,h⟩:=gd_some h
      refine ⟨hb14,?_⟩
      rw [drop1 I r5 ((w one).tmod b.1) hb14]
      conv=>whnf
      obtain ⟨hb15,h⟩:=gd_some h
      refine ⟨hb15,?_⟩
      rw [drop1 I r5 ((w two).tmod b.1) hb15]
      conv=>whnf
      rcases bt ((decide (r2.2=(0:Int))) == (decide ((ix r5 ((w one).tmod b.1))=(ix r5 ((w two).tmod b.1))))) with hb16 | hb16
      ·rw [hb16]
       conv=>whnf
       replace h:=it_t hb16 h
       rcases bt (decide (r2.2≠(0:Int))) with hb17 | hb17
       ·rw [hb17]
        conv=>whnf
        replace h:=it_t hb17 h
        rcases bt (decide (r2.2=(5:Int))) with hb18 | hb18
        ·rw [hb18]
         conv=>whnf
         replace h:=it_t hb18 h
         rcases bt (decide ((r2.1.length:Int)=(0:Int))) with hb19 | hb19
         ·rw [hb19]
          conv=>whnf
          replace h:=it_t hb19 h
          obtain ⟨r6,hb20,h⟩:=bd_some h
          refine ⟨rfl,_,x17_ok hb20,?_⟩
          conv=>whnf
          obtain rfl:=Option.some.inj h
          exact hR _ _ ⟨.inr rfl,_,rfl,_,frz_pure rfl,rfl⟩
         ·rw [hb19]
          conv=>whnf
          replace h:=it_f hb19 h
          obtain rfl:=Option.some.inj h
          exact hR _ _ ⟨.inr rfl,_,rfl,_,frz_pure rfl,rfl⟩
        ·rw [hb18]
         conv=>whnf
         replace h:=it_f hb18 h
         obtain rfl:=Option.some.inj h
         exact hR _ _ ⟨.inr rfl,_,rfl,_,frz_pure rfl,rfl⟩
       ·rw [hb17]
        conv=>whnf
        replace h:=it_f hb17 h
        obtain ⟨r7,hb21,h⟩:=bd_some h
        refine ⟨(allc (pu_agg (allc rfl (allc (pu_flat (fun _=>(allc rfl (allc rfl rfl))) _ _ _) rfl))) (allc (pu_flat (fun _=>(allc rfl (allc rfl rfl))) _ _ _) rfl)),_,x18_ok hb21,?_⟩
        conv=>whnf
        obtain ⟨r8,hb22,h⟩:=bd_some h
        refine ⟨(allc (pu_agg (allc rfl (allc (pu_flat (fun _=>(allc rfl (allc rfl rfl))) _ _ _) rfl))) (allc (pu_flat (fun _=>(allc rfl (allc rfl rfl))) _ _ _) rfl)),_,x19_ok hb22,?_⟩
        conv=>whnf
        rcases bt (decide (r7.2.2≠(0:Int))) with hb23 | hb23
        ·rw [hb23]
         conv=>whnf
         replace h:=it_t hb23 h
         obtain rfl:=Option.some.inj h
         exact hR _ _ ⟨.inr rfl,_,rfl,_,frz_pure rfl,rfl⟩
        ·rw [hb23]
         conv=>whnf
         replace h:=it_f hb23 h
         rcases bt (decide (r8.2.2≠(0:Int))) with hb24 | hb24
         ·rw [hb24]
          conv=>whnf
          replace h:=it_t hb24 h
          obtain rfl:=Option.some.inj h
          exact hR _ _ ⟨.inr rfl,_,rfl,_,frz_pure rfl,rfl⟩
         ·rw [hb24]
          conv=>whnf
          replace h:=it_f hb24 h
          rcases bt (decide (r7.1≠((w one).tmod b.1))) with hb25 | hb25
          ·rw [hb25]
           conv=>whnf
           replace h:=it_t hb25 h
           obtain rfl:=Option.some.inj h
           exact hR _ _ ⟨.inr rfl,_,rfl,_,frz_pure rfl,rfl⟩
          ·rw [hb25]
           conv=>whnf
           replace h:=it_f hb25 h
           rcases bt (decide (r7.2.1≠((w two).tmod b.1))) with hb26 | hb26
           ·rw [hb26]
            conv=>whnf
            replace h:=it_t hb26 h
            obtain rfl:=Option.some.inj h
            exact hR _ _ ⟨.inr rfl,_,rfl,_,frz_pure rfl,rfl⟩
           ·rw [hb26]
            conv=>whnf
            replace h:=it_f hb26 h
            subst g_1
            refine x13_l1_ok ?_ ?_ (.inl rfl) (by exact rfl) h
            ·exact fun T H hh=>hR T H hh
            ·intro u0 u1 u2 u3 u6 u7 u8 u9 u10 u11 u12 u13 u14 u15 u16 u17 u18 u19 u20 u21 u22 u23 u24 u25 u26 u27 u28 u29 u30 u31 u32 u33 u34 u35 u36 u37 u38 u39 u40 u41 u42 u43 u44 u45 u46 u47 u48 u49 u50 u51 u52 u53 u54 u55 u56 u57 u58 u59 u60 u61 u62 u63 u64 u65 u66 u67 u68 u69 u70 u71 u72 u73 u74 u75 u76 u77 u78 u79 u80 u81 u82 u83 u84 u85 u86 u87 u88 u89 u90 u91 u92 u93 u94 u95 u96 u97 u98 u99 u100 u101 u102 u103 u104 u105 u106 u107 u108 u109 u110 u111 u112 u113 u114 u115 u116 u117 u118 u119 u120 u121 u122 u123 u124 u125 u126 u127 u128 u129 u130 u131 u132 u133 u134 u135 u136 u137 u138 u139 u140 u141 u142 u143 u144 u145 u146 u147 u148 u149 u150 u151 u152 u153 u154 u155 u156 u157 u158 u159 u160 u161 u162 o1 h
             conv=>whnf
             obtain ⟨r11,hb33,h⟩:=bd_some h
             refine ⟨rfl,_,x17_ok hb33,?_⟩
             conv=>whnf
             obtain rfl:=Option.some.inj h
             exact hR _ _ ⟨.inr rfl,_,rfl,_,frz_pure rfl,rfl⟩
      ·rw [hb16]
       conv=>whnf
       replace h:=it_f hb16 h
       obtain rfl:=Option.some.inj h
       exact hR _ _ ⟨.inr rfl,_,rfl,_,frz_pure rfl,rfl⟩
end Go.Proofs.YtfakoboiahbhaaaGreat.Ab


namespace Go.Proofs.YtfakoboiahbhaaaGreat.Ab
open Go
structure ChainR (b:Bk) (D:List Int) (n:Nat) (f t:Int) (r:Row):Prop where
 len:r.length=n
 run:runGo b f r=some t
 ok:∀ p∈r,strayP b p=false∧ix D (beg b p)≤(n:Int)∧1≤ix D (beg b p)∧ix D (fin b p)=ix D (beg b p)-1
 down:r.Pairwise fun p q=>ix D (beg b q)<ix D (beg b p)
 first:∀ p l,r=p::l→beg b p=f
theorem chainP_is {b:Bk} (hB:Book b) {t:Int} {D:List Int} (hD:FarD b (-1) t D):∀ (n:Nat) (f:Int),0≤f→f<b.1→ix D f=(n:Int)→ChainR b D n f t (chainP b D n f)
 | 0,f,h1,h2,h3=>by
   have h6:=hB.f6
   have hw:=hD.walk f.toNat (by omega) (by rw [Int.toNat_of_nonneg h1];omega)
   rw [Int.toNat_of_nonneg h1,h3] at hw
   have hw:t=f:=hw
   exact ⟨rfl,by rw [chainP,runGo,hw],fun p hp=>absurd hp (by simp [chainP]),by simp [chainP],fun p l h=>by simp [chainP] at h⟩
 | n+1,f,h1,h2,h3=>by
   have h6:=hB.f6
   obtain ⟨p,p1,_,p2⟩:=near_ex hB hD ⟨h1,by omega⟩ h3
   rw [chainP]
   cases hq:(places b f).find? (nr b D f) with
   | none=>exact absurd (decide_eq_true (by rw [p2,h3];omega)) (List.find?_eq_none.1 hq p p1)
   | some q =>
     have q1:=List.mem_of_find?_eq_some hq
     have q2:ix D (fin b q)=ix D f-1:=of_decide_eq_true (p:=ix D (fin b q)=ix D f-1) (List.find?_some (p:=nr b D f) hq)
     have q3:=fin_in hB q1
     have q4:=places_in q1
     have ih:=chainP_is hB hD n (fin b q) q3.1 q3.2 (by rw [q2,h3];omega)
     dsimp only
     refine ⟨by simp [ih.len],?_,fun x hx=>?_,List.pairwise_cons.2 ⟨fun x hx=>?_,ih.down⟩,fun x l hx=>?_⟩
     ·rw [runGo,if_pos q4.2.2.2.2,ih.run]
     ·rcases List.mem_cons.1 hx with rfl | hx
      ·exact ⟨strayP_false.2 ⟨q4.1,q4.2.1,q4.2.2.1,q4.2.2.2.1⟩,by rw [q4.2.2.2.2,h3];omega,by rw [q4.2.2.2.2,h3];omega,by rw [q4.2.2.2.2,q2]⟩
      ·have:=ih.ok x hx;exact ⟨this.1,by omega,this.2.2.1,this.2.2.2⟩
     ·have:=ih.ok x hx;rw [q4.2.2.2.2,h3];omega
     ·simp only [List.cons.injEq] at hx;obtain ⟨rfl,_⟩:=hx;exact q4.2.2.2.2
theorem dupGo_of:∀ (r pre:Row),(∀ p∈pre,∀ q∈r,p.1≠q.1)→r.Pairwise (fun p q=>p.1≠q.1)→dupGo pre r=false
 | [],_,_,_=>rfl
 | p::r,pre,h1,h2=>by
   have h2:=List.pairwise_cons.1 h2
   rw [dupGo,if_neg]
   ·refine dupGo_of r (pre++[p]) (fun x hx q hq=>?_) h2.2
    rcases List.mem_append.1 hx with hx | hx
    ·exact h1 x hx q (by simp [hq])
    ·simp only [List.mem_singleton] at hx;subst hx;exact h2.1 q hq
   ·intro e
    obtain ⟨x,hx,e⟩:=List.any_eq_true.1 e
    exact h1 x hx p (by simp) (of_decide_eq_true e)
theorem ChainR.check {b:Bk} (hB:Book b) {D:List Int} {n:Nat} {f t:Int} {r:Row} (h:ChainR b D n f t r) (hn:0<n):checkRow b r=(f,t,0):=by
 cases r with
 | nil=>exact absurd h.len (by simp;omega)
 | cons p l =>
   have hf:=h.first p l rfl
   unfold checkRow
   rw [if_neg (by simp [bkErr_zero.2 hB])]
   dsimp only
   rw [if_neg,if_neg,hf,h.run]
   ·rw [dupGo_of (p::l) [] (fun x hx=>absurd hx (by simp)) (h.down.imp_of_mem fun {x y} hx hy hxy e=>?_)]
    ·decide
    ·have ox:=h.ok x hx;have oy:=h.ok y hy
     rcases ends_of (b:=b) e.symm with e2 | e2 <;> rw [e2] at oy <;> omega
   ·intro e
    obtain ⟨x,hx,e⟩:=List.any_eq_true.1 e
    rw [(h.ok x hx).1] at e;exact absurd e (by decide)
theorem far_sym {b:Bk} {wo f t:Int} {D D2:List Int} (h1:FarD b wo t D) (h2:FarD b wo f D2) (hf:0≤f∧f<6) (ht:0≤t∧t<6):(ix D f<0∧ix D2 t<0)∨(ix D f=ix D2 t∧0≤ix D f):=by
 have a:0≤ix D f→0≤ix D2 t∧ix D2 t≤ix D f:=fun h=>by
  have:=h1.walk f.toNat (by omega) (by rw [Int.toNat_of_nonneg hf.1];exact h)
  rw [Int.toNat_of_nonneg hf.1] at this
  have:=h2.least _ t this.symm;omega
 have c:0≤ix D2 t→0≤ix D f∧ix D f≤ix D2 t:=fun h=>by
  have:=h2.walk t.toNat (by omega) (by rw [Int.toNat_of_nonneg ht.1];exact h)
  rw [Int.toNat_of_nonneg ht.1] at this
  have:=h1.least _ f this.symm;omega
 by_cases h:0≤ix D f
 ·have:=a h;have:=c this.1;exact .inr (by omega)
 ·by_cases h':0≤ix D2 t
  ·exact absurd (c h').1 h
  ·exact .inl (by omega)
theorem far_cn {b:Bk} {wo f t:Int} {D:List Int} (h:FarD b wo t D) (hf:0≤f∧f<6):0≤ix D f↔Cn b wo f t:=by
 refine ⟨fun h1=>?_,fun ⟨n,hn⟩=>(h.least n f hn.symm).2.2.1⟩
 have:=h.walk f.toNat (by omega) (by rw [Int.toNat_of_nonneg hf.1];exact h1)
 rw [Int.toNat_of_nonneg hf.1] at this
 exact ⟨_,this.symm⟩
theorem x53_l1_eq {l:List Int} {n:Int} (hl:l.length≤1000):∀ (m i:Nat) (z:Int),z=i→i≤l.length→l.length-i<m→x53_l1 l n (fun _=>some false) m z=some ((l.drop i).any fun x=>decide (x=n))
 | 0,i,_,_,_,h=>absurd h (by omega)
 | m+1,i,_,rfl,hi,hm=>by
   rw [x53_l1]
   by_cases h:i<l.length
   ·rw [iflt h,gdi h,ix_nat h,List.drop_eq_getElem_cons h,List.any_cons]
    by_cases h1:l[i]=n
    ·rw [if_pos (decide_eq_true h1),decide_eq_true h1,Bool.true_or]
    ·rw [if_neg (by simpa using h1),decide_eq_false h1,Bool.false_or,w_succ i (by omega),x53_l1_eq hl m (i+1) _ rfl (by omega) (by omega)]
   ·rw [ifge h,List.drop_eq_nil_of_le (by omega)];rfl
theorem x53_eq (l:List Int) (n:Int) (hl:l.length≤1000):x53 l n=some (l.any fun x=>decide (x=n)):=by
 rw [x53,x53_l1_eq hl FU 0 0 rfl (Nat.zero_le _) (FU_lt (by omega)),List.drop_zero]
theorem x13_l1_eq {b:Bk} {two:Int} {r2:Row×Int} {k:Unit→Option Bool} (hl:r2.1.length≤1000) (hs:∀ p∈r2.1,strayP b p=false) (ht:∀ p∈r2.1,beg b p≠(w two).tmod b.1) (hd:r2.1.Pairwise fun p q=>beg b p≠beg b q) :
  ∀ (m i:Nat) (z:Int),z=i→i≤r2.1.length→r2.1.length-i<m→x13_l1 b two r2 k m ((r2.1.take i).map (beg b)) z=k ()
 | 0,i,_,_,_,h=>absurd h (by omega)
 | m+1,i,_,rfl,hi,hm=>by
   rw [x13_l1]
   by_cases h:i<r2.1.length
   ·have hm1:=List.getElem_mem h
    have hno:(((r2.1.take i).map (beg b)).any fun x=>decide (x=beg b r2.1[i]))=false:=by
     rw [List.any_eq_false]
     intro x hx
     obtain ⟨p,hp,rfl⟩:=List.mem_map.1 hx
     obtain ⟨j,hj,rfl⟩:=List.getElem_of_mem hp
     rw [List.length_take] at hj
     have:=List.pairwise_iff_getElem.1 hd j i (by omega) h (by omega)
     rw [List.getElem_take]
     simpa using this
    rw [iflt h,gdi h,ix_nat h,x57_eq (hs _ hm1),Option.bind_some,x53_eq _ _ (by rw [List.length_map,List.length_take];omega),Option.bind_some,hno,if_neg (by decide),if_neg (by simpa using ht _ hm1),gd_pos (by rw [List.length_map,List.length_take];omega),w_succ i (by omega)]
    have e:(r2.1.take i).map (beg b)++[beg b r2.1[i]]=(r2.1.take (i+1)).map (beg b):=by rw [take_snoc h,List.map_append];rfl
    rw [e]
    exact x13_l1_eq hl hs ht hd m (i+1) _ rfl (by omega) (by omega)
   ·rw [ifge h]
theorem x47_eq (b:Bk):x47 b=some (decide (b.2.length≤14) && decide (bkErr b=0)):=by
 rw [x47,x16,Option.bind_some]
 by_cases h:(14:Int)<(b.2.length:Int)
 ·rw [if_pos (decide_eq_true h),decide_eq_false (by omega)];rfl
 ·rw [if_neg (by simpa using h),x21_eq b (by omega),Option.bind_some,decide_eq_true (show b.2.length≤14 by omega)];rfl
theorem fine_book {b:Bk} (h:x47 b=some true):Book b:=by
 rw [x47_eq] at h
 have:=Option.some.inj h
 rw [Bool.and_eq_true,decide_eq_true_eq,decide_eq_true_eq] at this
 exact bkErr_zero.1 this.2
theorem mod_in {x n:Int} (hx:0≤x) (hn:1≤n):0≤x.tmod n∧x.tmod n<n:=⟨Int.tmod_nonneg _ hx,Int.tmod_lt_of_pos _ (by omega)⟩
theorem x13_eq (b:Bk) (one two:Int) (h1:0≤one∧one≤255) (h2:0≤two∧two≤255):x13 b one two=some true:=by
 rw [x13]
 cases hf:x47 b with
 | none=>rw [x47_eq] at hf;cases hf
 | some v =>
   rw [Option.bind_some]
   cases v with
   | false=>rw [if_neg (by decide)];rfl
   | true =>
   have hB:=fine_book hf
   have hb1:=hB.f1;have hb6:=hB.f6
   rw [if_pos rfl,gd_pos (by omega),gd_pos (by omega)]
   have m1:=mod_in (x:=one) h1.1 hb1
   have m2:=mod_in (x:=two) h2.1 hb1
   have loop:=fun (r2:Row×Int) (k:Unit→Option Bool)=>x13_l1_eq (b:=b) (two:=two) (r2:=r2) (k:=k)
   rw [w_id (n:=two) (by omega)] at loop
   rw [w_id (n:=one) (by omega),w_id (n:=two) (by omega)]
   obtain ⟨f,hf'⟩:∃ f,f=one.tmod b.1:=⟨_,rfl⟩
   obtain ⟨t,ht'⟩:∃ t,t=two.tmod b.1:=⟨_,rfl⟩
   rw [←hf',←ht']
   rw [←hf'] at m1
   rw [←ht'] at m2 loop
   by_cases hft:f=t
   ·rw [x45_arg hB (fun h=>h.2.2.2.2 hft),Option.bind_some,x45_arg hB (fun h=>h.2.2.2.2 hft.symm),Option.bind_some,if_pos (decide_eq_true hft)]
    rfl
   ·obtain ⟨D,hD,e1⟩:=x45_eq hB (f:=f) (t:=t) ⟨m1.1,m1.2,m2.1,m2.2,hft⟩
    obtain ⟨D2,hD2,e2⟩:=x45_eq hB (f:=t) (t:=f) ⟨m2.1,m2.2,m1.1,m1.2,fun e=>hft e.symm⟩
    obtain ⟨N,e3,hN⟩:=x56_eq hB (-1)
    rw [e1,Option.bind_some,e2,Option.bind_some,if_neg (by simpa using hft),e3,Option.bind_some]
    have hNl:=hN.len
    have hiff:=hN.iff m1 m2
    have hcn:=far_cn hD (f:=f) ⟨m1.1,by omega⟩
    rcases far_sym hD hD2 ⟨m1.1,by omega⟩ ⟨m2.1,by omega⟩ with hs | hs
    ·have hne:¬ ix N f=ix N t:=fun e=>by have:=hcn.2 (hiff.1 e);omega
     have c1:chainA b D f=([],5):=if_pos hs.1
     have c2:chainA b D2 t=([],5):=if_pos hs.2
     rw [c1,c2,if_neg (by decide),if_neg (by decide),if_neg (by simp;omega),gd_pos ⟨m1.1,by omega⟩,gd_pos ⟨m2.1,by omega⟩,decide_eq_false hne]
     rfl
    ·have heq:ix N f=ix N t:=hiff.2 (hcn.1 hs.2)
     have hR:=chainP_is hB hD (ix D f).toNat f m1.1 m1.2 (by omega)
     have hR2:=chainP_is hB hD2 (ix D2 t).toNat t m2.1 m2.2 (by omega)
     have c1:chainA b D f=(chainP b D (ix D f).toNat f,0):=if_neg (by omega)
     have c2:chainA b D2 t=(chainP b D2 (ix D2 t).toNat t,0):=if_neg (by omega)
     have hlt:=far_lt hB hD m1.1 m1.2
     have hpos:0<(ix D f).toNat:=by
      refine Nat.pos_of_ne_zero fun e=>hft ?_
      have hw:=hD.walk f.toNat (by omega) (by rw [Int.toNat_of_nonneg m1.1];exact hs.2)
      rw [Int.toNat_of_nonneg m1.1,e] at hw
      exact (show t=f from hw).symm
     have hl1:=hR.len;have hl2:=hR2.len
     have hck:=hR.check hB hpos
     rw [c1,c2,if_neg (by simp),if_neg (by simp only [decide_eq_true_eq];omega),if_neg (by simp only [decide_eq_true_eq];omega),gd_pos ⟨m1.1,by omega⟩,gd_pos ⟨m2.1,by omega⟩,decide_eq_true heq,if_pos (by simp),if_neg (by simp),
      x18_eq _ _ (by have:=hB.len;omega) (by simp only;omega),Option.bind_some,x19_eq _ _ (by have:=hB.len;omega) (by simp only;omega),Option.bind_some,hck,if_neg (by simp),if_neg (by simp),if_neg (by simp),if_neg (by simp)]
     have:=loop (chainP b D (ix D f).toNat f,0) (fun _=>x17.bind fun r11=>some r11) (by simp only;omega) (fun p hp=>(hR.ok p hp).1) (fun p hp e=>by
      have o:=(hR.ok p hp).2.2.1
      rw [e] at o
      have:=(hD.least 0 t rfl).2.2.2;omega) (hR.down.imp fun {p q} hpq e=>by rw [e] at hpq;omega) FU 0 0 rfl (Nat.zero_le _) (FU_lt (by simp only;omega))
     rw [List.take_zero,List.map_nil] at this
     exact this
theorem matchChain_ok {b:Bk} {one two:Int} (h1:0≤one∧one≤255) (h2:0≤two∧two≤255):PO 13 [.agg [I b.1,.lst (b.2.flatMap pr) b.2.length .shared],U8 one,U8 two] (B true):=x13_ok (x13_eq b one two h1 h2)
end Go.Proofs.YtfakoboiahbhaaaGreat.Ab
