
import Derived.Test.YtfakoboiahbhaaaGreatJp4
import Derived.Test.YtfakoboiahbhaaaGreatJp8
import Derived.Test.YtfakoboiahbhaaaGreatJp10
import Derived.KernelRfl
import Derived.Test.YtfakoboiahbhaaaGreatJp9
set_option linter.unusedSimpArgs false
set_option linter.unusedVariables false
set_option linter.unusedSectionVars false

namespace Go.Proofs.YtfakoboiahbhaaaGreat.Ab
open Go
set_option maxRecDepth 20000
set_option maxHeartbeats 4000000
noncomputable def Z6:eM :=
 FY [gO 1 [.hA 0] .box,gO 2 [.ij (.ax [] 0 .full)] (.nil 2),FM 3 0] (FY [gO 7 [.sl 1] (.px (.str 2)),gO 8 [.ij (.func 37 [] []),.sl 7] (.call 3),FO 6 8,F5 9 6 0,gO 10 [.hD 6] (.ext 1),FO 4 9,FO 5 10] (.seq (FY [FN 11 5,Fm 12 11 0 .neq] (.cond (.sl 12) (FY [FO 13 5,gO 2 [.ij (.ax [] 0 .full)] (.nil 2),FO 3 13] .ret) .skip)) (.seq (FY [gO 14 [.hD 1] (.px (.str 2)),FN 15 4,gO 16 [.ij (.func 22 [] []),.sl 14,.sl 15] (.call 3),Fm 17 16 0 .neq] (.cond (.sl 17) (FY [gO 2 [.ij (.ax [] 0 .full)] (.nil 2),FM 3 27] .ret) .skip)) (FY [FO 18 4,FO 2 18,FM 3 0] .ret))))
theorem aeV:yQ Tryz.prog Ul 42=some (Z6,19,[.tmp 2,.tmp 3]):=by kernel_rfl
def L3 (b:qn):Option (qe×Int) :=
 (L2 b).bind fun aR =>
 if (decide (aR.2≠(0:Int)))=true then
  some ([],aR.2)
 else
  (L0 b aR.1).bind fun r2 =>
  if (decide (r2≠(0:Int)))=true then
   some ([],(27:Int))
  else
   some (aR.1,(0:Int))
theorem Y6 {b:qn} {v:(qe×Int)} (h:L3 b=some v):qC 42 [(.agg [(hG b.1),(.ax (b.2.flatMap p6) b.2.length .shared)])] (.tuple [(.ax (v.1.flatMap p6) v.1.length .shared),(hG v.2)]):=by
 refine qN dD aeV rfl (HX (p5 (q4 (fun _=>(p5 rfl (p5 rfl rfl))) _ _ _) (p5 rfl rfl))) fun Q bz=>?_;have lj:qE [.tmp 2,.tmp 3] Q (fun v=>(.tuple [(qf v.1 .shared),(hG v.2)])) v:=fun T H bJ=>bz _ T H bJ;unfold L3 at h;unfold Z6;conv=>whnf
 obtain ⟨aR,eQ,h⟩:=qi h;refine ⟨qm.pl,_,Y0 eQ,?_⟩;conv=>whnf
 refine bs h (fun fi h=>?_) fun fi h=>?_
 ·rw [fi];conv=>whnf
  exact qj h lj rfl rfl
 ·rw [fi];conv=>whnf
  obtain ⟨r2,qu,h⟩:=qi h;refine ⟨qm.pl,_,ai3 qu,?_⟩;conv=>whnf
  refine bs h (fun qA h=>?_) fun qA h=>?_
  ·rw [qA];(conv=>whnf);exact qj h lj rfl rfl
  ·rw [qA];(conv=>whnf);exact qj h lj rfl rfl

noncomputable def Z3:eM :=
 FY [gO 1 [.hA 0] .box,FM 2 0,FM 3 0] (.seq (FY [gO 7 [.sl 1] (.px (.str 2)),gO 8 [.ij (.func 42 [] []),.sl 7] (.call 3),FO 6 8,F5 9 6 0,gO 10 [.hD 6] (.ext 1),FO 4 9,FO 5 10] (FY [FO 11 5,Fm 12 11 0 .eql] (.cond (.sl 12) (FY [FM 2 0,FM 3 0] .ret) .skip))) (FY [gO 13 [.hD 1] (.px (.str 2)),gO 14 [.ij (.func 35 [] []),.sl 13] (.call 3),F5 15 14 0,gO 16 [.hD 14] (.ext 1),FO 2 15,FO 3 16] .ret))
theorem aeS:yQ Tryz.prog Ui 39=some (Z3,17,[.tmp 2,.tmp 3]):=by kernel_rfl
def NG (b:qn):Option (Int×Int) :=
 (L3 b).bind fun aR =>
 if (decide (aR.2=(0:Int)))=true then
  some ((0:Int),(0:Int))
 else
  (L1 b).bind fun r2 =>
  some (r2.1,r2.2)
theorem ajp {b:qn} {v:(Int×Int)} (h:NG b=some v):qC 39 [(.agg [(hG b.1),(.ax (b.2.flatMap p6) b.2.length .shared)])] (.tuple [(hG v.1),(hG v.2)]):=by
 refine qN dD aeS rfl (HX (p5 rfl (p5 rfl rfl))) fun Q bz=>?_;have lj:qE [.tmp 2,.tmp 3] Q (fun v=>(.tuple [(hG v.1),(hG v.2)])) v:=fun T H bJ=>bz _ T H bJ;unfold NG at h;unfold Z3;conv=>whnf
 obtain ⟨aR,eQ,h⟩:=qi h;refine ⟨qm.pl,_,Y6 eQ,?_⟩;conv=>whnf
 refine bs h (fun fi h=>?_) fun fi h=>?_
 ·rw [fi];conv=>whnf
  exact qj h lj rfl rfl
 ·rw [fi];conv=>whnf
  obtain ⟨r2,qu,h⟩:=qi h;refine ⟨qm.pl,_,YY qu,?_⟩;conv=>whnf
  exact qj h lj rfl rfl

noncomputable def Z8:eM :=
 FY [gO 1 [.hA 0] .box,FM 2 0] (FY [gO 4 [.sl 1] (.px (.str 2)),gO 5 [.ij (.func 86 [] []),.sl 4] (.call 3),FO 3 5] (.seq (FY [FN 6 3,Fm 7 6 0 .eql,FO 8 7,dZ 9 [.hD 1] 8 true (.px (.str 2)),⟨some 10,[.ij (.func 78 [] []),.sl 9],some (8,true),none,.call 3⟩,dZ 11 [.hA 10] 8 true .pz,dZ 12 [.hD 11,.ij (.int .i64 0)] 8 true (.bin .gtr),gO 13 [.hD 8,.hD 12,.ij (.bool false)] .pick] (.cond (.sl 13) (FY [FM 2 27] .ret) .skip)) (FY [FO 14 3,FO 2 14] .ret)))
theorem aeX:yQ Tryz.prog Um 44=some (Z8,15,[.tmp 2]):=by kernel_rfl
def L4 (b:qn):Option Int :=
 (K_ b).bind fun aR =>
 if (decide (aR=(0:Int)))=true then
  (K6 b).bind fun r2 =>
  if (decide ((0:Int)<(r2.length:Int)))=true then
   some (27:Int)
  else
   some aR
 else
  some aR
theorem Y9 {b:qn} {v:Int} (h:L4 b=some v):qC 44 [(.agg [(hG b.1),(.ax (b.2.flatMap p6) b.2.length .shared)])] (hG v):=by
 refine qN dD aeX rfl rfl fun Q bz=>?_;have lj:qE [.tmp 2] Q (fun v=>(hG v)) v:=fun T H bJ=>bz _ T H bJ;unfold L4 at h;unfold Z8;conv=>whnf
 obtain ⟨aR,eQ,h⟩:=qi h;refine ⟨qm.pl,_,TC eQ,?_⟩;conv=>whnf
 refine bs h (fun fi h=>?_) fun fi h=>?_
 ·rw [fi];conv=>whnf
  obtain ⟨r2,qu,h⟩:=qi h;refine ⟨qm.pl,_,Tu qu,?_⟩;conv=>whnf
  refine bs h (fun qA h=>?_) fun qA h=>?_
  ·rw [qA];(conv=>whnf);exact qj h lj rfl rfl
  ·rw [qA];(conv=>whnf);exact qj h lj rfl rfl
 ·rw [fi];conv=>whnf
  exact qj h lj rfl rfl

noncomputable def Z4:eM :=
 FY [gO 1 [.hA 0] .box,FM 2 0,FM 3 0] (.seq (FY [gO 4 [.sl 1] (.px (.str 2)),gO 5 [.ij (.func 21 [] []),.sl 4] (.call 3),Fm 6 5 0 .neq] (.cond (.sl 6) (FY [gO 7 [.hD 1] (.px (.str 2)),gO 8 [.ij (.func 21 [] []),.sl 7] (.call 3),FM 2 0,FO 3 8] .ret) .skip)) (.seq (FY [gO 9 [.sl 1] (.px (.str 2)),gO 10 [.ij (.func 44 [] []),.sl 9] (.call 3),Fm 11 10 0 .eql] (.cond (.sl 11) (FY [FM 2 0,FM 3 0] .ret) .skip)) (FY [gO 12 [.hD 1] (.px (.str 2)),gO 13 [.ij (.func 84 [] []),.sl 12] (.call 3),FO 2 13,FM 3 0] .ret)))
theorem aeT:yQ Tryz.prog Uj 40=some (Z4,14,[.tmp 2,.tmp 3]):=by kernel_rfl
def NH (b:qn):Option (Int×Int) :=
 (Hq b).bind fun aR =>
 if (decide (aR≠(0:Int)))=true then
  (Hq b).bind fun r2 =>
  some ((0:Int),r2)
 else
  (L4 b).bind fun ew =>
  if (decide (ew=(0:Int)))=true then
   some ((0:Int),(0:Int))
  else
   (K8 b).bind fun qH =>
   some (qH,(0:Int))
theorem ajr {b:qn} {v:(Int×Int)} (h:NH b=some v):qC 40 [(.agg [(hG b.1),(.ax (b.2.flatMap p6) b.2.length .shared)])] (.tuple [(hG v.1),(hG v.2)]):=by
 refine qN dD aeT rfl (HX (p5 rfl (p5 rfl rfl))) fun Q bz=>?_;have lj:qE [.tmp 2,.tmp 3] Q (fun v=>(.tuple [(hG v.1),(hG v.2)])) v:=fun T H bJ=>bz _ T H bJ;unfold NH at h;unfold Z4;conv=>whnf
 obtain ⟨aR,eQ,h⟩:=qi h;refine ⟨qm.pl,_,I1 eQ,?_⟩;conv=>whnf
 refine bs h (fun fi h=>?_) fun fi h=>?_
 ·rw [fi];conv=>whnf
  obtain ⟨r2,qu,h⟩:=qi h;refine ⟨qm.pl,_,I1 qu,?_⟩;conv=>whnf
  exact qj h lj rfl rfl
 ·rw [fi];conv=>whnf
  obtain ⟨ew,qA,h⟩:=qi h;refine ⟨qm.pl,_,Y9 qA,?_⟩;conv=>whnf
  refine bs h (fun qG h=>?_) fun qG h=>?_
  ·rw [qG];(conv=>whnf);exact qj h lj rfl rfl
  ·rw [qG];(conv=>whnf);obtain ⟨qH,q7,h⟩:=qi h;refine ⟨qm.pl,_,TB q7,?_⟩;(conv=>whnf);exact qj h lj rfl rfl

noncomputable def Z5:eM :=
 FY [gO 1 [.hA 0] .box,gO 2 [.ij (.ax [] 0 .full)] (.nil 1),FM 3 0] (FY [gO 7 [.hD 1] (.px (.str 2)),gO 8 [.ij (.func 64 [] []),.sl 7] (.call 3),FO 6 8,F5 9 6 0,gO 10 [.hD 6] (.ext 1),FO 4 9,FO 5 10] (.seq (FY [FN 11 5,Fm 12 11 0 .neq] (.cond (.sl 12) (FY [FO 13 5,gO 2 [.ij (.ax [] 0 .full)] (.nil 1),FO 3 13] .ret) .skip)) (FY [FO 14 4,gO 15 [.ij (.func 83 [] []),.sl 14] (.call 3),FO 2 15,FM 3 0] .ret)))
theorem aeU:yQ Tryz.prog Uk 41=some (Z5,16,[.tmp 2,.tmp 3]):=by kernel_rfl
def NJ (b:qn):Option (qP×Int) :=
 (Iw b).bind fun aR =>
 match aR with
 | (none,aW) =>
   if (decide (aW≠(0:Int)))=true then
    some ([],aW)
   else
    none
 | (some bP,aW) =>
   if (decide (aW≠(0:Int)))=true then
    some ([],aW)
   else
    (I4 bP).bind fun r2 =>
    some (r2,(0:Int))
theorem ajt {b:qn} {v:(qP×Int)} (h:NJ b=some v):qC 41 [(.agg [(hG b.1),(.ax (b.2.flatMap p6) b.2.length .shared)])] (.tuple [(.ax (v.1.map (q_ p6)) v.1.length .shared),(hG v.2)]):=by
 refine qN dD aeU rfl (HX (p5 (rF (fun _=>(q4 (fun _=>(p5 rfl (p5 rfl rfl))) _ _ _)) _ _ _) (p5 rfl rfl))) fun Q bz=>?_;have lj:qE [.tmp 2,.tmp 3] Q (fun v=>(.tuple [(.ax (v.1.map (q_ p6)) v.1.length .shared),(hG v.2)])) v:=fun T H bJ=>bz _ T H bJ;unfold NJ at h;unfold Z5;conv=>whnf
 obtain ⟨aR,eQ,h⟩:=qi h;rcases aR with ⟨_ | bP,aW⟩
 ·refine ⟨qm.pl,_,J1 eQ,?_⟩;conv=>whnf
  refine bs h (fun fi h=>?_) fun fi h=>?_
  ·rw [fi];(conv=>whnf);exact qj h lj rfl rfl
  ·rw [fi];(conv=>whnf);exact q3 h
 ·refine ⟨qm.pl,_,J1 eQ,?_⟩;conv=>whnf
  refine bs h (fun qu h=>?_) fun qu h=>?_
  ·rw [qu];(conv=>whnf);exact qj h lj rfl rfl
  ·rw [qu];(conv=>whnf);obtain ⟨r2,qA,h⟩:=qi h;refine ⟨qm.pl,_,Tz qA,?_⟩;(conv=>whnf);exact qj h lj rfl rfl

noncomputable def PT:eM :=
 .seq (FY [FO 130 6,Fm 131 130 0 .neq] (.cond (.sl 131) (FY [FO 132 15,FK 133 132,Fm 134 133 0 .eql,FO 135 134,⟨some 136,[.ij (.func 17 [] [])],some (135,true),none,.call 3⟩,gO 137 [.hD 135,.hD 136,.ij (.bool false)] .pick,FO 2 137] .ret) .skip)) (FY [gO 139 [.hD 1] (.px (.str 2)),FO 140 15,gO 141 [.ij (.func 26 [] []),.sl 139,.sl 140] (.call 3),FO 138 141,F5 142 138 0,gO 143 [.hD 138] (.ext 1),FO 19 142,FO 20 143] (FY [FO 144 20,Fm 145 144 0 .eql,FO 146 145,dZ 147 [.hA 19] 146 true .iH,dZ 148 [.hA 5] 146 true .iH,dZ 149 [.hD 147,.hD 148] 146 true (.bin .eql),gO 150 [.hD 146,.hD 149,.ij (.bool false)] .pick,FO 151 150,⟨some 152,[.ij (.func 17 [] [])],some (151,true),none,.call 3⟩,gO 153 [.hD 151,.hD 152,.ij (.bool false)] .pick,FO 2 153] .ret))
noncomputable def Z9:eM :=
 FY [gO 1 [.hA 0] .box,gO 2 [.ij (.bool false)] .iH] (.seq (FY [gO 21 [.sl 1] (.px (.str 2)),gO 22 [.ij (.func 16 [] []),.sl 21] (.call 3)] (.cond (.sl 22) (FY [gO 23 [.ij (.func 17 [] [])] (.call 3),FO 2 23] .ret) .skip)) (FY [gO 25 [.sl 1] (.px (.str 2)),gO 26 [.ij (.func 35 [] []),.sl 25] (.call 3),FO 24 26,F5 27 24 0,gO 28 [.hD 24] (.ext 1),FO 3 27,FO 4 28] (FY [gO 30 [.sl 1] (.px (.str 2)),gO 31 [.ij (.func 36 [] []),.sl 30] (.call 3),FO 29 31,F5 32 29 0,gO 33 [.hD 29] (.ext 1),FO 5 32,FO 6 33] (FY [gO 35 [.sl 1] (.px (.str 2)),gO 36 [.ij (.func 37 [] []),.sl 35] (.call 3),FO 34 36,F5 37 34 0,gO 38 [.hD 34] (.ext 1),FO 7 37,FO 8 38] (FY [gO 40 [.sl 1] (.px (.str 2)),gO 41 [.ij (.func 38 [] []),.sl 40] (.call 3),FO 39 41,F5 42 39 0,gO 43 [.hD 39] (.ext 1),FO 9 42,FO 10 43] (FY [gO 45 [.sl 1] (.px (.str 2)),gO 46 [.ij (.func 39 [] []),.sl 45] (.call 3),FO 44 46,F5 47 44 0,gO 48 [.hD 44] (.ext 1),FO 11 47,FO 12 48] (FY [gO 50 [.sl 1] (.px (.str 2)),gO 51 [.ij (.func 40 [] []),.sl 50] (.call 3),FO 49 51,F5 52 49 0,gO 53 [.hD 49] (.ext 1),FO 13 52,FO 14 53] (FY [gO 55 [.sl 1] (.px (.str 2)),gO 56 [.ij (.func 41 [] []),.sl 55] (.call 3),FO 54 56,F5 57 54 0,gO 58 [.hD 54] (.ext 1),FO 15 57,FO 16 58] (FY [gO 60 [.sl 1] (.px (.str 2)),gO 61 [.ij (.func 42 [] []),.sl 60] (.call 3),FO 59 61,F5 62 59 0,gO 63 [.hD 59] (.ext 1),FO 17 62,FO 18 63] (.seq (FY [FO 64 3,FN 65 5,Fo 66 64 65 .neq,FO 67 66,dZ 68 [.hA 4] 67 false .iH,dZ 69 [.sl 6] 67 false .iH,dZ 70 [.hD 68,.hD 69] 67 false (.bin .neq),gO 71 [.hD 67,.ij (.bool true),.hD 70] .pick,FO 72 71,dZ 73 [.hA 7] 72 false .iH,dZ 74 [.hA 9] 72 false .iH,⟨some 75,[.ij (.func 43 [] []),.sl 73,.sl 74],some (72,false),none,.call 3⟩,dZ 76 [.hD 75] 72 false (.un .not),gO 77 [.hD 72,.ij (.bool true),.hD 76] .pick,FO 78 77,dZ 79 [.hA 8] 78 false .iH,dZ 80 [.hA 10] 78 false .iH,dZ 81 [.hD 79,.hD 80] 78 false (.bin .neq),gO 82 [.hD 78,.ij (.bool true),.hD 81] .pick,FO 83 82,dZ 84 [.hA 11] 83 false .iH,dZ 85 [.hA 13] 83 false .iH,dZ 86 [.hD 84,.hD 85] 83 false (.bin .neq),gO 87 [.hD 83,.ij (.bool true),.hD 86] .pick,FO 88 87,dZ 89 [.hA 12] 88 false .iH,dZ 90 [.hA 14] 88 false .iH,dZ 91 [.hD 89,.hD 90] 88 false (.bin .neq),gO 92 [.hD 88,.ij (.bool true),.hD 91] .pick,FO 93 92,dZ 94 [.hA 16] 93 false .iH,dZ 95 [.sl 6] 93 false .iH,dZ 96 [.hD 94,.hD 95] 93 false (.bin .neq),gO 97 [.hD 93,.ij (.bool true),.hD 96] .pick,FO 98 97,dZ 99 [.sl 18] 98 false .iH,dZ 100 [.sl 1] 98 false (.px (.str 2)),⟨some 101,[.ij (.func 44 [] []),.sl 100],some (98,false),none,.call 3⟩,dZ 102 [.hD 99,.hD 101] 98 false (.bin .neq),gO 103 [.hD 98,.ij (.bool true),.hD 102] .pick,FO 104 103,dZ 105 [.sl 15] 104 false .iH,⟨some 106,[.ij (.func 24 [] []),.sl 105],some (104,false),none,.call 3⟩,gO 107 [.hD 104,.ij (.bool true),.hD 106] .pick,FO 108 107,dZ 109 [.sl 17] 108 false .iH,dZ 110 [.hA 109] 108 false .pz,dZ 111 [.hD 110,.ij (.int .i64 14)] 108 false (.bin .gtr),gO 112 [.hD 108,.ij (.bool true),.hD 111] .pick] (.cond (.sl 112) (FY [gO 2 [.ij (.bool false)] .iH] .ret) .skip)) (.seq (FY [FN 113 18,Fm 114 113 0 .neq,FO 115 114,dZ 116 [.sl 17] 115 true .iH,dZ 117 [.hA 116] 115 true .pz,dZ 118 [.hD 117,.ij (.int .i64 0)] 115 true (.bin .gtr),gO 119 [.hD 115,.hD 118,.ij (.bool false)] .pick,FO 120 119,dZ 121 [.hA 18] 120 false .iH,dZ 122 [.hD 121,.ij (.int .i64 0)] 120 false (.bin .eql),dZ 123 [.hA 122] 120 false .iH,dZ 124 [.sl 1] 123 true (.px (.str 2)),dZ 125 [.hA 17] 123 true .iH,⟨some 126,[.ij (.func 23 [] []),.sl 124,.sl 125],some (123,true),none,.call 3⟩,dZ 127 [.hD 126,.ij (.int .i64 0)] 123 true (.bin .neq),dZ 128 [.hD 123,.hD 127,.ij (.bool false)] 120 false .pick,gO 129 [.hD 120,.ij (.bool true),.hD 128] .pick] (.cond (.sl 129) (FY [gO 2 [.ij (.bool false)] .iH] .ret) .skip)) PT)))))))))))
theorem aeY:yQ Tryz.prog Qk 5=some (Z9,154,[.tmp 2]):=by kernel_rfl
def J0 (b:qn) (qH:(Int×Int)) (sa:(qP×Int))  : Option Bool :=
 if (decide (qH.2≠(0:Int)))=true then
  if (decide ((sa.1.length:Int)=(0:Int)))=true then
   (KI).bind fun WK =>
   some WK
  else
   some false
 else
  (NC b sa.1).bind fun RR =>
  if (decide (RR.2=(0:Int)))=true then
   if (decide (RR.1=qH.1))=true then
    (KI).bind fun WL =>
    some WL
   else
    some false
  else
   some false
def Ph (b:qn):Option Bool :=
 (Nz b).bind fun aR =>
 if aR=true then
  (KI).bind fun r2 =>
  some r2
 else
  (L1 b).bind fun ew =>
  (ND b).bind fun qH =>
  (L2 b).bind fun q6 =>
  (NF b).bind fun Gp =>
  (NG b).bind fun GF =>
  (NH b).bind fun Hd =>
  (NJ b).bind fun sa =>
  (L3 b).bind fun sm =>
  if (decide (ew.1≠qH.1))=true then
   some false
  else
   if (decide (ew.2≠qH.2))=true then
    some false
   else
    (NK q6.1 Gp.1).bind fun HB =>
    if HB=true then
     if (decide (q6.2≠Gp.2))=true then
      some false
     else
      if (decide (GF.1≠Hd.1))=true then
       some false
      else
       if (decide (GF.2≠Hd.2))=true then
        some false
       else
        if (decide (sa.2≠qH.2))=true then
         some false
        else
         (L4 b).bind fun Jm =>
         if (decide (sm.2≠Jm))=true then
          some false
         else
          (KR sa.1).bind fun JO =>
          if JO=true then
           some false
          else
           if (decide ((14:Int)<(sm.1.length:Int)))=true then
            some false
           else
            if (decide (sm.2≠(0:Int)))=true then
             if (decide ((0:Int)<(sm.1.length:Int)))=true then
              some false
             else
              if (decide (sm.2=(0:Int)))=true then
               (KQ b sm.1).bind fun WJ =>
               if (decide (WJ≠(0:Int)))=true then
                some false
               else
                J0 b qH sa
              else
               J0 b qH sa
            else
             if (decide (sm.2=(0:Int)))=true then
              (KQ b sm.1).bind fun WM =>
              if (decide (WM≠(0:Int)))=true then
               some false
              else
               J0 b qH sa
             else
              J0 b qH sa
    else
     some false
theorem Pj {b:qn} {qH:(Int×Int)} {sa:(qP×Int)} {v:Bool} {Q:ra}  {p_:List I}  (lj:qE [.tmp 2] Q (fun v=>(B v)) v) (qt:qV 154 [(1,(.ptr 0 0)),(5,(hG qH.1)),(6,(hG qH.2)),(15,(.ax (sa.1.map (q_ p6)) sa.1.length .shared))] p_) (h:J0 b qH sa  = some v) :
  dB Tryz.prog Qk 5 0 none PT p_ [qv b] Q:=by
 obtain ⟨qT,rfl⟩:=qt.ex;unfold J0 at h;unfold PT;conv=>whnf
 refine bs h (fun H6 h=>?_) fun H6 h=>?_
 ·rw [H6];conv=>whnf
  refine bs h (fun Jc h=>?_) fun Jc h=>?_
  ·rw [Jc];(conv=>whnf);obtain ⟨WK,Il,h⟩:=qi h;refine ⟨rfl,_,Tj Il,?_⟩;(conv=>whnf);exact qj h lj rfl rfl
  ·rw [Jc];(conv=>whnf);exact qj h lj rfl rfl
 ·rw [H6];conv=>whnf
  obtain ⟨RR,Jd,h⟩:=qi h;refine ⟨qm.pl,_,aja Jd,?_⟩;conv=>whnf
  refine bs h (fun Im h=>?_) fun Im h=>?_
  ·rw [Im];(conv=>whnf);refine bs h (fun Je h=>?_) fun Je h=>?_
   ·rw [Je];(conv=>whnf);obtain ⟨WL,Kg,h⟩:=qi h;refine ⟨rfl,_,Tj Kg,?_⟩;(conv=>whnf);exact qj h lj rfl rfl
   ·rw [Je];(conv=>whnf);exact qj h lj rfl rfl
  ·rw [Im];(conv=>whnf);exact qj h lj rfl rfl
theorem ajG {b:qn} {v:Bool} (h:Ph b=some v):qC 5 [(.agg [(hG b.1),(.ax (b.2.flatMap p6) b.2.length .shared)])] (B v):=by
 refine qN dD aeY rfl rfl fun Q bz=>?_;have lj:qE [.tmp 2] Q (fun v=>(B v)) v:=fun T H bJ=>bz _ T H bJ;unfold Ph at h;unfold Z9;obtain ⟨Gi,qF⟩:∃ c,PT=c:=⟨_,rfl⟩;rw [qF];conv=>whnf
 obtain ⟨aR,eQ,h⟩:=qi h;refine ⟨qm.pl,_,aiR eQ,?_⟩;conv=>whnf
 cases aR
 ·conv=>whnf
  replace h:=r5 rfl h;obtain ⟨ew,qu,h⟩:=qi h;refine ⟨qm.pl,_,YY qu,?_⟩;conv=>whnf
  obtain ⟨qH,qA,h⟩:=qi h;refine ⟨qm.pl,_,ajc qA,?_⟩;conv=>whnf
  obtain ⟨q6,qG,h⟩:=qi h;refine ⟨qm.pl,_,Y0 qG,?_⟩;conv=>whnf
  obtain ⟨Gp,q7,h⟩:=qi h;refine ⟨qm.pl,_,ajn q7,?_⟩;conv=>whnf
  obtain ⟨GF,qM,h⟩:=qi h;refine ⟨qm.pl,_,ajp qM,?_⟩;conv=>whnf
  obtain ⟨Hd,qI,h⟩:=qi h;refine ⟨qm.pl,_,ajr qI,?_⟩;conv=>whnf
  obtain ⟨sa,rh,h⟩:=qi h;refine ⟨qm.pl,_,ajt rh,?_⟩;conv=>whnf
  obtain ⟨sm,qS,h⟩:=qi h;refine ⟨qm.pl,_,Y6 qS,?_⟩;conv=>whnf
  refine bs h (fun q8 h=>?_) fun q8 h=>?_
  ·rw [q8];(conv=>whnf);exact qj h lj rfl rfl
  ·rw [q8];(conv=>whnf);refine bs h (fun rr h=>?_) fun rr h=>?_
   ·rw [rr];(conv=>whnf);exact qj h lj rfl rfl
   ·rw [rr];(conv=>whnf);obtain ⟨HB,ry,h⟩:=qi h;refine ⟨qm.pl,_,ajv ry,?_⟩;(conv=>whnf);cases HB
    ·(conv=>whnf);replace h:=r5 rfl h;exact qj h lj rfl rfl
    ·(conv=>whnf);replace h:=r4 rfl h;refine bs h (fun r1 h=>?_) fun r1 h=>?_
     ·rw [r1];(conv=>whnf);exact qj h lj rfl rfl
     ·rw [r1];(conv=>whnf);refine bs h (fun se h=>?_) fun se h=>?_
      ·rw [se];(conv=>whnf);exact qj h lj rfl rfl
      ·rw [se];(conv=>whnf);refine bs h (fun r8 h=>?_) fun r8 h=>?_
       ·rw [r8];(conv=>whnf);exact qj h lj rfl rfl
       ·rw [r8];(conv=>whnf);refine bs h (fun rI h=>?_) fun rI h=>?_
        ·rw [rI];(conv=>whnf);exact qj h lj rfl rfl
        ·rw [rI];(conv=>whnf);obtain ⟨Jm,rZ,h⟩:=qi h;refine ⟨qm.pl,_,Y9 rZ,?_⟩;(conv=>whnf);refine bs h (fun r0 h=>?_) fun r0 h=>?_
         ·rw [r0];(conv=>whnf);exact qj h lj rfl rfl
         ·rw [r0];(conv=>whnf);obtain ⟨JO,si,h⟩:=qi h;refine ⟨qm.pl,_,ai7 si,?_⟩;(conv=>whnf);cases JO
          ·(conv=>whnf);replace h:=r5 rfl h;refine bs h (fun sj h=>?_) fun sj h=>?_
           ·rw [sj];(conv=>whnf);exact qj h lj rfl rfl
           ·rw [sj];(conv=>whnf);refine bs h (fun GH h=>?_) fun GH h=>?_
            ·rw [GH];(conv=>whnf);refine bs h (fun GI h=>?_) fun GI h=>?_
             ·rw [GI];(conv=>whnf);exact qj h lj rfl rfl
             ·rw [GI];(conv=>whnf);refine bs h (fun GQ h=>?_) fun GQ h=>?_
              ·rw [GQ];(conv=>whnf);obtain ⟨WJ,H5,h⟩:=qi h;refine ⟨qm.pl,_,YS H5,?_⟩;(conv=>whnf);refine bs h (fun G3 h=>?_) fun G3 h=>?_
               ·rw [G3];(conv=>whnf);exact qj h lj rfl rfl
               ·rw [G3];(conv=>whnf);subst qF;refine Pj ?_ (by exact ⟨rfl,rfl⟩) h;exact fun T H bJ=>lj T H bJ
              ·rw [GQ];(conv=>whnf);subst qF;refine Pj ?_ (by exact ⟨rfl,rfl⟩) h;exact fun T H bJ=>lj T H bJ
            ·rw [GH];(conv=>whnf);refine bs h (fun Kh h=>?_) fun Kh h=>?_
             ·rw [Kh];(conv=>whnf);obtain ⟨WM,ML,h⟩:=qi h;refine ⟨qm.pl,_,YS ML,?_⟩;(conv=>whnf);refine bs h (fun Q_ h=>?_) fun Q_ h=>?_
              ·rw [Q_];(conv=>whnf);exact qj h lj rfl rfl
              ·rw [Q_];(conv=>whnf);subst qF;refine Pj ?_ (by exact ⟨rfl,rfl⟩) h;exact fun T H bJ=>lj T H bJ
             ·rw [Kh];(conv=>whnf);subst qF;refine Pj ?_ (by exact ⟨rfl,rfl⟩) h;exact fun T H bJ=>lj T H bJ
          ·(conv=>whnf);replace h:=r4 rfl h;exact qj h lj rfl rfl
 ·conv=>whnf
  replace h:=r4 rfl h;obtain ⟨r2,fi,h⟩:=qi h;refine ⟨rfl,_,Tj fi,?_⟩;conv=>whnf
  exact qj h lj rfl rfl
end Go.Proofs.YtfakoboiahbhaaaGreat.Ab


namespace Go.Proofs.YtfakoboiahbhaaaGreat.Ab
open Go
section
variable {b:qb}
def Gz (b:qb):Int:=if F8 b=0 then (if 0<(H7 b).length then 27 else 0) else F8 b
def Iq (b:qb):Row×Int:=if Gz b=0 then (Gn b,0) else ([],Gz b)
theorem W9 (h:Gz b=0):F8 b=0∧H7 b=[]:=by
 unfold Gz at h;split at h
 ·rename_i ad;split at h
  ·omega
  ·exact ⟨ad,List.length_eq_zero_iff.1 (by omega)⟩
 ·rename_i ad;exact absurd h ad
theorem LG (h:F8 b=0):(Gn b).length=b.2.length:=by
 obtain ⟨p8,aT,ad⟩:=LF.1 h;obtain ⟨f,c,bW⟩:=Wl p8 aT ad;have:=bW.all.length_eq
 rwa [List.length_map,r3] at this
theorem afz (h:F8 b=0):∃ f c,G8 b (upto b.2.length) f c (Gn b)∧Gn b≠[]∧sn b (Gn b)=(f,c,0)∧IX b (Gn b)=if f=c then 0 else 27:=by
 obtain ⟨p8,aT,ad⟩:=LF.1 h;obtain ⟨f,c,bW⟩:=Wl p8 aT ad;have bY:Gn b≠[]:=fun e=>by
  have:=LG h;rw [e] at this;simp at this;omega
 have ak:=UW p8 bY bW.ok (bW.all.nodup_iff.2 (Iu _)) bW.go;refine ⟨f,c,bW,bY,ak,?_⟩;unfold IX;simp only [ak];rw [if_neg (by simp),if_neg (by rw [LG h];omega)];by_cases e:f=c
 ·rw [if_neg (by simp [e]),if_pos e]
 ·rw [if_pos e,if_neg e]
theorem Wk (h:F8 b=0):(IX b (Gn b)=0↔H7 b=[])∧(IX b (Gn b)=0∨IX b (Gn b)=27):=by
 obtain ⟨p8,aT,ad⟩:=LF.1 h;obtain ⟨f,c,bW,bY,ak,aj⟩:=afz h;have HQ:=bW.odd p8 bY;rw [aj];by_cases e:f=c
 ·rw [if_pos e];exact ⟨⟨fun _=>HQ.1 e,fun _=>rfl⟩,.inl rfl⟩
 ·rw [if_neg e];refine ⟨⟨fun h=>absurd h (by decide),fun h=>?_⟩,.inr rfl⟩;have:=(HQ.2 e).length_eq;have a4:rj b (upto b.2.length)=[]:=h;rw [a4] at this;simp at this
theorem YZ (ag:b.2.length≤1000):L2 b=some (Jl b):=by
 rw [L2];unfold Jl F8;by_cases h:q9 b=0
 ·have p8:=GM.1 h;obtain ⟨R,ad,af⟩:=Pq p8;rw [To p8,Option.bind_some];dsimp only;rw [if_neg (show ¬ decide ((0:Int)≠0)=true by decide)];simp only [h,ne_eq,not_true_eq_false,if_false];by_cases aT:b.2.length=0
  ·rw [if_pos (show decide ((b.2.length:Int)=0)=true by simp [aT]),if_pos aT];rfl
  ·rw [if_neg (show ¬ decide ((b.2.length:Int)=0)=true by simp only [decide_eq_true_eq];omega),if_neg aT,ad,Option.bind_some,af.len];by_cases aH:1<G' b
   ·rw [if_pos (show decide ((1:Int)<(G' b:Int))=true by simp only [decide_eq_true_eq];omega),if_pos aH];rfl
   ·rw [if_neg (show ¬ decide ((1:Int)<(G' b:Int))=true by simp only [decide_eq_true_eq];omega),if_neg aH,Pr,if_pos ⟨h,by omega⟩,Option.bind_some];rfl
 ·rw [Tn ag h,Option.bind_some];dsimp only;simp only [h,ne_eq,not_false_eq_true,if_true,decide_true]
theorem Wi (h:F8 b=0):Jl b=(Gn b,0):=by unfold Jl;rw [if_neg (by simp [h])]
theorem Wh (h:F8 b≠0):Jl b=([],F8 b):=by unfold Jl;rw [if_pos h]
theorem afy (ag:b.2.length≤1000):(Jl b).1.length≤1000:=by
 by_cases h:F8 b=0
 ·rw [Wi h];show (Gn b).length≤1000;rw [LG h];exact ag
 ·rw [Wh h];simp
theorem Y5 (ag:b.2.length≤1000):L3 b=some (Iq b):=by
 rw [L3,YZ ag,Option.bind_some];unfold Iq Gz;by_cases h:F8 b=0
 ·rw [Wi h];dsimp only;rw [if_neg (show ¬ decide ((0:Int)≠0)=true by decide),ai2 b _ ag (by rw [LG h];exact ag),Option.bind_some];obtain ⟨ad,af⟩:=Wk h;simp only [h,if_true];by_cases aH:H7 b=[]
  ·rw [ad.2 aH,aH];rfl
  ·have bh:0<(H7 b).length:=List.length_pos_iff.2 aH;have bM:IX b (Gn b)=27:=af.resolve_left fun e=>aH (ad.1 e);rw [bM];simp [bh]
 ·rw [Wh h];dsimp only;rw [if_pos (show decide (F8 b≠0)=true by simpa using h)];simp only [h,if_false]
theorem Y8 (ag:b.2.length≤1000):L4 b=some (Gz b):=by
 rw [L4,Zx ag,Option.bind_some];unfold Gz;by_cases h:F8 b=0
 ·obtain ⟨p8,_,_⟩:=LF.1 h;rw [if_pos (show decide (F8 b=0)=true by simp [h]),if_pos h,Ts p8,Option.bind_some];by_cases ad:0<(H7 b).length
  ·rw [if_pos (show decide ((0:Int)<((H7 b).length:Int))=true by simp only [decide_eq_true_eq];omega),if_pos ad]
  ·rw [if_neg (show ¬ decide ((0:Int)<((H7 b).length:Int))=true by simp only [decide_eq_true_eq];omega),if_neg ad,h]
 ·rw [if_neg (show ¬ decide (F8 b=0)=true by simpa using h),if_neg h]
theorem W8:(Iq b).2=Gz b:=by
 unfold Iq;split
 ·rename_i h;exact h.symm
 ·rfl
def OF (b:qb):Int×Int:=if Gz b=0 then (0,0) else I' b
theorem ajo (ag:b.2.length≤1000):NG b=some (OF b):=by
 rw [NG,Y5 ag,Option.bind_some,W8];unfold OF;by_cases h:Gz b=0
 ·rw [if_pos (show decide (Gz b=0)=true by simp [h]),if_pos h]
 ·rw [if_neg (show ¬ decide (Gz b=0)=true by simpa using h),if_neg h,YX ag,Option.bind_some]
theorem ajq (ag:b.2.length≤1000):NH b=some (OF b):=by
 rw [NH,NB b ag,Option.bind_some];unfold OF;by_cases aT:q9 b=0
 ·have p8:=GM.1 aT;rw [if_neg (show ¬ decide (q9 b≠0)=true by simp [aT]),Y8 ag,Option.bind_some];by_cases h:Gz b=0
  ·rw [if_pos (show decide (Gz b=0)=true by simp [h]),if_pos h]
  ·rw [if_neg (show ¬ decide (Gz b=0)=true by simpa using h),if_neg h,TA p8,Option.bind_some,My p8]
 ·rw [if_pos (show decide (q9 b≠0)=true by simpa using aT),Option.bind_some,Mx aT];have ad:F8 b≠0:=fun e=>aT (GM.2 (LF.1 e).1);have af:Gz b≠0:=by unfold Gz;rw [if_neg ad];exact ad
  rw [if_neg af]
def JQ (b:qb):List Row:=(I4 b).getD []
theorem SO (p8:qJ b):I4 b=some (JQ b)∧NW b (JQ b):=by
 obtain ⟨R,ad,af⟩:=Pq p8
 have:JQ b=R:=by unfold JQ;rw [ad];rfl
 rw [this];exact ⟨ad,af⟩
theorem ajs (ag:b.2.length≤1000):NJ b=some (if q9 b=0 then (JQ b,0) else ([],q9 b)):=by
 rw [NJ];by_cases h:q9 b=0
 ·have p8:=GM.1 h;rw [To p8,Option.bind_some,if_pos h];dsimp only;rw [if_neg (show ¬ decide ((0:Int)≠0)=true by decide),(SO p8).1,Option.bind_some]
 ·rw [Tn ag h,Option.bind_some,if_neg h];dsimp only;rw [if_pos (show decide (q9 b≠0)=true by simpa using h)]
theorem RowsOf.each {S:List Int} {R:List Row} (h:RowsOf b S R) (aP:S.Nodup) {r:Row} (aj:r∈R):(r.map (·.1)).Nodup∧r.length≤S.length:=by
 have yw:(r.map (·.1)).Sublist ((R.flatten).map (·.1)):=by
  refine List.Sublist.map _ ?_;obtain ⟨s,t,rfl⟩:=List.append_of_mem aj;simp
 have ad:=yw.length_le;rw [List.length_map,h.all.length_eq] at ad;exact ⟨yw.nodup (h.all.nodup_iff.2 aP),ad⟩
theorem NW.short (p8:qJ b) {R:List Row} (h:NW b R):R.length≤10∧∀ r∈R,r.length≤10:=by
 have dq:=p8.len;refine ⟨?_,fun r aj=>?_⟩
 ·have ad:R.length≤R.flatten.length:=by
   have bY:=h.ne
   have:∀ l:List Row,(∀ r∈l,r≠[])→l.length≤l.flatten.length:=fun l=>by
    induction l with
    | nil=>intro _;simp
    | cons r l a9 =>
      intro aq;have ad:=List.length_pos_iff.2 (aq r (by simp));have af:=a9 fun q bl=>aq q (by simp [bl]);rw [List.flatten_cons,List.length_append,List.length_cons];omega
   exact this R bY
  have af:=h.all.length_eq;rw [List.length_map,r3] at af;omega
 ·have:=(h.toRowsOf.each (Iu _) aj).2;rw [r3] at this;omega
theorem ajF (ag:b.2.length≤1000):J0 b (I' b) (if q9 b=0 then (JQ b,0) else ([],q9 b))=some true:=by
 rw [J0];by_cases h:q9 b=0
 ·have p8:=GM.1 h;obtain ⟨ad,af⟩:=SO p8;obtain ⟨aH,bh⟩:=af.short p8;rw [if_pos h,My p8];dsimp only;rw [if_neg (show ¬ decide ((0:Int)≠0)=true by decide),ai8 ag (by omega) (fun r aj=>Nat.le_trans (bh r aj) (by omega)),aca p8 af.toRowsOf af.ne,Option.bind_some,if_pos (show decide ((0:Int)=0)=true by decide),af.len,if_pos (show decide ((G' b:Int)=(G' b:Int))=true by simp)];rfl
 ·rw [if_neg h,Mx h];dsimp only;rw [if_pos (show decide (q9 b≠0)=true by simpa using h),if_pos (by simp)];rfl
theorem ajE (b:qb):Ph b=some true:=by
 rw [Ph,Nz,Option.bind_some];by_cases aK:(14:Int)<(b.2.length:Int)
 ·rw [if_pos (decide_eq_true aK)];rfl
 ·have ag:b.2.length≤1000:=by omega
  rw [if_neg (by simpa using aK),YX ag,Option.bind_some,ajb ag,Option.bind_some,YZ ag,Option.bind_some,ajd ag,Option.bind_some,ajo ag,Option.bind_some,ajq ag,Option.bind_some,ajs ag,Option.bind_some,Y5 ag,Option.bind_some,if_neg (by simp),if_neg (by simp),ajw (afy ag),Option.bind_some,if_pos rfl,if_neg (by simp),if_neg (by simp),if_neg (by simp)];have az:=ajF ag;have hw:KR (if q9 b=0 then (JQ b,(0:Int)) else ([],q9 b)).1=some false:=by
   by_cases h:q9 b=0
   ·have p8:=GM.1 h;obtain ⟨aH,bh⟩:=(SO p8).2.short p8;rw [if_pos h];exact YU (by simp only;omega) fun r aj=>Nat.le_trans (bh r aj) (by omega)
   ·rw [if_neg h];exact YU (by simp) fun r aj=>absurd aj (by simp)
  have he:(if q9 b=0 then (JQ b,(0:Int)) else ([],q9 b)).2=(I' b).2:=by
   by_cases h:q9 b=0
   ·rw [if_pos h,My (GM.1 h)]
   ·rw [if_neg h,Mx h]
  have aq:((Iq b).1.length:Int)≤14:=by
   unfold Iq;split
   ·rename_i h;have:=LG (W9 h).1;simp only;omega
   ·simp
  rw [he,if_neg (by simp),Y8 ag,Option.bind_some,W8,if_neg (by simp),hw,Option.bind_some,if_neg (by decide),if_neg (show ¬ decide ((14:Int)<((Iq b).1.length:Int))=true by simp only [decide_eq_true_eq];omega)];by_cases h:Gz b=0
  ·obtain ⟨ad,af⟩:=W9 h;(have Rs:(Iq b).1=Gn b:=by unfold Iq;rw [if_pos h]);(have e7:(Gn b).length≤1000:=by rw [LG ad];exact ag);rw [if_neg (show ¬ decide (Gz b≠0)=true by simp [h]),if_pos (show decide (Gz b=0)=true by simp [h]),Rs,ai4 b _ ag e7,Option.bind_some,(Wk ad).1.2 af,if_neg (by decide)];exact az
  ·(have Rs:(Iq b).1=[]:=by unfold Iq;rw [if_neg h]);rw [if_pos (show decide (Gz b≠0)=true by simpa using h),Rs,if_neg (by simp),if_neg (show ¬ decide (Gz b=0)=true by simpa using h)];exact az
end
theorem afq {b:qb}:qC 5 [.agg [hG b.1,.ax (b.2.flatMap p6) b.2.length .shared]] (B true):=ajG (ajE b)
end Go.Proofs.YtfakoboiahbhaaaGreat.Ab
