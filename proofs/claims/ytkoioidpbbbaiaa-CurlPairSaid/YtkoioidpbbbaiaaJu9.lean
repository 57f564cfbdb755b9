
import Derived.Test.YtkoioidpbbbaiaaJu5
import Derived.Test.YtkoioidpbbbaiaaJu6
import Derived.Test.YtkoioidpbbbaiaaJu7
import Derived.Test.YtkoioidpbbbaiaaJu8
import Derived.KernelRfl
set_option linter.unusedSimpArgs false
set_option linter.unusedVariables false
set_option linter.unusedSectionVars false

open Bool renaming and_eq_true→sn
open Int renaming le_refl→sK,tdiv_eq_ediv_of_nonneg→vG
open List renaming append_assoc→sx,append_nil→sN,filter_sublist→ur,length_append→sE,length_eq_zero_iff→sP,mem_append→s0,mem_filter→sW,mem_map→sD,mem_singleton→sS,nil_append→tp,nodup_range→uj
open Nat renaming lt_succ_self→sC,succ_mul→uy
open Option renaming bind_some→sc
namespace Go.Proofs.Ytkoioidpbbbaiaa.Ab
open Go
set_option maxRecDepth 20000
set_option maxHeartbeats 4000000
noncomputable def ZZ:gB :=
 p4 [p2 3 [.jm 0] .box,p2 6 [.cv (.bool false)] .mR] (.seq (p4 [p2 20 [.m_ 3] (.zH (.str 3)),p2 21 [.cv (.func 18 [] []),.m_ 20] (.call 3),p2 22 [.Bv 21] (.un .not),p3 23 22,ch 24 [.m_ 1] 23 false .mR,ch 25 [.jm 24] 23 false .zM,ch 26 [.Bv 25,.cv (.int .i64 20)] 23 false (.bin .gtr),p2 27 [.Bv 23,.cv (.bool true),.Bv 26] .pick,p3 28 27,ch 29 [.m_ 2] 28 false .mR,ch 30 [.jm 29] 28 false .zM,ch 31 [.Bv 30,.cv (.int .i64 7)] 28 false (.bin .gtr),p2 32 [.Bv 28,.cv (.bool true),.Bv 31] .pick] (.cond (.m_ 32) (p4 [p2 33 [.cv (.func 11 [] [])] (.call 3),p3 6 33] .ret) .skip)) (p4 [p2 34 [.m_ 3] (.yP 0),qj 35 34,qZ 36 35,p3 37 1,p2 38 [.cv (.func 19 [] []),.m_ 36,.m_ 37] (.call 3),p3 7 38] (p4 [p2 40 [.m_ 3] (.zH (.str 3)),p5 41 7,p2 42 [.cv (.func 21 [] []),.m_ 40,.m_ 41] (.call 3),p3 39 42,qn 43 39 0,p2 44 [.Bv 39] (.ext 1),p3 8 43,p3 9 44] (p4 [p2 46 [.m_ 3] (.zH (.str 3)),p5 47 7,p2 48 [.cv (.func 22 [] []),.m_ 46,.m_ 47] (.call 3),p3 45 48,qn 49 45 0,p2 50 [.Bv 45] (.ext 1),p3 10 49,p3 11 50] (p4 [p2 52 [.m_ 3] (.zH (.str 3)),p5 53 7,p2 54 [.cv (.func 14 [] []),.m_ 52,.m_ 53] (.call 3),p3 51 54,qn 55 51 0,p2 56 [.Bv 51] (.ext 1),p3 12 55,p3 13 56] (.seq (p4 [p3 57 9,qw 58 57 0 .neq,p3 59 58,ch 60 [.jm 11] 59 false .mR,ch 61 [.Bv 60,.cv (.int .i64 0)] 59 false (.bin .neq),p2 62 [.Bv 59,.cv (.bool true),.Bv 61] .pick,p3 63 62,ch 64 [.jm 13] 63 false .mR,ch 65 [.Bv 64,.cv (.int .i64 0)] 63 false (.bin .neq),p2 66 [.Bv 63,.cv (.bool true),.Bv 65] .pick,p3 67 66,ch 68 [.m_ 10] 67 false .mR,ch 69 [.jm 68] 67 false .zM,ch 70 [.m_ 8] 67 false .mR,ch 71 [.Bv 69,.Bv 70] 67 false (.bin .neq),p2 72 [.Bv 67,.cv (.bool true),.Bv 71] .pick,p3 73 72,ch 74 [.m_ 8] 73 false .mR,ch 75 [.m_ 7] 73 false .mR,ch 76 [.jm 75] 73 false .zM,ch 77 [.Bv 76,.cv (.int .i64 2)] 73 false (.bin .quo),ch 78 [.Bv 74,.Bv 77] 73 false (.bin .gtr),p2 79 [.Bv 73,.cv (.bool true),.Bv 78] .pick,p3 80 79,ch 81 [.m_ 8] 80 false .mR,ch 82 [.Bv 81,.cv (.int .i64 0)] 80 false (.bin .eql),ch 83 [.jm 12] 80 false .mR,ch 84 [.Bv 83,.cv (.int .i64 0)] 80 false (.bin .eql),ch 85 [.Bv 82,.Bv 84] 80 false (.o2 true),p2 86 [.Bv 80,.cv (.bool true),.Bv 85] .pick] (.cond (.m_ 86) (p4 [p2 6 [.cv (.bool false)] .mR] .ret) .skip)) (p4 [p2 88 [.m_ 3] (.zH (.str 3)),p5 89 7,p5 90 10,p2 91 [.cv (.func 23 [] []),.m_ 88,.m_ 89,.m_ 90] (.call 3),p3 87 91,qn 92 87 0,p2 93 [.Bv 87] (.ext 1),p3 14 92,p3 9 93] (p4 [p2 95 [.m_ 3] (.zH (.str 3)),p5 96 7,p3 97 10,p2 98 [.cv (.func 24 [] []),.m_ 95,.m_ 96,.m_ 97] (.call 3),p3 94 98,qn 99 94 0,p2 100 [.Bv 94] (.ext 1),p3 15 99,p3 11 100] (.seq (p4 [p3 101 9,qw 102 101 0 .neq,p3 103 102,ch 104 [.jm 11] 103 false .mR,ch 105 [.Bv 104,.cv (.int .i64 0)] 103 false (.bin .neq),p2 106 [.Bv 103,.cv (.bool true),.Bv 105] .pick,p3 107 106,ch 108 [.jm 14] 107 false .mR,ch 109 [.m_ 8] 107 false .mR,ch 110 [.Bv 108,.Bv 109] 107 false (.bin .neq),p2 111 [.Bv 107,.cv (.bool true),.Bv 110] .pick,p3 112 111,ch 113 [.jm 15] 112 false .mR,ch 114 [.m_ 8] 112 false .mR,ch 115 [.Bv 113,.Bv 114] 112 false (.bin .neq),p2 116 [.Bv 112,.cv (.bool true),.Bv 115] .pick] (.cond (.m_ 116) (p4 [p2 6 [.cv (.bool false)] .mR] .ret) .skip)) (p4 [p2 118 [.m_ 3] (.zH (.str 3)),p5 119 7,p5 120 2,p2 121 [.cv (.func 23 [] []),.m_ 118,.m_ 119,.m_ 120] (.call 3),p3 117 121,qn 122 117 0,p2 123 [.Bv 117] (.ext 1),p3 16 122,p3 17 123] (.seq (p4 [p5 124 17,qw 125 124 0 .neq] (.cond (.m_ 125) (p4 [p5 126 17,qw 127 126 3 .eql,p3 128 127,ch 129 [.jm 17] 128 false .mR,ch 130 [.Bv 129,.cv (.int .i64 23)] 128 false (.bin .eql),p2 131 [.Bv 128,.cv (.bool true),.Bv 130] .pick,p3 132 131,⟨some 133,[.cv (.func 11 [] [])],some (132,true),none,.call 3⟩,p2 134 [.Bv 132,.Bv 133,.cv (.bool false)] .pick,p3 6 134] .ret) .skip)) (p4 [p2 136 [.Bv 3] (.zH (.str 3)),p3 137 7,p5 138 2,p2 139 [.cv (.func 24 [] []),.m_ 136,.m_ 137,.m_ 138] (.call 3),p3 135 139,qn 140 135 0,p2 141 [.Bv 135] (.ext 1),p3 18 140,p3 19 141] (p4 [p3 142 19,qw 143 142 0 .eql,p3 144 143,ch 145 [.jm 18] 144 true .mR,ch 146 [.m_ 16] 144 true .mR,ch 147 [.Bv 145,.Bv 146] 144 true (.bin .eql),p2 148 [.Bv 144,.Bv 147,.cv (.bool false)] .pick,p3 149 148,ch 150 [.m_ 16] 149 true .mR,ch 151 [.jm 2] 149 true .mR,ch 152 [.jm 151] 149 true .zM,ch 153 [.Bv 150,.Bv 152] 149 true (.bin .eql),p2 154 [.Bv 149,.Bv 153,.cv (.bool false)] .pick,p3 155 154,ch 156 [.jm 16] 155 true .mR,ch 157 [.jm 8] 155 true .mR,ch 158 [.Bv 156,.Bv 157] 155 true (.bin .geq),p2 159 [.Bv 155,.Bv 158,.cv (.bool false)] .pick,p3 160 159,⟨some 161,[.cv (.func 11 [] [])],some (160,true),none,.call 3⟩,p2 162 [.Bv 160,.Bv 161,.cv (.bool false)] .pick,p3 6 162] .ret)))))))))))))
theorem aer:qt Try.prog UA 5=some (ZZ,163,[.tmp 6]):=by kernel_rfl
def Qn (p:(qk×(Int×Int))) (qJ:qa) (own:(List (Int×(Int×Int)))):Option Bool :=
 (LF p).bind fun aS =>
 if aS=true then
  if (decide ((20:Int)<(qJ.length:Int)))=true then
   (rI).bind fun bh =>
   some bh
  else
   if (decide ((7:Int)<(own.length:Int)))=true then
    (rI).bind fun eH =>
    some eH
   else
    (LG (p.1.length:Int) qJ).bind fun qB =>
    (Ii p qB).bind fun r5 =>
    (Kq p qB).bind fun r6 =>
    (H_ p qB).bind fun r7 =>
    if (decide (r5.2≠(0:Int)))=true then
     some false
    else
     if (decide (r6.2≠(0:Int)))=true then
      some false
     else
      if (decide (r7.2≠(0:Int)))=true then
       some false
      else
       if (decide ((r6.1.length:Int)≠r5.1))=true then
        some false
       else
        qx ((2:Int)≠0) <|
        if (decide ((w ((qB.length:Int).tdiv (2:Int)))<r5.1))=true then
         some false
        else
         if ((decide (r5.1=(0:Int))) == (decide (r7.1=(0:Int))))=true then
          (Ix p qB r6.1).bind fun HG =>
          (Lz p qB r6.1).bind fun Hr =>
          if (decide (HG.2≠(0:Int)))=true then
           some false
          else
           if (decide (Hr.2≠(0:Int)))=true then
            some false
           else
            if (decide (HG.1≠r5.1))=true then
             some false
            else
             if (decide (Hr.1≠r5.1))=true then
              some false
             else
              (Ix p qB own).bind fun Hj =>
              if (decide (Hj.2≠(0:Int)))=true then
               if (decide (Hj.2=(3:Int)))=true then
                (rI).bind fun I0 =>
                some I0
               else
                if (decide (Hj.2=(23:Int)))=true then
                 (rI).bind fun Iu =>
                 some Iu
                else
                 some false
              else
               (Lz p qB own).bind fun Jc =>
               if (decide (Jc.2=(0:Int)))=true then
                if (decide (Jc.1=Hj.1))=true then
                 if (decide (Hj.1=(own.length:Int)))=true then
                  if (decide (r5.1≤Hj.1))=true then
                   (rI).bind fun Jr =>
                   some Jr
                  else
                   some false
                 else
                  some false
                else
                 some false
               else
                some false
         else
          some false
 else
  (rI).bind fun Js =>
  some Js
theorem ahV {p:(qk×(Int×Int))} {qJ:qa} {own:(List (Int×(Int×Int)))} {v:Bool} (h:Qn p qJ own=some v):qy 5 [(.agg [(.av (p.1.flatMap p') p.1.length .shared),(hX p.2.1),(hX p.2.2)]),(.av (qJ.map Hz) qJ.length .shared),(.av (own.flatMap qm) own.length .shared)] (B v):=by
 refine qQ eD aer rfl rfl fun Q bo=>?_;have jG:qL [.tmp 6] Q (fun v=>(B v)) v:=fun T H bD=>bo _ T H bD;unfold Qn at h;unfold ZZ;conv=>whnf
 obtain ⟨aS,gJ,h⟩:=p9 h;refine ⟨qb.pl,_,Qt gJ,?_⟩;conv=>whnf
 cases aS
 ·conv=>whnf
  replace h:=rK rfl h;obtain ⟨Js,JV,h⟩:=p9 h;refine ⟨rfl,_,r9 JV,?_⟩;conv=>whnf
  exact p_ h jG rfl rfl
 ·conv=>whnf
  replace h:=rJ rfl h;refine bs h (fun gK h=>?_) fun gK h=>?_
  ·rw [gK];(conv=>whnf);obtain ⟨bh,qu,h⟩:=p9 h;refine ⟨rfl,_,r9 qu,?_⟩;(conv=>whnf);exact p_ h jG rfl rfl
  ·rw [gK];(conv=>whnf);refine bs h (fun qH h=>?_) fun qH h=>?_
   ·rw [qH];(conv=>whnf);obtain ⟨eH,qU,h⟩:=p9 h;refine ⟨rfl,_,r9 qU,?_⟩;(conv=>whnf);exact p_ h jG rfl rfl
   ·rw [qH];(conv=>whnf);obtain ⟨qB,ru,h⟩:=p9 h;refine ⟨qb.pl,_,Qv ru,?_⟩;(conv=>whnf);obtain ⟨r5,qS,h⟩:=p9 h;refine ⟨qb.pl,_,LD qS,?_⟩;(conv=>whnf);obtain ⟨r6,rH,h⟩:=p9 h;refine ⟨qb.pl,_,Qr rH,?_⟩;(conv=>whnf);obtain ⟨r7,ra,h⟩:=p9 h;refine ⟨qb.pl,_,K4 ra,?_⟩;(conv=>whnf);refine bs h (fun rq h=>?_) fun rq h=>?_
    ·rw [rq];(conv=>whnf);exact p_ h jG rfl rfl
    ·rw [rq];(conv=>whnf);refine bs h (fun r8 h=>?_) fun r8 h=>?_
     ·rw [r8];(conv=>whnf);exact p_ h jG rfl rfl
     ·rw [r8];(conv=>whnf);refine bs h (fun sa h=>?_) fun sa h=>?_
      ·rw [sa];(conv=>whnf);exact p_ h jG rfl rfl
      ·rw [sa];(conv=>whnf);refine bs h (fun Hp h=>?_) fun Hp h=>?_
       ·rw [Hp];(conv=>whnf);exact p_ h jG rfl rfl
       ·rw [Hp];(conv=>whnf);refine qN h id fun Ie h=>?_;(conv=>whnf);refine bs h (fun Hq h=>?_) fun Hq h=>?_
        ·rw [Hq];(conv=>whnf);exact p_ h jG rfl rfl
        ·rw [Hq];(conv=>whnf);refine bs h (fun H4 h=>?_) fun H4 h=>?_
         ·rw [H4];(conv=>whnf);obtain ⟨HG,Io,h⟩:=p9 h;refine ⟨qb.pl,_,Ly Io,?_⟩;(conv=>whnf);obtain ⟨Hr,IK,h⟩:=p9 h;refine ⟨qb.pl,_,Tv IK,?_⟩;(conv=>whnf);refine bs h (fun H5 h=>?_) fun H5 h=>?_
          ·rw [H5];(conv=>whnf);exact p_ h jG rfl rfl
          ·rw [H5];(conv=>whnf);refine bs h (fun H6 h=>?_) fun H6 h=>?_
           ·rw [H6];(conv=>whnf);exact p_ h jG rfl rfl
           ·rw [H6];(conv=>whnf);refine bs h (fun Ip h=>?_) fun Ip h=>?_
            ·rw [Ip];(conv=>whnf);exact p_ h jG rfl rfl
            ·rw [Ip];(conv=>whnf);refine bs h (fun IL h=>?_) fun IL h=>?_
             ·rw [IL];(conv=>whnf);exact p_ h jG rfl rfl
             ·rw [IL];(conv=>whnf);obtain ⟨Hj,IM,h⟩:=p9 h;refine ⟨qb.pl,_,Ly IM,?_⟩;(conv=>whnf);refine bs h (fun JA h=>?_) fun JA h=>?_
              ·rw [JA];(conv=>whnf);refine bs h (fun IP h=>?_) fun IP h=>?_
               ·rw [IP];(conv=>whnf);obtain ⟨I0,IQ,h⟩:=p9 h;refine ⟨rfl,_,r9 IQ,?_⟩;(conv=>whnf);exact p_ h jG rfl rfl
               ·rw [IP];(conv=>whnf);refine bs h (fun Iq h=>?_) fun Iq h=>?_
                ·rw [Iq];(conv=>whnf);obtain ⟨Iu,IU,h⟩:=p9 h;refine ⟨rfl,_,r9 IU,?_⟩;(conv=>whnf);exact p_ h jG rfl rfl
                ·rw [Iq];(conv=>whnf);exact p_ h jG rfl rfl
              ·rw [JA];(conv=>whnf);obtain ⟨Jc,JS,h⟩:=p9 h;refine ⟨qb.pl,_,Tv JS,?_⟩;(conv=>whnf);refine bs h (fun Jk h=>?_) fun Jk h=>?_
               ·rw [Jk];(conv=>whnf);refine bs h (fun JT h=>?_) fun JT h=>?_
                ·rw [JT];(conv=>whnf);refine bs h (fun Jl h=>?_) fun Jl h=>?_
                 ·rw [Jl];(conv=>whnf);refine bs h (fun IV h=>?_) fun IV h=>?_
                  ·rw [IV];(conv=>whnf);obtain ⟨Jr,JU,h⟩:=p9 h;refine ⟨rfl,_,r9 JU,?_⟩;(conv=>whnf);exact p_ h jG rfl rfl
                  ·rw [IV];(conv=>whnf);exact p_ h jG rfl rfl
                 ·rw [Jl];(conv=>whnf);exact p_ h jG rfl rfl
                ·rw [JT];(conv=>whnf);exact p_ h jG rfl rfl
               ·rw [Jk];(conv=>whnf);exact p_ h jG rfl rfl
         ·rw [H4];(conv=>whnf);exact p_ h jG rfl rfl

noncomputable def QM:gB :=
 .loop (some (qc false [5,1,1,1,1,1,1,1,1,1,1,1,128])) (.seq (p4 [p5 79 15,p5 80 7,qZ 81 80,qv 82 79 81 .lss] (.cond (.m_ 82) .skip (.exit 0))) (.seq (.block 1 (.seq (q4 [p5 85 7,p5 86 15,rk 87 85 86 1,qj 88 87,qw 89 88 0 .lss,p3 90 89,ch 91 [.m_ 7] 90 false .mR,ch 92 [.m_ 15] 90 false .mR,ch 93 [.Bv 91,.Bv 92] 90 false (.kV 1),ch 94 [.Bv 93] 90 false (.zH .one),ch 95 [.m_ 5] 90 false .mR,ch 96 [.Bv 94,.Bv 95] 90 false (.bin .geq),p2 97 [.m_ 90,.cv (.bool true),.Bv 96] .pick,p3 98 97,ch 99 [.m_ 15] 98 false .mR,ch 100 [.Bv 99,.cv (.int .i64 0)] 98 false (.bin .gtr),ch 101 [.jm 100] 98 false .mR,ch 102 [.m_ 7] 101 true .mR,ch 103 [.m_ 15] 101 true .mR,ch 104 [.Bv 102,.Bv 103] 101 true (.kV 1),ch 105 [.Bv 104] 101 true (.zH .one),ch 106 [.m_ 7] 101 true .mR,ch 107 [.m_ 15] 101 true .mR,ch 108 [.Bv 107,.cv (.int .i64 1)] 101 true (.bin .sub),ch 109 [.Bv 106,.Bv 108] 101 true (.kV 1),ch 110 [.Bv 109] 101 true (.zH .one),ch 111 [.Bv 105,.Bv 110] 101 true (.bin .leq),ch 112 [.m_ 101,.Bv 111,.cv (.bool false)] 98 false .pick,p2 113 [.m_ 98,.cv (.bool true),.Bv 112] .pick]) (.cond (.m_ 113) (p4 [p2 4 [.cv (.bool false)] .mR] .ret) .skip))) (qR [p3 83 15,qY 84 83 1,p3 15 84])))
noncomputable def Z0:gB :=
 p4 [p2 2 [.jm 0] .box,p2 4 [.cv (.bool false)] .mR] (.seq (p4 [p2 16 [.m_ 2] (.zH (.str 3)),p2 17 [.cv (.func 18 [] []),.m_ 16] (.call 3),p2 18 [.Bv 17] (.un .not),p3 19 18,ch 20 [.m_ 1] 19 false .mR,ch 21 [.jm 20] 19 false .zM,ch 22 [.Bv 21,.cv (.int .i64 20)] 19 false (.bin .gtr),p2 23 [.Bv 19,.cv (.bool true),.Bv 22] .pick] (.cond (.m_ 23) (p4 [p2 24 [.cv (.func 11 [] [])] (.call 3),p3 4 24] .ret) .skip)) (p4 [p2 25 [.m_ 2] (.yP 0),qj 26 25,qZ 27 26,p3 5 27] (p4 [p5 28 5,p3 29 1,p2 30 [.cv (.func 19 [] []),.m_ 28,.m_ 29] (.call 3),p3 6 30] (p4 [p2 32 [.m_ 2] (.zH (.str 3)),p2 33 [.cv (.func 25 [] []),.m_ 32] (.call 3),p3 31 33,qn 34 31 0,p2 35 [.Bv 31] (.ext 1),p3 7 34,p3 8 35] (p4 [p2 37 [.m_ 2] (.zH (.str 3)),p2 38 [.cv (.func 20 [] []),.m_ 37] (.call 3),p3 36 38,qn 39 36 0,p2 40 [.Bv 36] (.ext 1),p3 9 39,p3 10 40] (p4 [p2 42 [.m_ 2] (.zH (.str 3)),p5 43 6,p2 44 [.cv (.func 21 [] []),.m_ 42,.m_ 43] (.call 3),p3 41 44,qn 45 41 0,p2 46 [.Bv 41] (.ext 1),p3 11 45,p3 12 46] (p4 [p2 48 [.Bv 2] (.zH (.str 3)),p3 49 6,p2 50 [.cv (.func 22 [] []),.m_ 48,.m_ 49] (.call 3),p3 47 50,qn 51 47 0,p2 52 [.Bv 47] (.ext 1),p3 13 51,p3 14 52] (.seq (p4 [p3 53 8,qw 54 53 0 .neq,p3 55 54,ch 56 [.jm 10] 55 false .mR,ch 57 [.Bv 56,.cv (.int .i64 0)] 55 false (.bin .neq),p2 58 [.Bv 55,.cv (.bool true),.Bv 57] .pick,p3 59 58,ch 60 [.jm 12] 59 false .mR,ch 61 [.Bv 60,.cv (.int .i64 0)] 59 false (.bin .neq),p2 62 [.Bv 59,.cv (.bool true),.Bv 61] .pick,p3 63 62,ch 64 [.jm 14] 63 false .mR,ch 65 [.Bv 64,.cv (.int .i64 0)] 63 false (.bin .neq),p2 66 [.Bv 63,.cv (.bool true),.Bv 65] .pick,p3 67 66,ch 68 [.m_ 13] 67 false .mR,ch 69 [.jm 68] 67 false .zM,ch 70 [.m_ 11] 67 false .mR,ch 71 [.Bv 69,.Bv 70] 67 false (.bin .neq),p2 72 [.Bv 67,.cv (.bool true),.Bv 71] .pick,p3 73 72,ch 74 [.m_ 7] 73 false .mR,ch 75 [.jm 74] 73 false .zM,ch 76 [.m_ 5] 73 false .mR,ch 77 [.Bv 75,.Bv 76] 73 false (.bin .gtr),p2 78 [.Bv 73,.cv (.bool true),.Bv 77] .pick] (.cond (.m_ 78) (p4 [p2 4 [.cv (.bool false)] .mR] .ret) .skip)) (.seq (p4 [qg 15 0] (.block 0 QM)) (.seq (p4 [p3 114 9,qw 115 114 0 .gtr,p3 116 115,ch 117 [.m_ 7] 116 true .mR,ch 118 [.jm 117] 116 true .zM,ch 119 [.jm 5] 116 true .mR,ch 120 [.Bv 118,.Bv 119] 116 true (.bin .neq),p2 121 [.Bv 116,.Bv 120,.cv (.bool false)] .pick,p3 122 121,ch 123 [.m_ 7] 122 false .mR,ch 124 [.jm 123] 122 false .zM,ch 125 [.Bv 124,.cv (.int .i64 0)] 122 false (.bin .eql),ch 126 [.jm 125] 122 false .mR,ch 127 [.m_ 11] 126 true .mR,ch 128 [.Bv 127,.cv (.int .i64 2)] 126 true (.bin .lss),ch 129 [.Bv 126,.Bv 128,.cv (.bool false)] 122 false .pick,p2 130 [.Bv 122,.cv (.bool true),.Bv 129] .pick] (.cond (.m_ 130) (p4 [p2 4 [.cv (.bool false)] .mR] .ret) .skip)) (p4 [p3 131 11,qw 132 131 1 .neq,p3 133 132,ch 134 [.jm 7] 133 false .mR,ch 135 [.jm 13] 133 false .mR,ch 136 [.Bv 135,.cv (.int .i64 0)] 133 false (.kV 3),ch 137 [.Bv 136] 133 false (.yP 0),ch 138 [.Bv 137] 133 false (.zH .one),⟨some 139,[.cv (.func 26 [] []),.m_ 134,.m_ 138],some (133,false),none,.call 3⟩,p2 140 [.Bv 133,.cv (.bool true),.Bv 139] .pick,p3 141 140,⟨some 142,[.cv (.func 11 [] [])],some (141,true),none,.call 3⟩,p2 143 [.Bv 141,.Bv 142,.cv (.bool false)] .pick,p3 4 143] .ret)))))))))))
theorem aes:qt Try.prog Rm 6=some (Z0,144,[.tmp 4]):=by kernel_rfl
def LB (p:(qk×(Int×Int))) (qB:(qa×Int)) (qf:Unit→Option Bool):Nat→Int→Option Bool
 | 0,_=>none
 | m+1,s1 =>
   if (decide (s1<(qB.1.length:Int)))=true then
    qx (0≤s1∧s1<(qB.1.length:Int)) <|
    if (decide ((ix qB.1 s1)<(0:Int)))=true then
     some false
    else
     qx (0≤s1∧s1<(qB.1.length:Int)) <|
     if (decide ((p.1.length:Int)≤(ix qB.1 s1)))=true then
      some false
     else
      if (decide ((0:Int)<s1))=true then
       qx (0≤s1∧s1<(qB.1.length:Int)) <|
       qx (0≤(w (s1-(1:Int)))∧(w (s1-(1:Int)))<(qB.1.length:Int)) <|
       if (decide ((ix qB.1 s1)≤(ix qB.1 (w (s1-(1:Int))))))=true then
        some false
       else
        LB p qB qf m (w (s1+(1:Int)))
      else
       LB p qB qf m (w (s1+(1:Int)))
   else
    qf ()
def Qo (p:(qk×(Int×Int))) (qJ:qa):Option Bool :=
 (LF p).bind fun aS =>
 if aS=true then
  if (decide ((20:Int)<(qJ.length:Int)))=true then
   (rI).bind fun bh =>
   some bh
  else
   (LG (p.1.length:Int) qJ).bind fun eH =>
   (Mm p).bind fun qB =>
   (JI p).bind fun r5 =>
   (Ii p eH).bind fun r6 =>
   (Kq p eH).bind fun r7 =>
   if (decide (qB.2≠(0:Int)))=true then
    some false
   else
    if (decide (r5.2≠(0:Int)))=true then
     some false
    else
     if (decide (r6.2≠(0:Int)))=true then
      some false
     else
      if (decide (r7.2≠(0:Int)))=true then
       some false
      else
       if (decide ((r7.1.length:Int)≠r6.1))=true then
        some false
       else
        if (decide ((p.1.length:Int)<(qB.1.length:Int)))=true then
         some false
        else
         LB p qB (fun _ =>
           if (decide ((0:Int)<r5.1))=true then
            if (decide ((qB.1.length:Int)≠(p.1.length:Int)))=true then
             some false
            else
             if (decide ((qB.1.length:Int)=(0:Int)))=true then
              if (decide (r6.1<(2:Int)))=true then
               some false
              else
               if (decide (r6.1≠(1:Int)))=true then
                (rI).bind fun HG =>
                some HG
               else
                qx (0≤(0:Int)∧(0:Int)<(r7.1.length:Int)) <|
                (Kt qB.1 ((ix r7.1 (0:Int)).1)).bind fun Hr =>
                if Hr=true then
                 (rI).bind fun Hj =>
                 some Hj
                else
                 some false
             else
              if (decide (r6.1≠(1:Int)))=true then
               (rI).bind fun I0 =>
               some I0
              else
               qx (0≤(0:Int)∧(0:Int)<(r7.1.length:Int)) <|
               (Kt qB.1 ((ix r7.1 (0:Int)).1)).bind fun Iu =>
               if Iu=true then
                (rI).bind fun Jc =>
                some Jc
               else
                some false
           else
            if (decide ((qB.1.length:Int)=(0:Int)))=true then
             if (decide (r6.1<(2:Int)))=true then
              some false
             else
              if (decide (r6.1≠(1:Int)))=true then
               (rI).bind fun Jr =>
               some Jr
              else
               qx (0≤(0:Int)∧(0:Int)<(r7.1.length:Int)) <|
               (Kt qB.1 ((ix r7.1 (0:Int)).1)).bind fun Js =>
               if Js=true then
                (rI).bind fun Lp =>
                some Lp
               else
                some false
            else
             if (decide (r6.1≠(1:Int)))=true then
              (rI).bind fun Lq =>
              some Lq
             else
              qx (0≤(0:Int)∧(0:Int)<(r7.1.length:Int)) <|
              (Kt qB.1 ((ix r7.1 (0:Int)).1)).bind fun Kp =>
              if Kp=true then
               (rI).bind fun KX =>
               some KX
              else
               some false) ql (0:Int)
 else
  (rI).bind fun Lr =>
  some Lr
theorem ahX {p:(qk×(Int×Int))} {qB:(qa×Int)} {qf:Unit→Option Bool} {s1:Int} {r5:(Int×Int)} {r6:(Int×Int)} {r7:((List (Int×(Int×Int)))×Int)} {v:Bool} {Q:Hm} {bw:ar}  (jG:qL [.tmp 4] Q (fun v=>(B v)) v) (rm:∀ (qe:List I),qf ()=some v→rr 144 [(5,(hX (p.1.length:Int))),(7,(qF qB.1 .shared)),(9,(hX r5.1)),(11,(hX r6.1)),(13,(.av (r7.1.flatMap qm) r7.1.length .shared))] qe→Q (.exit 0) qe [bw]) {T:List I} (bZ:eW (qc false [5,1,1,1,1,1,1,1,1,1,1,1,128]) T=qh 144 [(5,(hX (p.1.length:Int))),(7,(qF qB.1 .shared)),(9,(hX r5.1)),(11,(hX r6.1)),(13,(.av (r7.1.flatMap qm) r7.1.length .shared)),(15,(hX s1))]) (h:LB p qB qf ql s1=some v) :
  dN Try.prog Rm 6 0 none QM T [bw] Q:=by
 unfold QM;refine wp_loop bZ ?_;refine .intro (fun m T H=>∃ (s1:Int),T=qh 144 [(5,(hX (p.1.length:Int))),(7,(qF qB.1 .shared)),(9,(hX r5.1)),(11,(hX r6.1)),(13,(.av (r7.1.flatMap qm) r7.1.length .shared)),(15,(hX s1))]∧H=[bw]∧LB p qB qf m s1=some v) ql ⟨s1,rfl,rfl,h⟩ ?_;clear h bZ;rintro m T H ⟨s1,rfl,rfl,h⟩;cases m
 ·exact r3 h
 rename_i m;rw [LB.eq_2] at h;conv=>whnf
 refine bs h (fun Hq h=>?_) fun Hq h=>?_
 ·rw [Hq];conv=>whnf
  refine qN h id fun H4 h=>?_;rw [rh hX qB.1 s1 H4];conv=>whnf
  refine bs h (fun Io h=>?_) fun Io h=>?_
  ·rw [Io];(conv=>whnf);exact p_ h jG rfl rfl
  ·rw [Io];(conv=>whnf);refine qN h id fun IK h=>?_;rw [rh hX qB.1 s1 IK];(conv=>whnf);refine bs h (fun H5 h=>?_) fun H5 h=>?_
   ·rw [H5];(conv=>whnf);exact p_ h jG rfl rfl
   ·rw [H5];(conv=>whnf);refine bs h (fun H6 h=>?_) fun H6 h=>?_
    ·rw [H6];(conv=>whnf);refine qN h id fun Ip h=>?_;rw [rh hX qB.1 s1 Ip];(conv=>whnf);refine qN h id fun IL h=>?_;rw [rh hX qB.1 (w (s1-(1:Int))) IL];(conv=>whnf);refine bs h (fun IM h=>?_) fun IM h=>?_
     ·rw [IM];(conv=>whnf);exact p_ h jG rfl rfl
     ·rw [IM];(conv=>whnf);exact ⟨m,sC m,(w (s1+(1:Int))),rfl,rfl,h⟩
    ·rw [H6];(conv=>whnf);exact ⟨m,sC m,(w (s1+(1:Int))),rfl,rfl,h⟩
 ·rw [Hq];conv=>whnf
  exact rm  _ h ⟨rfl,rfl⟩
theorem ahY {p:(qk×(Int×Int))} {qJ:qa} {v:Bool} (h:Qo p qJ=some v):qy 6 [(.agg [(.av (p.1.flatMap p') p.1.length .shared),(hX p.2.1),(hX p.2.2)]),(.av (qJ.map Hz) qJ.length .shared)] (B v):=by
 refine qQ eD aes rfl rfl fun Q bo=>?_;have jG:qL [.tmp 4] Q (fun v=>(B v)) v:=fun T H bD=>bo _ T H bD;unfold Qo at h;unfold Z0;obtain ⟨HN,qI⟩:∃ c,QM=c:=⟨_,rfl⟩;rw [qI];conv=>whnf
 obtain ⟨aS,gJ,h⟩:=p9 h;refine ⟨qb.pl,_,Qt gJ,?_⟩;conv=>whnf
 cases aS
 ·conv=>whnf
  replace h:=rK rfl h;obtain ⟨Lr,KM,h⟩:=p9 h;refine ⟨rfl,_,r9 KM,?_⟩;conv=>whnf
  exact p_ h jG rfl rfl
 ·conv=>whnf
  replace h:=rJ rfl h;refine bs h (fun gK h=>?_) fun gK h=>?_
  ·rw [gK];(conv=>whnf);obtain ⟨bh,qu,h⟩:=p9 h;refine ⟨rfl,_,r9 qu,?_⟩;(conv=>whnf);exact p_ h jG rfl rfl
  ·rw [gK];(conv=>whnf);obtain ⟨eH,qH,h⟩:=p9 h;refine ⟨qb.pl,_,Qv qH,?_⟩;(conv=>whnf);obtain ⟨qB,qU,h⟩:=p9 h;refine ⟨qb.pl,_,Zm qU,?_⟩;(conv=>whnf);obtain ⟨r5,ru,h⟩:=p9 h;refine ⟨qb.pl,_,OO ru,?_⟩;(conv=>whnf);obtain ⟨r6,qS,h⟩:=p9 h;refine ⟨qb.pl,_,LD qS,?_⟩;(conv=>whnf);obtain ⟨r7,rH,h⟩:=p9 h;refine ⟨qb.pl,_,Qr rH,?_⟩;(conv=>whnf);refine bs h (fun ra h=>?_) fun ra h=>?_
   ·rw [ra];(conv=>whnf);exact p_ h jG rfl rfl
   ·rw [ra];(conv=>whnf);refine bs h (fun rq h=>?_) fun rq h=>?_
    ·rw [rq];(conv=>whnf);exact p_ h jG rfl rfl
    ·rw [rq];(conv=>whnf);refine bs h (fun r8 h=>?_) fun r8 h=>?_
     ·rw [r8];(conv=>whnf);exact p_ h jG rfl rfl
     ·rw [r8];(conv=>whnf);refine bs h (fun sa h=>?_) fun sa h=>?_
      ·rw [sa];(conv=>whnf);exact p_ h jG rfl rfl
      ·rw [sa];(conv=>whnf);refine bs h (fun Hp h=>?_) fun Hp h=>?_
       ·rw [Hp];(conv=>whnf);exact p_ h jG rfl rfl
       ·rw [Hp];(conv=>whnf);refine bs h (fun Ie h=>?_) fun Ie h=>?_
        ·rw [Ie];(conv=>whnf);exact p_ h jG rfl rfl
        ·rw [Ie];(conv=>whnf);subst qI;refine ahX (r5:=r5) (r6:=r6) (r7:=r7) ?_ ?_ (by exact rfl) h
         ·exact fun T H bD=>jG T H bD
         ·intro  qe h qA;obtain ⟨rn,rfl⟩:=qA.ex;(conv=>whnf);refine bs h (fun JA h=>?_) fun JA h=>?_
          ·rw [JA];(conv=>whnf);refine bs h (fun IP h=>?_) fun IP h=>?_
           ·rw [IP];(conv=>whnf);exact p_ h jG rfl rfl
           ·rw [IP];(conv=>whnf);refine bs h (fun IQ h=>?_) fun IQ h=>?_
            ·rw [IQ];(conv=>whnf);refine bs h (fun Iq h=>?_) fun Iq h=>?_
             ·rw [Iq];(conv=>whnf);exact p_ h jG rfl rfl
             ·rw [Iq];(conv=>whnf);refine bs h (fun IU h=>?_) fun IU h=>?_
              ·rw [IU];(conv=>whnf);obtain ⟨HG,JS,h⟩:=p9 h;refine ⟨rfl,_,r9 JS,?_⟩;(conv=>whnf);exact p_ h jG rfl rfl
              ·rw [IU];(conv=>whnf);refine qN h id fun Jk h=>?_;rw [H3 qm 3 Hw r7.1 (0:Int) Jk];(conv=>whnf);obtain ⟨Hr,JT,h⟩:=p9 h;refine ⟨qb.pl,_,O4 JT,?_⟩;(conv=>whnf);cases Hr
               ·(conv=>whnf);replace h:=rK rfl h;exact p_ h jG rfl rfl
               ·(conv=>whnf);replace h:=rJ rfl h;obtain ⟨Hj,Jl,h⟩:=p9 h;refine ⟨rfl,_,r9 Jl,?_⟩;(conv=>whnf);exact p_ h jG rfl rfl
            ·rw [IQ];(conv=>whnf);refine bs h (fun IV h=>?_) fun IV h=>?_
             ·rw [IV];(conv=>whnf);obtain ⟨I0,JU,h⟩:=p9 h;refine ⟨rfl,_,r9 JU,?_⟩;(conv=>whnf);exact p_ h jG rfl rfl
             ·rw [IV];(conv=>whnf);refine qN h id fun JV h=>?_;rw [H3 qm 3 Hw r7.1 (0:Int) JV];(conv=>whnf);obtain ⟨Iu,KA,h⟩:=p9 h;refine ⟨qb.pl,_,O4 KA,?_⟩;(conv=>whnf);cases Iu
              ·(conv=>whnf);replace h:=rK rfl h;exact p_ h jG rfl rfl
              ·(conv=>whnf);replace h:=rJ rfl h;obtain ⟨Jc,KB,h⟩:=p9 h;refine ⟨rfl,_,r9 KB,?_⟩;(conv=>whnf);exact p_ h jG rfl rfl
          ·rw [JA];(conv=>whnf);refine bs h (fun JW h=>?_) fun JW h=>?_
           ·rw [JW];(conv=>whnf);refine bs h (fun KC h=>?_) fun KC h=>?_
            ·rw [KC];(conv=>whnf);exact p_ h jG rfl rfl
            ·rw [KC];(conv=>whnf);refine bs h (fun KD h=>?_) fun KD h=>?_
             ·rw [KD];(conv=>whnf);obtain ⟨Jr,KE,h⟩:=p9 h;refine ⟨rfl,_,r9 KE,?_⟩;(conv=>whnf);exact p_ h jG rfl rfl
             ·rw [KD];(conv=>whnf);refine qN h id fun KF h=>?_;rw [H3 qm 3 Hw r7.1 (0:Int) KF];(conv=>whnf);obtain ⟨Js,KG,h⟩:=p9 h;refine ⟨qb.pl,_,O4 KG,?_⟩;(conv=>whnf);cases Js
              ·(conv=>whnf);replace h:=rK rfl h;exact p_ h jG rfl rfl
              ·(conv=>whnf);replace h:=rJ rfl h;obtain ⟨Lp,KH,h⟩:=p9 h;refine ⟨rfl,_,r9 KH,?_⟩;(conv=>whnf);exact p_ h jG rfl rfl
           ·rw [JW];(conv=>whnf);refine bs h (fun KI h=>?_) fun KI h=>?_
            ·rw [KI];(conv=>whnf);obtain ⟨Lq,L5,h⟩:=p9 h;refine ⟨rfl,_,r9 L5,?_⟩;(conv=>whnf);exact p_ h jG rfl rfl
            ·rw [KI];(conv=>whnf);refine qN h id fun KJ h=>?_;rw [H3 qm 3 Hw r7.1 (0:Int) KJ];(conv=>whnf);obtain ⟨Kp,KK,h⟩:=p9 h;refine ⟨qb.pl,_,O4 KK,?_⟩;(conv=>whnf);cases Kp
             ·(conv=>whnf);replace h:=rK rfl h;exact p_ h jG rfl rfl
             ·(conv=>whnf);replace h:=rJ rfl h;obtain ⟨KX,KL,h⟩:=p9 h;refine ⟨rfl,_,r9 KL,?_⟩;(conv=>whnf);exact p_ h jG rfl rfl
end Go.Proofs.Ytkoioidpbbbaiaa.Ab


namespace Go.Proofs.Ytkoioidpbbbaiaa.Ab
open Go
set_option maxRecDepth 20000
set_option maxHeartbeats 1000000
theorem So {n:Int}:∀ {l:List qq} {m:Int},r2 n l m→∀ c∈l,m≤c.1∧c.1<n∧qV c.2
 | [],_,_,c,ak=>absurd ak (by simp)
 | c::r,m,h,dR,ak=>by
   rcases List.mem_cons.1 ak with rfl | aX
   ·exact ⟨h.1,h.2.1,h.2.2.1⟩
   ·have ab:=So h.2.2.2 dR aX;have ae:=h.1;exact ⟨by omega,ab.2⟩
def tou (o:List Int) (a:Nat) (l:List qq):List Nat:=(List.range o.length).filter fun i=>decide (i % 2=a) && l.any fun c=>decide (c.1=ix o (i:Int))
theorem MW {o:List Int} {a i:Nat} {l:List qq}:i∈tou o a l↔i<o.length∧i % 2=a∧∃ c∈l,c.1=ix o (i:Int):=by
 unfold tou;simp only [sW,List.mem_range,sn,decide_eq_true_eq,List.any_eq_true]
theorem ahi {o:List Int} {l:List qq} (aI:o.Nodup):(tou o 0 l).length+(tou o 1 l).length≤l.length:=by
 have ab:((tou o 0 l++tou o 1 l).map fun i:Nat=>ix o (i:Int)).Nodup:=by
  have a1:(tou o 0 l++tou o 1 l).Nodup:=by
   refine List.nodup_append.2 ⟨uj.sublist ur,uj.sublist ur,fun x aj y aY e=>?_⟩;have:=(MW.1 aj).2.1;have:=(MW.1 aY).2.1;omega
  refine List.pairwise_map.2 (List.Pairwise.imp_of_mem (fun {x y} aj aY N6 e=>N6 ?_) a1);have lt:∀ z,z∈tou o 0 l++tou o 1 l→z<o.length:=fun z bj=>by
   rcases s0.1 bj with h | h <;> exact (MW.1 h).1
  exact JC aI (lt x aj) (lt y aY) e
 have ae:=W5 ab (b:=l.map (·.1)) fun x aj=>by
  obtain ⟨i,hi,rfl⟩:=sD.1 aj
  have:∃ c∈l,c.1=ix o (i:Int):=by rcases s0.1 hi with h | h <;> exact (MW.1 h).2.2
  obtain ⟨c,ak,e⟩:=this;exact sD.2 ⟨c,ak,e⟩
 simpa using ae
section
variable {p:qd} {o:List Int} {l:List qq}
theorem Vn (k:qs p.1.length o) (ao:r2 p.1.length l 0) {a:Nat} (aP:∀ d,d=p.2.1∨d=p.2.2→ri (q7 l p.1) o a (q_ d)=0):rb p o a≤(tou o a l).length:=by
 have pY:∀ i:Nat,i<o.length→i % 2=a→i ∉ tou o a l→qp (q7 l p.1) o i=qp p.1 o i:=fun i hi a_ fp =>
  Mf ao (sK _) rfl (r0 k i hi).1 fun c ak e=>fp (MW.2 ⟨hi,a_,c,ak,e⟩)
 match ax:tou o a l with
 | [] =>
   have e:∀ f,ri (q7 l p.1) o a f=ri p.1 o a f:=fun f=>Sm fun j aw a_=>pY j aw a_ (by rw [ax];simp);have pD:HA p o a:=⟨(e _).symm.trans (aP _ (.inl rfl)),(e _).symm.trans (aP _ (.inr rfl))⟩;unfold rb;rw [if_pos pD];simp
 | [i] =>
   obtain ⟨ab,ae,c,ak,e⟩:=MW.1 (show i∈tou o a l by rw [ax];simp);have hc:=OC ao (sK _) (S:=p.1) rfl ak;rw [e] at hc;have hc:qp (q7 l p.1) o i=c.2:=hc;have key:∀ d,d=p.2.1∨d=p.2.2→qP p.1 o a [(i:Int)] (q_ d)+qz o.length i*q_ d c.2=0:=fun d a1=>by
    have:=aP d a1;rw [Oc _ _ _ ab ae,hc,Sk fun j aw a_ bI=>pY j aw a_ (by rw [ax];simpa using bI)] at this;exact this
   have RU:H0 p o a i:=LZ.2 ⟨c.2,(So ao c ak).2.2,key _ (.inl rfl),key _ (.inr rfl)⟩;unfold rb;split
   ·simp
   ·rw [if_pos ⟨i,ab,ae,RU⟩];simp
 | i::j::r =>
   have:=NV p o a;simp only [List.length_cons];omega
theorem Vk (k:qs p.1.length o) (ao:r2 p.1.length l 0) (ak:qX (q7 l p.1,p.2) o=0):rb p o 0+rb p o 1≤l.length:=by
 obtain ⟨⟨f1,f2⟩,f3,f4⟩:=MN.1 ak;have aQ:=Vn k ao (a:=0) fun d a1=>by rcases a1 with rfl | rfl <;> assumption
 have ab:=Vn k ao (a:=1) fun d a1=>by rcases a1 with rfl | rfl <;> assumption
 have:=ahi (l:=l) k.2.1;omega
theorem Pm {a i:Nat} (h:i<o.length∧i % 2=a∧H0 p o a i):rb p o a≤1:=by
 unfold rb;split
 ·omega
 ·rw [if_pos ⟨i,h⟩];exact Nat.le_refl _
theorem acb (h:qW p) (k:qs p.1.length o):rb p o 0+rb p o 1≤o.length / 2:=by
 have aI:=h.n;rw [←k.1] at aI;have db:=NV p o 0;have bl:=NV p o 1;rcases aI with aI | aI | aI
 ·have f_:=Pm (Oa h k (a:=0) (i:=2) (.inl ⟨aI,rfl,rfl⟩));have e1:rb p o 1=0:=MO ⟨PI aI,PI aI⟩;omega
 ·have f_:=Pm (Oa h k (a:=0) (i:=4) (.inr (.inl ⟨aI,rfl,rfl⟩)));have e1:=Pm (Oa h k (a:=1) (i:=3) (.inr (.inr (.inl ⟨aI,rfl,rfl⟩))));omega
 ·have e1:=Pm (Oa h k (a:=1) (i:=5) (.inr (.inr (.inr ⟨aI,rfl,rfl⟩))));omega
theorem Vj {a:Nat}:rb p o a=0↔HA p o a:=by
 constructor
 ·intro h;unfold rb at h;split at h
  ·assumption
  ·split at h <;> cases h
 ·exact MO
theorem Vi:rb p o 0+rb p o 1=0↔qX p o=0:=by
 rw [MN,←Vj,←Vj];omega
theorem Tw (h:qW p) (k:qs p.1.length o):∃ l,Kq p o=some (l,0)∧l.length=rb p o 0+rb p o 1∧r2 p.1.length l 0∧qX (q7 l p.1,p.2) o=0:=by
 have aI:=h.len;have al:=k.1;obtain ⟨l,ab,ae⟩:=NA (p:=p) (o:=o) (by omega) (by omega);have rv:=M0 h k;rw [if_pos rv] at ab;exact ⟨l,ab,ae rv⟩
theorem ahW (p:qd) {Q:List Int} (bo:∀ b∈Q,0≤b∧b≤255) (own:List qq):Qn p Q own=some true:=by
 unfold Qn;rw [Qs,sc];by_cases ak:ry p=0
 ·rw [if_pos (decide_eq_true ak)];have h:=JL.1 ak;have aI:=h.len;by_cases a_:(20:Int)<(Q.length:Int)
  ·rw [if_pos (decide_eq_true a_),works];rfl
  rw [if_neg (by simpa using a_)];by_cases hw:(7:Int)<(own.length:Int)
  ·rw [if_pos (decide_eq_true hw),works];rfl
  rw [if_neg (by simpa using hw)];obtain ⟨o,k,aq⟩:=Qu (n:=p.1.length) (by omega) bo (by omega);have al:=k.1;obtain ⟨l,e1,b9,dx,lX⟩:=Tw h k;have bD:=acb h k;have rv:=M0 h k;have RX:=Vi (p:=p) (o:=o);rw [aq,sc,OT h k,sc,e1,sc,Tx h k,sc];simp only;have iK:w ((o.length:Int).tdiv 2)=((o.length / 2:Nat):Int):=by rw [vG (by omega),qK (by omega)];omega
  rw [if_neg (by simp),if_neg (by simp),if_neg (by simp),if_neg (by rw [b9];simp),qD (by decide),iK,if_neg (by rw [decide_eq_true_eq];omega)];have o8:(decide (((rb p o 0+rb p o 1:Nat):Int)=0) == decide (qX p o=0))=true:=by
   rw [beq_iff_eq,Bool.eq_iff_iff,decide_eq_true_eq,decide_eq_true_eq,←RX];omega
  rw [if_pos o8,Lx (by omega) (by omega) (by omega),sc,Tu (by omega) (by omega) (by omega),sc,if_pos rv,if_pos dx,if_neg (show ¬ 0<qX (q7 l p.1,p.2) o by omega)];rw [if_neg (by simp),if_neg (by simp),if_neg (by rw [b9];simp),if_neg (by rw [b9];simp),Lx (by omega) (by omega) (by omega),sc,if_pos rv,Tu (by omega) (by omega) (by omega),if_pos rv];by_cases aJ:r2 p.1.length own 0
  ·rw [if_pos aJ];by_cases aN:0<qX (q7 own p.1,p.2) o
   ·rw [if_pos aN,if_pos (by simp),if_neg (by simp),if_pos (by simp),works];rfl
   ·rw [if_neg aN];have:=Ve (q7 own p.1,p.2) o;have G1:=Vk k aJ (by omega);rw [if_neg (by simp),sc,if_pos (by simp),if_pos (by simp),if_pos (by simp),if_pos (by rw [decide_eq_true_eq];omega),works];rfl
  ·rw [if_neg aJ,if_pos (by simp),if_pos (by simp),works];rfl
 ·rw [if_neg (by simpa using ak),works];rfl
theorem Xa {n:Nat} {o:List Int} (k:qs n o) {s:Int} (ah:0≤s∧s<(n:Int)):∃ i:Nat,i<o.length∧ix o (i:Int)=s:=by
 have:s∈o:=(KS.1 k).mem_iff.2 (MX.2 ah)
 obtain ⟨i,hi,e⟩:=List.getElem_of_mem this;exact ⟨i,hi,by rw [rB hi];exact e⟩
theorem Sh {s:Int}:s∈HZ p↔(0≤s∧s<(p.1.length:Int))∧HL p s.toNat=true:=by
 unfold HZ;rw [sW,MX]
theorem V3 (k:qs p.1.length o) {i:Nat} (hi:i<o.length) (ab:HA p o (1-i % 2)) (ae:H0 p o (i % 2) i):ix o (i:Int)∈HZ p :=
 Sh.2 ⟨r0 k i hi,Ru.2 ⟨o,k,i,hi,rfl,by unfold Da;rw [decide_eq_true ab,decide_eq_true ae];rfl⟩⟩
theorem U2 (h:qW p) (aP:0<Kk p):HZ p=qo p.1.length:=by
 obtain ⟨o,k,aQ⟩:=(Vs p).1 aP;obtain ⟨f0,f1⟩:=MN.1 aQ;unfold HZ;refine List.filter_eq_self.2 fun s ah=>?_;obtain ⟨i,hi,e⟩:=Xa k (MX.1 ah);have pD:∀ a,a<2→HA p o a:=fun a cq=>by
  rcases (show a=0∨a=1 by omega) with rfl | rfl
  ·exact f0
  ·exact f1
 have a_:=pD (i % 2) (by omega);have RU:H0 p o (i % 2) i:=LZ.2 ⟨qp p.1 o i,I1 h.s (r0 k) hi,(Oc _ _ _ hi rfl).symm.trans a_.1,(Oc _ _ _ hi rfl).symm.trans a_.2⟩;have:=(Sh.1 (V3 k hi (pD _ (by omega)) RU)).2;rw [e] at this;exact this
theorem U3 (h:qW p) (k:qs p.1.length o) {c:qq} (ao:r2 p.1.length [c] 0) (ak:qX (q7 [c] p.1,p.2) o=0):c.1∈HZ p:=by
 obtain ⟨a7,a9,br⟩:=So ao c (by simp);obtain ⟨i,hi,e⟩:=Xa k ⟨a7,a9⟩;obtain ⟨f0,f1⟩:=MN.1 ak;have pD:∀ a,a<2→∀ d,d=p.2.1∨d=p.2.2→ri (q7 [c] p.1) o a (q_ d)=0:=fun a cq d a1=>by
  rcases (show a=0∨a=1 by omega) with rfl | rfl
  ·rcases a1 with rfl | rfl
   ·exact f0.1
   ·exact f0.2
  ·rcases a1 with rfl | rfl
   ·exact f1.1
   ·exact f1.2
 have pY:∀ j:Nat,j<o.length→j≠i→qp (q7 [c] p.1) o j=qp p.1 o j:=fun j aw bI =>
  Mf ao (sK _) rfl (r0 k j aw).1 fun dR JX cS=>by
   obtain rfl:=sS.1 JX;exact bI (JC k.2.1 aw hi (by rw [e,cS]))
 have hc:=OC ao (sK _) (S:=p.1) rfl (c:=c) (by simp);rw [←e] at hc;have hc:qp (q7 [c] p.1) o i=c.2:=hc;rw [←e];refine V3 k hi ?_ ?_
 ·have b9:∀ f,ri (q7 [c] p.1) o (1-i % 2) f=ri p.1 o (1-i % 2) f:=fun f=>Sm fun j aw a_=>pY j aw (by rintro rfl;omega);exact ⟨(b9 _).symm.trans (pD _ (by omega) _ (.inl rfl)),(b9 _).symm.trans (pD _ (by omega) _ (.inr rfl))⟩
 ·have key:∀ d,d=p.2.1∨d=p.2.2→qP p.1 o (i % 2) [(i:Int)] (q_ d)+qz o.length i*q_ d c.2=0:=fun d a1=>by
   have:=pD (i % 2) (by omega) d a1;rw [Oc _ _ _ hi rfl,hc,Sk fun j aw a_ bI=>pY j aw bI] at this;exact this
  exact LZ.2 ⟨c.2,br,key _ (.inl rfl),key _ (.inr rfl)⟩
theorem abo (h:qW p) (k:qs p.1.length o) (af:HZ p=[]):2≤rb p o 0+rb p o 1:=by
 obtain ⟨l,_,b9,dx,lX⟩:=Tw h k;rw [←b9]
 match l,b9,dx,lX with
 | [],b9,_,_ =>
   have aQ:qX p o=0:=Vi.1 b9.symm;have:=U2 h ((Vs p).2 ⟨o,k,aQ⟩);rw [af] at this;have ae:=h.len;have aF:=congrArg List.length this;rw [JH] at aF;simp at aF;omega
 | [c],_,dx,lX =>
   have:=U3 h k dx lX;rw [af] at this;cases this
 | _::_::r,_,_,_=>simp
theorem Wk {B:List Int} (I9:B.length≤1000) (ab:∀ s∈B,0≤s∧s<(p.1.length:Int)) (ae:B.Pairwise (·<·)) {e:Int} {K:Unit→Option Bool}:∀ (m i:Nat),i≤B.length→B.length-i<m→LB p (B,e) K m (i:Int)=K ()
 | 0,_,_,h=>absurd h (by omega)
 | m+1,i,hi,hm=>by
   rw [LB];simp only;by_cases aR:i<B.length
   ·have ai:=ab _ (Kn (l:=B) (i:=(i:Int)) (by omega));have a8:=Wk I9 ab ae (e:=e) (K:=K) m (i+1) (by omega) (by omega);rw [if_pos (decide_eq_true (by omega)),qD (by omega),if_neg (by simpa using ai.1),qD (by omega),if_neg (by simpa using ai.2),Iw i (by omega)];by_cases aQ:0<i
    ·have mq:=(List.pairwise_iff_getElem.1 ae) (i-1) i (by omega) aR (by omega);(have e1:(i:Int)-1=((i-1:Nat):Int):=by omega);rw [if_pos (decide_eq_true (by omega)),qD (by omega),e1,qK (n:=((i-1:Nat):Int)) (by omega),qD (by omega),if_neg]
     ·exact a8
     ·rw [rB aR,rB (by omega),decide_eq_true_eq];omega
    ·rw [if_neg (by simpa using aQ)];exact a8
   ·rw [if_neg (by simp;omega)]
theorem ahZ (p:qd) {Q:List Int} (bo:∀ b∈Q,0≤b∧b≤255):Qo p Q=some true:=by
 unfold Qo;rw [Qs,sc];by_cases ak:ry p=0
 ·rw [if_pos (decide_eq_true ak)];have h:=JL.1 ak;have aI:=h.len;by_cases a_:(20:Int)<(Q.length:Int)
  ·rw [if_pos (decide_eq_true a_),works];rfl
  rw [if_neg (by simpa using a_)];obtain ⟨o,k,aq⟩:=Qu (n:=p.1.length) (by omega) bo (by omega);have al:=k.1;obtain ⟨l,e1,b9,dx,lX⟩:=Tw h k;have CL:=abn h;have pD:=List.length_filter_le (fun s:Int=>HL p s.toNat) (qo p.1.length);rw [JH] at pD;have pD:(HZ p).length≤p.1.length:=pD;rw [aq,sc,Zl (by omega),sc,OM (by omega),sc,if_pos ak,if_pos ak,OT h k,sc,e1,sc];rw [if_neg (by simp),if_neg (by simp),if_neg (by simp),if_neg (by simp),if_neg (by rw [b9];simp),if_neg (by simp;omega)];refine (Wk CL (fun s ah=>(Sh.1 ah).1) ((Tn _).sublist ur) ql 0 (by omega) (Il (by omega))).trans ?_
  have tail:(if (decide (((rb p o 0+rb p o 1:Nat):Int)≠(1:Int)))=true then (rI).bind fun HG=>some HG else
    qx (0≤(0:Int)∧(0:Int)<(l.length:Int)) <| (Kt (HZ p) ((ix l (0:Int)).1)).bind fun Hr=>if Hr=true then (rI).bind fun Hj=>some Hj else some false)=some true:=by
   by_cases ab:rb p o 0+rb p o 1=1
   ·rw [if_neg (by rw [ab];simp),qD (by omega),ZM CL,sc];have jR:l.length=1:=by omega
    match l,jR,dx,lX with
    | [c],_,dx,lX =>
      rw [show ix [c] (0:Int)=c from rfl,if_pos (decide_eq_true (U3 h k dx lX)),works];rfl
   ·rw [if_pos (by rw [decide_eq_true_eq];omega),works];rfl
  simp only;by_cases aP:0<Kk p
  ·have af:=U2 h aP;(have acN:(HZ p).length=p.1.length:=by rw [af,JH]);rw [if_pos (decide_eq_true (by omega)),if_neg (by rw [acN];simp),if_neg (by rw [decide_eq_true_eq];omega)];exact tail
  ·rw [if_neg (by rw [decide_eq_true_eq];omega)];by_cases af:(HZ p).length=0
   ·have:=abo h k (sP.1 af);rw [if_pos (decide_eq_true (by omega)),if_neg (by rw [decide_eq_true_eq];omega)];exact tail
   ·rw [if_neg (by rw [decide_eq_true_eq];omega)];exact tail
 ·rw [if_neg (by simpa using ak),works];rfl
theorem ab1 (p:qd) {Q:List Int} (bo:∀ b∈Q,0≤b∧b≤255) (own:List qq):qy 5 [Of p,.av (Q.map Hz) Q.length .shared,.av (own.flatMap qm) own.length .shared] (B true):=ahV (ahW p bo own)
theorem ab0 (p:qd) {Q:List Int} (bo:∀ b∈Q,0≤b∧b≤255):qy 6 [Of p,.av (Q.map Hz) Q.length .shared] (B true):=ahY (ahZ p bo)
end
end Go.Proofs.Ytkoioidpbbbaiaa.Ab


namespace Go.Proofs.Ytkoioidpbbbaiaa.Ab
open Go
set_option maxRecDepth 20000
set_option maxHeartbeats 4000000
noncomputable def QN:gB :=
 .cond (.m_ 66) (q4 [p3 67 7,p5 68 8,p2 69 [.m_ 2] (.yP 0),qj 70 69,p5 71 6,p5 72 5,qw 73 72 1 .sub,p5 74 9,qv 75 73 74 .sub,rk 76 71 75 1,qj 77 76,rk 78 70 77 2,p2 79 [.Bv 78] (.zH (.str 2)),p2 80 [.Bv 68,.Bv 79] (.build [.int .i64 0,.int .i64 0,.int .i64 0] [(0,1),(1,2)]),p2 81 [.Bv 80] (.yE 1 3 [.int .i64 0,.int .i64 0,.int .i64 0] [0]),p2 82 [.jm 67,.jm 81] (.app 3 24),p3 7 82]) .skip
noncomputable def QO:gB :=
 .loop (some (qc false [2, 1, 2, 5, 106])) (.seq (p4 [p5 37 9, p5 38 5, qv 39 37 38 .lss] (.cond (.m_ 39) .skip (.exit 2))) (.seq (.block 3 (.seq (q4 [p5 42 6, p5 43 9, rk 44 42 43 1, qj 45 44, p5 46 8, qv 47 45 46 .eql, p3 48 47, ch 49 [.m_ 2] 48 true (.yP 0), ch 50 [.Bv 49] 48 true (.zH .one), ch 51 [.m_ 8] 48 true .mR, ch 52 [.Bv 50, .Bv 51] 48 true (.kV 2), ch 53 [.Bv 52] 48 true (.zH (.str 2)), ch 54 [.m_ 2] 48 true (.yP 0), ch 55 [.Bv 54] 48 true (.zH .one), ch 56 [.m_ 6] 48 true .mR, ch 57 [.m_ 5] 48 true .mR, ch 58 [.Bv 57, .cv (.int .i64 1)] 48 true (.bin .sub), ch 59 [.m_ 9] 48 true .mR, ch 60 [.Bv 58, .Bv 59] 48 true (.bin .sub), ch 61 [.Bv 56, .Bv 60] 48 true (.kV 1), ch 62 [.Bv 61] 48 true (.zH .one), ch 63 [.Bv 55, .Bv 62] 48 true (.kV 2), ch 64 [.Bv 63] 48 true (.zH (.str 2)), ⟨some 65, [.Bv 53, .Bv 64], some (48, true), none, .other (Oper.mk (some 65) (Op.binOp .neq 52 (Operand.tmp 53) (Operand.tmp 64) 52) 4 "outright.go:235" (Array.mk [Edge.mk 11 Ground.data, Edge.mk 22 Ground.data, Edge.mk 6 Ground.guard]) (some (6, true))) 0⟩, p2 66 [.m_ 48, .Bv 65, .cv (.bool false)] .pick]) QN)) (qR [p3 40 9, qY 41 40 1, p3 9 41])))
noncomputable def QP:gB :=
 .loop (some (qc false [2,1,2,4,107])) (.seq (p4 [p5 29 8,p5 30 5,qv 31 29 30 .lss] (.cond (.m_ 31) .skip (.exit 0))) (.seq (.block 1 (p4 [p5 34 5,qw 35 34 2 .quo,qY 36 35 1,p3 9 36] (.block 2 QO))) (qR [p3 32 8,qY 33 32 1,p3 8 33])))
noncomputable def Z1:gB :=
 p4 [p2 2 [.jm 0] .box,p2 4 [.cv (.bool false)] .mR] (.seq (p4 [p2 14 [.m_ 2] (.zH (.str 3)),p2 15 [.cv (.func 18 [] []),.m_ 14] (.call 3),p2 16 [.Bv 15] (.un .not),p3 17 16,ch 18 [.m_ 1] 17 false .mR,ch 19 [.jm 18] 17 false .zM,ch 20 [.Bv 19,.cv (.int .i64 20)] 17 false (.bin .gtr),p2 21 [.Bv 17,.cv (.bool true),.Bv 20] .pick] (.cond (.m_ 21) (p4 [p2 22 [.cv (.func 11 [] [])] (.call 3),p3 4 22] .ret) .skip)) (p4 [p2 23 [.m_ 2] (.yP 0),qj 24 23,qZ 25 24,p3 5 25] (p4 [p5 26 5,p3 27 1,p2 28 [.cv (.func 19 [] []),.m_ 26,.m_ 27] (.call 3),p3 6 28] (p4 [p2 7 [.cv (.av [] 0 .full)] (.nil 3)] (.seq (p4 [qg 8 0] (.block 0 QP)) (p4 [p2 84 [.m_ 2] (.zH (.str 3)),p5 85 6,p5 86 7,p2 87 [.cv (.func 23 [] []),.m_ 84,.m_ 85,.m_ 86] (.call 3),p3 83 87,qn 88 83 0,p2 89 [.Bv 83] (.ext 1),p3 10 88,p3 11 89] (p4 [p2 91 [.Bv 2] (.zH (.str 3)),p3 92 6,p2 93 [.cv (.func 21 [] []),.m_ 91,.m_ 92] (.call 3),p3 90 93,qn 94 90 0,p2 95 [.Bv 90] (.ext 1),p3 12 94,p3 13 95] (p4 [p3 96 11,qw 97 96 0 .eql,p3 98 97,ch 99 [.m_ 10] 98 true .mR,ch 100 [.jm 7] 98 true .mR,ch 101 [.jm 100] 98 true .zM,ch 102 [.Bv 99,.Bv 101] 98 true (.bin .eql),p2 103 [.Bv 98,.Bv 102,.cv (.bool false)] .pick,p3 104 103,ch 105 [.jm 13] 104 true .mR,ch 106 [.Bv 105,.cv (.int .i64 0)] 104 true (.bin .eql),p2 107 [.Bv 104,.Bv 106,.cv (.bool false)] .pick,p3 108 107,ch 109 [.jm 12] 108 true .mR,ch 110 [.jm 10] 108 true .mR,ch 111 [.Bv 109,.Bv 110] 108 true (.bin .leq),p2 112 [.Bv 108,.Bv 111,.cv (.bool false)] .pick,p3 113 112,⟨some 114,[.cv (.func 11 [] [])],some (113,true),none,.call 3⟩,p2 115 [.Bv 113,.Bv 114,.cv (.bool false)] .pick,p3 4 115] .ret))))))))
theorem aet:qt Try.prog NQ 7=some (Z1,116,[.tmp 4]):=by kernel_rfl
def Nz (p:(qk×(Int×Int))) (eH:qa) (dh:(List (Int×(Int×Int)))) (Hc:Int) (KP:Unit→Option Bool) (PD:Unit→Option Bool) (dA:Bool):Option Bool :=
 if dA=true then
  qx (0≤(w ((w ((p.1.length:Int)-(1:Int)))-Hc))∧(w ((w ((p.1.length:Int)-(1:Int)))-Hc))<(eH.length:Int)) <|
  qx (0≤(ix eH (w ((w ((p.1.length:Int)-(1:Int)))-Hc)))∧(ix eH (w ((w ((p.1.length:Int)-(1:Int)))-Hc)))<(p.1.length:Int)) <|
  qx ((dh.length+1)*24≤140737488355328) <|
  KP ()
 else
  PD ()
def Kc (p:(qk×(Int×Int))) (eH:qa) (s2:Int) (re:(List (Int×(Int×Int)))→Option Bool):Nat→(List (Int×(Int×Int)))→Int→Option Bool
 | 0,_,_=>none
 | m+1,dh,Hc =>
   if (decide (Hc<(p.1.length:Int)))=true then
    qx (0≤Hc∧Hc<(eH.length:Int)) <|
    if (decide ((ix eH Hc)=s2))=true then
     qx (0≤s2∧s2<(p.1.length:Int)) <|
     qx (0≤(w ((w ((p.1.length:Int)-(1:Int)))-Hc))∧(w ((w ((p.1.length:Int)-(1:Int)))-Hc))<(eH.length:Int)) <|
     qx (0≤(ix eH (w ((w ((p.1.length:Int)-(1:Int)))-Hc)))∧(ix eH (w ((w ((p.1.length:Int)-(1:Int)))-Hc)))<(p.1.length:Int)) <|
     Nz p eH dh Hc (fun _ =>
       Kc p eH s2 re m (dh++[(s2,(ix p.1 (ix eH (w ((w ((p.1.length:Int)-(1:Int)))-Hc)))))]) (w (Hc+(1:Int)))) (fun _ =>
       Kc p eH s2 re m dh (w (Hc+(1:Int)))) (!(decide ((ix p.1 s2)=(ix p.1 (ix eH (w ((w ((p.1.length:Int)-(1:Int)))-Hc)))))))
    else
     Nz p eH dh Hc (fun _ =>
       Kc p eH s2 re m (dh++[(s2,(ix p.1 (ix eH (w ((w ((p.1.length:Int)-(1:Int)))-Hc)))))]) (w (Hc+(1:Int)))) (fun _ =>
       Kc p eH s2 re m dh (w (Hc+(1:Int)))) false
   else
    re dh
def LC (p:(qk×(Int×Int))) (eH:qa) (qf:(List (Int×(Int×Int)))→Option Bool):Nat→(List (Int×(Int×Int)))→Int→Option Bool
 | 0,_,_=>none
 | m+1,s1,s2 =>
   if (decide (s2<(p.1.length:Int)))=true then
    qx ((2:Int)≠0) <|
    Kc p eH s2 (fun yq =>
      LC p eH qf m yq (w (s2+(1:Int)))) ql s1 (w ((w ((p.1.length:Int).tdiv (2:Int)))+(1:Int)))
   else
    qf s1
def Qp (p:(qk×(Int×Int))) (qJ:qa):Option Bool :=
 (LF p).bind fun aS =>
 if aS=true then
  if (decide ((20:Int)<(qJ.length:Int)))=true then
   (rI).bind fun bh =>
   some bh
  else
   (LG (p.1.length:Int) qJ).bind fun eH =>
   LC p eH (fun oS =>
     (Ix p eH oS).bind fun qB =>
     (Ii p eH).bind fun r5 =>
     if (decide (qB.2=(0:Int)))=true then
      if (decide (qB.1=(oS.length:Int)))=true then
       if (decide (r5.2=(0:Int)))=true then
        if (decide (r5.1≤qB.1))=true then
         (rI).bind fun r6 =>
         some r6
        else
         some false
       else
        some false
      else
       some false
     else
      some false) ql ([]:List (Int×(Int×Int))) (0:Int)
 else
  (rI).bind fun r7 =>
  some r7
theorem Zk {p:(qk×(Int×Int))} {eH:qa} {dh:(List (Int×(Int×Int)))} {Hc:Int} {KP:Unit→Option Bool} {PD:Unit→Option Bool} {dA:Bool} {s2:Int} {v:Bool} {Q:Hm}  {qe:List I}  (R2:∀ (qe:List I),KP ()=some v→rr 116 [(2,(.ptr 0 0)),(5,(hX (p.1.length:Int))),(6,(qF eH .shared)),(7,(.av ((dh++[(s2,(ix p.1 (ix eH (w ((w ((p.1.length:Int)-(1:Int)))-Hc)))))]).flatMap qm) (dh++[(s2,(ix p.1 (ix eH (w ((w ((p.1.length:Int)-(1:Int)))-Hc)))))]).length (.uniq 3))),(8,(hX s2)),(9,(hX Hc))] qe→Q .normal qe [ar.cells [(q6 p.1 .shared),(hX p.2.1),(hX p.2.2)]]) (ac0:∀ (qe:List I),PD ()=some v→rr 116 [(2,(.ptr 0 0)),(5,(hX (p.1.length:Int))),(6,(qF eH .shared)),(7,(.av (dh.flatMap qm) dh.length (.uniq 3))),(8,(hX s2)),(9,(hX Hc))] qe→Q .normal qe [ar.cells [(q6 p.1 .shared),(hX p.2.1),(hX p.2.2)]]) (qA:rr 116 [(2,(.ptr 0 0)),(5,(hX (p.1.length:Int))),(6,(qF eH .shared)),(7,(.av (dh.flatMap qm) dh.length (.uniq 3))),(8,(hX s2)),(9,(hX Hc)),(66,(B dA))] qe) (h:Nz p eH dh Hc KP PD dA=some v) :
  dN Try.prog NQ 7 0 none QN qe [ar.cells [(q6 p.1 .shared),(hX p.2.1),(hX p.2.2)]] Q:=by
 obtain ⟨rn,rfl⟩:=qA.ex;unfold Nz at h;unfold QN;conv=>whnf
 cases dA
 ·conv=>whnf
  replace h:=rK rfl h;exact ac0  _ h ⟨rfl,rfl⟩
 ·conv=>whnf
  replace h:=rJ rfl h;refine qN h id fun Hp h=>?_;rw [rh hX eH (w ((w ((p.1.length:Int)-(1:Int)))-Hc)) Hp];conv=>whnf
  refine qN h id fun Ie h=>?_;rw [H3 p' 2 KV p.1 (ix eH (w ((w ((p.1.length:Int)-(1:Int)))-Hc))) Ie];conv=>whnf
  obtain ⟨Hq,h⟩:=rZ h;refine ⟨by first | rfl | (simp;done) | exact IE qm _ Hw _,by have:=Hq;omega,rfl,Hq,?_⟩
  erw [Rs qm dh (s2,(ix p.1 (ix eH (w ((w ((p.1.length:Int)-(1:Int)))-Hc)))))];conv=>whnf
  exact R2  _ h ⟨rfl,rfl⟩
theorem ah1 {p:(qk×(Int×Int))} {eH:qa} {s2:Int} {re:(List (Int×(Int×Int)))→Option Bool} {dh:(List (Int×(Int×Int)))} {Hc:Int} {v:Bool} {Q:Hm}   (J0:∀ (yq:(List (Int×(Int×Int)))) (qe:List I),re yq=some v→rr 116 [(2,(.ptr 0 0)),(5,(hX (p.1.length:Int))),(6,(qF eH .shared)),(7,(.av (yq.flatMap qm) yq.length (.uniq 3))),(8,(hX s2))] qe→Q (.exit 2) qe [ar.cells [(q6 p.1 .shared),(hX p.2.1),(hX p.2.2)]]) {T:List I} (bZ:eW (qc false [2,1,2,5,106]) T=qh 116 [(2,(.ptr 0 0)),(5,(hX (p.1.length:Int))),(6,(qF eH .shared)),(7,(.av (dh.flatMap qm) dh.length (.uniq 3))),(8,(hX s2)),(9,(hX Hc))]) (h:Kc p eH s2 re ql dh Hc=some v) :
  dN Try.prog NQ 7 0 none QO T [ar.cells [(q6 p.1 .shared),(hX p.2.1),(hX p.2.2)]] Q:=by
 unfold QO;obtain ⟨HN,qI⟩:∃ c,QN=c:=⟨_,rfl⟩;rw [qI];refine wp_loop bZ ?_;refine .intro (fun m T H=>∃ (dh:(List (Int×(Int×Int)))) (Hc:Int),T=qh 116 [(2,(.ptr 0 0)),(5,(hX (p.1.length:Int))),(6,(qF eH .shared)),(7,(.av (dh.flatMap qm) dh.length (.uniq 3))),(8,(hX s2)),(9,(hX Hc))]∧H=[ar.cells [(q6 p.1 .shared),(hX p.2.1),(hX p.2.2)]]∧Kc p eH s2 re m dh Hc=some v) ql ⟨dh,Hc,rfl,rfl,h⟩ ?_;clear h bZ;rintro m T H ⟨dh,Hc,rfl,rfl,h⟩;cases m
 ·exact r3 h
 rename_i m;rw [Kc.eq_2] at h;conv=>whnf
 refine bs h (fun qS h=>?_) fun qS h=>?_
 ·rw [qS];conv=>whnf
  refine qN h id fun rH h=>?_;rw [rh hX eH Hc rH];conv=>whnf
  refine bs h (fun ra h=>?_) fun ra h=>?_
  ·rw [ra];(conv=>whnf);refine qN h id fun rq h=>?_;rw [H3 p' 2 KV p.1 s2 rq];(conv=>whnf);refine qN h id fun r8 h=>?_;rw [rh hX eH (w ((w ((p.1.length:Int)-(1:Int)))-Hc)) r8];(conv=>whnf);refine qN h id fun sa h=>?_;rw [H3 p' 2 KV p.1 (ix eH (w ((w ((p.1.length:Int)-(1:Int)))-Hc))) sa];(conv=>whnf);refine ⟨_,_,fun C=>Sp rfl rfl (T4 (fs:=VE Try.prog 52) (by kernel_rfl) (by kernel_rfl) (by kernel_rfl) (by kernel_rfl) (by kernel_rfl) _ _ _ _ (.inr rfl)),?_⟩;(conv=>whnf);subst qI;refine Zk ?_ ?_ (by exact ⟨rfl,rfl⟩) h
   ·intro  qe h qA;obtain ⟨rn,rfl⟩:=qA.ex;(conv=>whnf);exact ⟨m,sC m,(dh++[(s2,(ix p.1 (ix eH (w ((w ((p.1.length:Int)-(1:Int)))-Hc)))))]),(w (Hc+(1:Int))),rfl,rfl,h⟩
   ·intro  qe h qA;obtain ⟨rn,rfl⟩:=qA.ex;(conv=>whnf);exact ⟨m,sC m,dh,(w (Hc+(1:Int))),rfl,rfl,h⟩
  ·rw [ra];(conv=>whnf);subst qI;refine Zk ?_ ?_ (by exact ⟨rfl,rfl⟩) h
   ·intro  qe h qA;obtain ⟨rn,rfl⟩:=qA.ex;(conv=>whnf);exact ⟨m,sC m,(dh++[(s2,(ix p.1 (ix eH (w ((w ((p.1.length:Int)-(1:Int)))-Hc)))))]),(w (Hc+(1:Int))),rfl,rfl,h⟩
   ·intro  qe h qA;obtain ⟨rn,rfl⟩:=qA.ex;(conv=>whnf);exact ⟨m,sC m,dh,(w (Hc+(1:Int))),rfl,rfl,h⟩
 ·rw [qS];conv=>whnf
  exact J0 _ _ h ⟨rfl,rfl⟩
theorem ah0 {p:(qk×(Int×Int))} {eH:qa} {qf:(List (Int×(Int×Int)))→Option Bool} {s1:(List (Int×(Int×Int)))} {s2:Int} {v:Bool} {Q:Hm}   (rm:∀ (oS:(List (Int×(Int×Int)))) (qe:List I),qf oS=some v→rr 116 [(2,(.ptr 0 0)),(6,(qF eH .shared)),(7,(.av (oS.flatMap qm) oS.length (.uniq 3)))] qe→Q (.exit 0) qe [ar.cells [(q6 p.1 .shared),(hX p.2.1),(hX p.2.2)]]) {T:List I} (bZ:eW (qc false [2,1,2,4,107]) T=qh 116 [(2,(.ptr 0 0)),(5,(hX (p.1.length:Int))),(6,(qF eH .shared)),(7,(.av (s1.flatMap qm) s1.length (.uniq 3))),(8,(hX s2))]) (h:LC p eH qf ql s1 s2=some v) :
  dN Try.prog NQ 7 0 none QP T [ar.cells [(q6 p.1 .shared),(hX p.2.1),(hX p.2.2)]] Q:=by
 unfold QP;obtain ⟨Le,rU⟩:∃ c,QO=c:=⟨_,rfl⟩;rw [rU];refine wp_loop bZ ?_;refine .intro (fun m T H=>∃ (s1:(List (Int×(Int×Int)))) (s2:Int),T=qh 116 [(2,(.ptr 0 0)),(5,(hX (p.1.length:Int))),(6,(qF eH .shared)),(7,(.av (s1.flatMap qm) s1.length (.uniq 3))),(8,(hX s2))]∧H=[ar.cells [(q6 p.1 .shared),(hX p.2.1),(hX p.2.2)]]∧LC p eH qf m s1 s2=some v) ql ⟨s1,s2,rfl,rfl,h⟩ ?_;clear h bZ;rintro m T H ⟨s1,s2,rfl,rfl,h⟩;cases m
 ·exact r3 h
 rename_i m;rw [LC.eq_2] at h;conv=>whnf
 refine bs h (fun qU h=>?_) fun qU h=>?_
 ·rw [qU];conv=>whnf
  refine qN h id fun ru h=>?_;conv=>whnf
  subst rU;refine ah1 ?_ (by exact rfl) h;intro yq qe h qA;obtain ⟨rn,rfl⟩:=qA.ex;conv=>whnf
  exact ⟨m,sC m,yq,(w (s2+(1:Int))),rfl,rfl,h⟩
 ·rw [qU];conv=>whnf
  exact rm _ _ h ⟨rfl,rfl⟩
theorem ah2 {p:(qk×(Int×Int))} {qJ:qa} {v:Bool} (h:Qp p qJ=some v):qy 7 [(.agg [(.av (p.1.flatMap p') p.1.length .shared),(hX p.2.1),(hX p.2.2)]),(.av (qJ.map Hz) qJ.length .shared)] (B v):=by
 refine qQ eD aet rfl rfl fun Q bo=>?_;have jG:qL [.tmp 4] Q (fun v=>(B v)) v:=fun T H bD=>bo _ T H bD;unfold Qp at h;unfold Z1;obtain ⟨U5,Li⟩:∃ c,QP=c:=⟨_,rfl⟩;rw [Li];conv=>whnf
 obtain ⟨aS,gJ,h⟩:=p9 h;refine ⟨qb.pl,_,Qt gJ,?_⟩;conv=>whnf
 cases aS
 ·conv=>whnf
  replace h:=rK rfl h;obtain ⟨r7,IM,h⟩:=p9 h;refine ⟨rfl,_,r9 IM,?_⟩;conv=>whnf
  exact p_ h jG rfl rfl
 ·conv=>whnf
  replace h:=rJ rfl h;refine bs h (fun gK h=>?_) fun gK h=>?_
  ·rw [gK];(conv=>whnf);obtain ⟨bh,qu,h⟩:=p9 h;refine ⟨rfl,_,r9 qu,?_⟩;(conv=>whnf);exact p_ h jG rfl rfl
  ·rw [gK];(conv=>whnf);obtain ⟨eH,qH,h⟩:=p9 h;refine ⟨qb.pl,_,Qv qH,?_⟩;(conv=>whnf);subst Li;refine ah0 ?_ (by exact rfl) h;intro oS qe h qA;obtain ⟨rn,rfl⟩:=qA.ex;(conv=>whnf);obtain ⟨qB,H4,h⟩:=p9 h;refine ⟨qb.pl,_,Ly H4,?_⟩;(conv=>whnf);obtain ⟨r5,Io,h⟩:=p9 h;refine ⟨qb.pl,_,LD Io,?_⟩;(conv=>whnf);refine bs h (fun IK h=>?_) fun IK h=>?_
   ·rw [IK];(conv=>whnf);refine bs h (fun H5 h=>?_) fun H5 h=>?_
    ·rw [H5];(conv=>whnf);refine bs h (fun H6 h=>?_) fun H6 h=>?_
     ·rw [H6];(conv=>whnf);refine bs h (fun Ip h=>?_) fun Ip h=>?_
      ·rw [Ip];(conv=>whnf);obtain ⟨r6,IL,h⟩:=p9 h;refine ⟨rfl,_,r9 IL,?_⟩;(conv=>whnf);exact p_ h jG rfl rfl
      ·rw [Ip];(conv=>whnf);exact p_ h jG rfl rfl
     ·rw [H6];(conv=>whnf);exact p_ h jG rfl rfl
    ·rw [H5];(conv=>whnf);exact p_ h jG rfl rfl
   ·rw [IK];(conv=>whnf);exact p_ h jG rfl rfl
end Go.Proofs.Ytkoioidpbbbaiaa.Ab


namespace Go.Proofs.Ytkoioidpbbbaiaa.Ab
open Go
set_option maxRecDepth 20000
set_option maxHeartbeats 1000000
def I2 (p:qd) (o:List Int) (s j:Nat):Bool:=decide (ix o (j:Int)=(s:Int)) && !(decide (ix p.1 (s:Int)=qp p.1 o (p.1.length-1-j)))
def HQ (p:qd) (o:List Int) (s:Nat):Nat→Nat→List qq
 | _,0=>[]
 | i,k+1=>(if I2 p o s i=true then [((s:Int),qp p.1 o (p.1.length-1-i))] else [])++HQ p o s (i+1) k
def IZ (p:qd) (o:List Int):Nat→Nat→List qq
 | _,0=>[]
 | s,k+1=>HQ p o s (p.1.length / 2+1) (p.1.length-(p.1.length / 2+1))++IZ p o (s+1) k
section
variable {p:qd} {o:List Int}
theorem N_ {s:Nat} {c:qq}:∀ {k i:Nat},c∈HQ p o s i k↔∃ j,i≤j∧j<i+k∧I2 p o s j=true∧c=((s:Int),qp p.1 o (p.1.length-1-j))
 | 0,i=>by simp [HQ];omega
 | k+1,i=>by
   unfold HQ;rw [s0,N_];constructor
   ·rintro (h | ⟨j,ab,ae,aF⟩)
    ·by_cases ax:I2 p o s i=true
     ·rw [if_pos ax] at h;exact ⟨i,by omega,by omega,ax,sS.1 h⟩
     ·rw [if_neg ax] at h;cases h
    ·exact ⟨j,by omega,by omega,aF⟩
   ·rintro ⟨j,ab,ae,aF,ba⟩;by_cases e:j=i
    ·subst e;left;rw [if_pos aF,ba];simp
    ·exact .inr ⟨j,by omega,by omega,aF,ba⟩
theorem Si {c:qq}:∀ {k s:Nat},c∈IZ p o s k↔∃ t,s≤t∧t<s+k∧c∈HQ p o t (p.1.length / 2+1) (p.1.length-(p.1.length / 2+1))
 | 0,s=>by simp [IZ];omega
 | k+1,s=>by
   unfold IZ;rw [s0,Si];constructor
   ·rintro (h | ⟨t,ab,ae,aF⟩)
    ·exact ⟨s,by omega,by omega,h⟩
    ·exact ⟨t,by omega,by omega,aF⟩
   ·rintro ⟨t,ab,ae,aF⟩;by_cases e:t=s
    ·subst e;exact .inl aF
    ·exact .inr ⟨t,by omega,by omega,aF⟩
theorem Sq (s:Nat):∀ (k i:Nat),(HQ p o s i k).length≤k
 | 0,i=>by simp [HQ]
 | k+1,i=>by
   have:=Sq s k (i+1);unfold HQ;rw [sE];split
   ·simp;omega
   ·simp;omega
theorem Xg:∀ (k s:Nat),(IZ p o s k).length≤k*p.1.length
 | 0,s=>by simp [IZ]
 | k+1,s=>by
   have ab:=Xg k (s+1);have ae:=Sq (p:=p) (o:=o) s (p.1.length-(p.1.length / 2+1)) (p.1.length / 2+1);unfold IZ;rw [sE,uy];omega
theorem OI {s j:Nat} (h:I2 p o s j=true):ix o (j:Int)=(s:Int):=by
 unfold I2 at h;rw [sn,decide_eq_true_eq] at h;exact h.1
theorem Xh (aI:o.Nodup) (s:Nat):∀ (k i:Nat),i+k≤o.length→(HQ p o s i k).length≤1
 | 0,i,_=>by simp [HQ]
 | k+1,i,h=>by
   have a8:=Xh aI s k (i+1) (by omega);unfold HQ;by_cases ax:I2 p o s i=true
   ·rw [if_pos ax];have e:HQ p o s (i+1) k=[]:=by
     cases ao:HQ p o s (i+1) k with
     | nil=>rfl
     | cons c r =>
       obtain ⟨j,ab,ae,aF,_⟩:=N_.1 (show c∈HQ p o s (i+1) k by rw [ao];simp);have:=JC aI (show i<o.length by omega) (show j<o.length by omega) (by rw [OI ax,OI aF]);omega
    rw [e];simp
   ·rw [if_neg ax,tp];exact a8
theorem PL (h:qW p) (k:qs p.1.length o):∀ (n s:Nat) (m:Int),s+n=p.1.length→m≤s→r2 p.1.length (IZ p o s n) m
 | 0,s,m,_,_=>trivial
 | n+1,s,m,ah,hm=>by
   have al:=k.1;have ab:=Xh (p:=p) k.2.1 s (p.1.length-(p.1.length / 2+1)) (p.1.length / 2+1) (by have:=h.len;omega);unfold IZ;cases ao:HQ p o s (p.1.length / 2+1) (p.1.length-(p.1.length / 2+1)) with
   | nil=>exact PL h k n (s+1) m (by omega) (by omega)
   | cons c r =>
     rw [ao] at ab;have ai:r=[]:=sP.1 (by simp at ab;simpa using ab);subst ai;obtain ⟨j,ae,aF,ba,rfl⟩:=N_.1 (show c∈HQ p o s (p.1.length / 2+1) (p.1.length-(p.1.length / 2+1)) by rw [ao];simp);have hlen:=h.len;refine ⟨hm,by simp only;omega,I1 h.s (r0 k) (by omega),?_⟩;exact PL h k n (s+1) ((s:Int)+1) (by omega) (by omega)
theorem PJ {S:List qE} {o:List Int} {a:Nat} {f:qE→Int} (aI:o.length % 2=1) (h:∀ j,j<o.length→qp S o (o.length-1-j)=qp S o j):ri S o a f=0:=by
 unfold ri;have e:=Qb o.length fun i=>if i % 2=a then qz o.length i*f (qp S o i) else 0;have b9:qO o.length (fun i=>if (o.length-1-i) % 2=a then qz o.length (o.length-1-i)*f (qp S o (o.length-1-i)) else 0)=qO o.length fun i => -1*(if i % 2=a then qz o.length i*f (qp S o i) else 0):=K0 fun i hi=>by
  have aB:qz o.length (o.length-1-i)=-(qz o.length i):=by unfold qz;omega
  by_cases a_:i % 2=a
  ·rw [if_pos (by omega),if_pos a_,aB,h i hi];grind
  ·rw [if_neg (by omega),if_neg a_];rfl
 rw [OH] at b9;have dx:=e.symm.trans b9;omega
theorem afk (h:qW p) (k:qs p.1.length o):qX (q7 (IZ p o 0 p.1.length) p.1,p.2) o=0:=by
 have al:=k.1;have ajh:=h.len;have Py:=Oe h k;have ao:=PL h k p.1.length 0 0 (by omega) (by omega);obtain ⟨l,fm⟩:∃ l,l=IZ p o 0 p.1.length:=⟨_,rfl⟩;rw [←fm] at ao ⊢;have kI:∀ c∈l,∃ s j:Nat,p.1.length / 2+1≤j∧j<p.1.length∧I2 p o s j=true∧c=((s:Int),qp p.1 o (p.1.length-1-j)):=fun c ak=>by
  rw [fm] at ak;obtain ⟨t,_,_,aF⟩:=Si.1 ak;obtain ⟨j,ba,bO,bP⟩:=N_.1 aF;exact ⟨t,j,ba,by omega,bP⟩
 have low:∀ j:Nat,j<o.length→j≤p.1.length / 2→qp (q7 l p.1) o j=qp p.1 o j:=fun j aw hm =>
  Mf ao (sK _) rfl (r0 k j aw).1 fun c ak e=>by
   obtain ⟨s,zB,ab,ae,aF,rfl⟩:=kI c ak;have:=JC k.2.1 aw (show zB<o.length by omega) (by rw [OI aF];exact e.symm);omega
 have up:∀ j:Nat,j<o.length→p.1.length / 2<j→qp (q7 l p.1) o j=qp p.1 o (o.length-1-j):=fun j aw hm=>by
  have ai:=r0 k j aw;obtain ⟨s,ah⟩:∃ s:Nat,ix o (j:Int)=(s:Int):=⟨(ix o (j:Int)).toNat,by omega⟩;by_cases ax:I2 p o s j=true
  ·have ak:((s:Int),qp p.1 o (p.1.length-1-j))∈l:=by
    rw [fm];exact Si.2 ⟨s,by omega,by omega,N_.2 ⟨j,by omega,by omega,ax,rfl⟩⟩
   have hc:=OC ao (sK _) (S:=p.1) rfl ak;simp only at hc;rw [←ah] at hc;rw [al];exact hc
  ·have pY:qp (q7 l p.1) o j=qp p.1 o j:=Mf ao (sK _) rfl ai.1 fun c ak e=>by
    obtain ⟨aD,zB,ab,ae,aF,rfl⟩:=kI c ak;have b9:=JC k.2.1 aw (show zB<o.length by omega) (by rw [OI aF];exact e.symm);subst b9
    have:aD=s:=by have:=OI aF;omega
    subst this;exact ax aF
   rw [pY];unfold I2 at ax;rw [ah,decide_eq_true rfl,Bool.true_and] at ax;(have e:ix p.1 (s:Int)=qp p.1 o (p.1.length-1-j):=by simpa using ax);rw [al,←e];unfold qp;rw [ah]
 have sym:∀ j,j<o.length→qp (q7 l p.1) o (o.length-1-j)=qp (q7 l p.1) o j:=fun j aw=>by
  by_cases ab:j<p.1.length / 2
  ·rw [up _ (by omega) (by omega),low j aw (by omega)];congr 1;omega
  ·by_cases ae:j=p.1.length / 2
   ·congr 1;omega
   ·rw [up j aw (by omega),low _ (by omega) (by omega)]
 rw [MN];exact ⟨⟨PJ Py sym,PJ Py sym⟩,PJ Py sym,PJ Py sym⟩
theorem Wl (h:qW p) (k:qs p.1.length o) {s:Nat} (ah:s<p.1.length) {K:List qq→Option Bool}:∀ (n m i:Nat) (L:List qq),i+n=p.1.length→n<m→L.length+n≤1000→Kc p o (s:Int) K m L (i:Int)=K (L++HQ p o s i n)
 | n,0,_,_,_,h,_=>absurd h (by omega)
 | 0,m+1,i,L,hi,_,_=>by
   rw [Kc,if_neg (by simp;omega),HQ,sN]
 | n+1,m+1,i,L,hi,hm,fm=>by
   have al:=k.1;have aI:=h.len;have a8:=Wl h k ah (K:=K) n m (i+1);have ai:=r0 k (p.1.length-1-i) (by omega);(have rC:w (w ((p.1.length:Int)-1)-(i:Int))=((p.1.length-1-i:Nat):Int):=by rw [qK (n:=(p.1.length:Int)-1) (by omega),qK (by omega)];omega);rw [Kc,if_pos (decide_eq_true (by omega)),qD (by omega),Iw i (by omega),rC];have e1:ix p.1 (ix o ((p.1.length-1-i:Nat):Int))=qp p.1 o (p.1.length-1-i):=rfl;unfold HQ;by_cases aj:ix o (i:Int)=(s:Int)
   ·rw [if_pos (decide_eq_true aj),qD (by omega),qD (by omega),qD ai,e1];unfold Nz;by_cases a1:ix p.1 (s:Int)=qp p.1 o (p.1.length-1-i)
    ·(have ax:I2 p o s i=false:=by unfold I2;rw [decide_eq_true a1];simp);rw [decide_eq_true a1,if_neg (by decide),ax,if_neg (by decide),tp];exact a8 L (by omega) (by omega) (by omega)
    ·(have ax:I2 p o s i=true:=by unfold I2;rw [decide_eq_true aj,decide_eq_false a1];rfl);rw [decide_eq_false a1,if_pos (by decide),rC,qD (by omega),qD ai,qD (by omega),ax,if_pos rfl];have:=a8 (L++[((s:Int),qp p.1 o (p.1.length-1-i))]) (by omega) (by omega) (by simp;omega);rw [sx] at this;exact this
   ·(have ax:I2 p o s i=false:=by unfold I2;rw [decide_eq_false aj];rfl);rw [if_neg (by simpa using aj),Nz,if_neg (by decide),ax,if_neg (by decide),tp];exact a8 L (by omega) (by omega) (by omega)
theorem Wm (h:qW p) (k:qs p.1.length o) {K:List qq→Option Bool}:∀ (n m s:Nat) (L:List qq),s+n=p.1.length→n<m→L.length+n*p.1.length≤900→LC p o K m L (s:Int)=K (L++IZ p o s n)
 | n,0,_,_,_,h,_=>absurd h (by omega)
 | 0,m+1,s,L,ah,_,_=>by
   rw [LC,if_neg (by simp;omega),IZ,sN]
 | n+1,m+1,s,L,ah,hm,fm=>by
   have aI:=h.len;rw [uy] at fm;have iK:w (w ((p.1.length:Int).tdiv 2)+1)=((p.1.length / 2+1:Nat):Int):=by
    rw [vG (by omega),qK (n:=(p.1.length:Int) / 2) (by omega),qK (by omega)];omega
   rw [LC,if_pos (decide_eq_true (by omega)),qD (by decide),iK,Wl h k (by omega) (p.1.length-(p.1.length / 2+1)) ql _ _ (by omega) (Il (by omega)) (by omega),Iw s (by omega)];have aB:=Sq (p:=p) (o:=o) s (p.1.length-(p.1.length / 2+1)) (p.1.length / 2+1);rw [Wm h k n m (s+1) _ (by omega) (by omega) (by simp;omega),IZ,sx]
theorem ah3 (p:qd) {Q:List Int} (bo:∀ b∈Q,0≤b∧b≤255):Qp p Q=some true:=by
 unfold Qp;rw [Qs,sc];by_cases ak:ry p=0
 ·rw [if_pos (decide_eq_true ak)];have h:=JL.1 ak;have aI:=h.len;by_cases a_:(20:Int)<(Q.length:Int)
  ·rw [if_pos (decide_eq_true a_),works];rfl
  rw [if_neg (by simpa using a_)];obtain ⟨o,k,aq⟩:=Qu (n:=p.1.length) (by omega) bo (by omega);have al:=k.1;have ajk:p.1.length*p.1.length≤49:=Nat.mul_le_mul aI.2 aI.2;rw [aq,sc];refine (Wm h k p.1.length ql 0 [] (by omega) (Il (by omega)) (by simp;omega)).trans ?_;rw [tp];have ao:=PL h k p.1.length 0 0 (by omega) (by omega);have aQ:=afk h k;have hlen:=Xg (p:=p) (o:=o) p.1.length 0;have G1:=Vk k ao aQ;rw [Lx (by omega) (by omega) (by omega),sc,if_pos (M0 h k),if_pos ao,if_neg (show ¬ 0<qX (q7 (IZ p o 0 p.1.length) p.1,p.2) o by omega),OT h k,sc];rw [if_pos (by simp),if_pos (by simp),if_pos (by simp),if_pos (by rw [decide_eq_true_eq];omega),works];rfl
 ·rw [if_neg (by simpa using ak),works];rfl
theorem ab3 (p:qd) {Q:List Int} (bo:∀ b∈Q,0≤b∧b≤255):qy 7 [Of p,.av (Q.map Hz) Q.length .shared] (B true):=ah2 (ah3 p bo)
end
end Go.Proofs.Ytkoioidpbbbaiaa.Ab
