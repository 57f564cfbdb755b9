
import Derived.Test.YtkoioidpbbbaiaaGreatJa5
import Derived.Test.YtkoioidpbbbaiaaGreatJa6
import Derived.Test.YtkoioidpbbbaiaaGreatJa8
import Derived.KernelRfl
import Derived.Test.YtkoioidpbbbaiaaGreatJa7
set_option linter.unusedSimpArgs false
set_option linter.unusedVariables false
set_option linter.unusedSectionVars false

open Option renaming bind_some→sc
namespace Go.Proofs.YtkoioidpbbbaiaaGreat.Ab
open Go
set_option maxRecDepth 20000
set_option maxHeartbeats 4000000
noncomputable def aak:gB :=
 p5 [p3 1 [.jm 0] .box,p3 2 [.cv (.bool false)] .mR] (.seq (p5 [p3 15 [.m_ 1] (.zE (.str 3)),p3 16 [.cv (.func 10 [] []),.m_ 15] (.call 3)] (.cond (.m_ 16) (p5 [p3 17 [.cv (.func 11 [] [])] (.call 3),p4 2 17] .ret) .skip)) (p5 [p3 19 [.m_ 1] (.zE (.str 3)),p3 20 [.cv (.func 12 [] []),.m_ 19] (.call 3),p4 18 20,qR 21 18 0,p3 22 [.Bs 18] (.ext 1),p4 3 21,p4 4 22] (p5 [p3 24 [.m_ 1] (.zE (.str 3)),p3 25 [.cv (.func 13 [] []),.m_ 24] (.call 3),p4 23 25,qR 26 23 0,p3 27 [.Bs 23] (.ext 1),p4 5 26,p4 6 27] (p5 [p3 29 [.m_ 1] (.zE (.str 3)),p3 30 [.cv (.func 14 [] []),.m_ 29] (.call 3),p4 28 30,qR 31 28 0,p3 32 [.Bs 28] (.ext 1),p4 7 31,p4 8 32] (p5 [p3 34 [.m_ 1] (.zE (.str 3)),p3 35 [.cv (.func 15 [] []),.m_ 34] (.call 3),p4 33 35,qR 36 33 0,p3 37 [.Bs 33] (.ext 1),p4 9 36,p4 10 37] (p5 [p3 39 [.m_ 1] (.zE (.str 3)),p3 40 [.cv (.func 16 [] []),.m_ 39] (.call 3),p4 38 40,qR 41 38 0,p3 42 [.Bs 38] (.ext 1),p4 11 41,p4 12 42] (p5 [p3 44 [.Bs 1] (.zE (.str 3)),p3 45 [.cv (.func 17 [] []),.m_ 44] (.call 3),p4 43 45,qR 46 43 0,p3 47 [.Bs 43] (.ext 1),p4 13 46,p4 14 47] (p5 [p4 48 3,p4 49 5,qq 50 48 49 .eql,p4 51 50,ch 52 [.jm 4] 51 true .mR,ch 53 [.jm 6] 51 true .mR,ch 54 [.Bs 52,.Bs 53] 51 true (.bin .eql),p3 55 [.Bs 51,.Bs 54,.cv (.bool false)] .pick,p4 56 55,ch 57 [.jm 7] 56 true .mR,ch 58 [.jm 9] 56 true .mR,⟨some 59,[.cv (.func 18 [] []),.m_ 57,.m_ 58],some (56,true),none,.call 3⟩,p3 60 [.Bs 56,.Bs 59,.cv (.bool false)] .pick,p4 61 60,ch 62 [.jm 8] 61 true .mR,ch 63 [.jm 10] 61 true .mR,ch 64 [.Bs 62,.Bs 63] 61 true (.bin .eql),p3 65 [.Bs 61,.Bs 64,.cv (.bool false)] .pick,p4 66 65,ch 67 [.jm 11] 66 true .mR,ch 68 [.jm 13] 66 true .mR,ch 69 [.Bs 67,.Bs 68] 66 true (.bin .eql),p3 70 [.Bs 66,.Bs 69,.cv (.bool false)] .pick,p4 71 70,ch 72 [.jm 12] 71 true .mR,ch 73 [.jm 14] 71 true .mR,ch 74 [.Bs 72,.Bs 73] 71 true (.bin .eql),p3 75 [.Bs 71,.Bs 74,.cv (.bool false)] .pick,p4 76 75,⟨some 77,[.cv (.func 11 [] [])],some (76,true),none,.call 3⟩,p3 78 [.Bs 76,.Bs 77,.cv (.bool false)] .pick,p4 2 78] .ret))))))))
theorem aeU:qu Tryz.prog Uk 3=some (aak,79,[.tmp 2]):=by qb
def Gy (p:(qk×(Int×Int))):Option Bool :=
 (KL p).bind fun aS =>
 if aS=true then
  (Ja).bind fun bh =>
  some bh
 else
  (LG p).bind fun eH =>
  (Ob p).bind fun qQ =>
  (KN p).bind fun q4 =>
  (MT p).bind fun rQ =>
  (LH p).bind fun H5 =>
  (Oc p).bind fun HD =>
  if (decide (eH.1=qQ.1))=true then
   if (decide (eH.2=qQ.2))=true then
    (Jn q4.1 rQ.1).bind fun Ig =>
    if Ig=true then
     if (decide (q4.2=rQ.2))=true then
      if (decide (H5.1=HD.1))=true then
       if (decide (H5.2=HD.2))=true then
        (Ja).bind fun It =>
        some It
       else
        some false
      else
       some false
     else
      some false
    else
     some false
   else
    some false
  else
   some false
theorem aiH {p:(qk×(Int×Int))} {v:Bool} (h:Gy p=some v):qw 3 [(.agg [(.av (p.1.flatMap p_) p.1.length .shared),(hX p.2.1),(hX p.2.2)])] (B v):=by
 refine qO eD aeU rfl rfl fun Q bo=>?_;have jG:qL [.tmp 2] Q (fun v=>(B v)) v:=fun T H bD=>bo _ T H bD;unfold Gy at h;unfold aak;conv=>whnf
 obtain ⟨aS,gJ,h⟩:=p' h;refine ⟨qj.pl,_,Td gJ,?_⟩;conv=>whnf
 cases aS
 ·conv=>whnf
  replace h:=rq rfl h;obtain ⟨eH,qt,h⟩:=p' h;refine ⟨qj.pl,_,Zw qt,?_⟩;conv=>whnf
  obtain ⟨qQ,qH,h⟩:=p' h;refine ⟨qj.pl,_,ail qH,?_⟩;conv=>whnf
  obtain ⟨q4,qX,h⟩:=p' h;refine ⟨qj.pl,_,Tf qX,?_⟩;conv=>whnf
  obtain ⟨rQ,q9,h⟩:=p' h;refine ⟨qj.pl,_,Zy q9,?_⟩;conv=>whnf
  obtain ⟨H5,qS,h⟩:=p' h;refine ⟨qj.pl,_,ZA qS,?_⟩;conv=>whnf
  obtain ⟨HD,re,h⟩:=p' h;refine ⟨qj.pl,_,aip re,?_⟩;conv=>whnf
  refine bs h (fun q_ h=>?_) fun q_ h=>?_
  ·rw [q_];(conv=>whnf);refine bs h (fun ry h=>?_) fun ry h=>?_
   ·rw [ry];(conv=>whnf);obtain ⟨Ig,Hj,h⟩:=p' h;refine ⟨qj.pl,_,PO Hj,?_⟩;(conv=>whnf);cases Ig
    ·(conv=>whnf);replace h:=rq rfl h;exact qe h jG rfl rfl
    ·(conv=>whnf);replace h:=rp rfl h;refine bs h (fun Hq h=>?_) fun Hq h=>?_
     ·rw [Hq];(conv=>whnf);refine bs h (fun Hw h=>?_) fun Hw h=>?_
      ·rw [Hw];(conv=>whnf);refine bs h (fun H0 h=>?_) fun H0 h=>?_
       ·rw [H0];(conv=>whnf);obtain ⟨It,HI,h⟩:=p' h;refine ⟨rfl,_,Kg HI,?_⟩;(conv=>whnf);exact qe h jG rfl rfl
       ·rw [H0];(conv=>whnf);exact qe h jG rfl rfl
      ·rw [Hw];(conv=>whnf);exact qe h jG rfl rfl
     ·rw [Hq];(conv=>whnf);exact qe h jG rfl rfl
   ·rw [ry];(conv=>whnf);exact qe h jG rfl rfl
  ·rw [q_];(conv=>whnf);exact qe h jG rfl rfl
 ·conv=>whnf
  replace h:=rp rfl h;obtain ⟨bh,gK,h⟩:=p' h;refine ⟨rfl,_,Kg gK,?_⟩;conv=>whnf
  exact qe h jG rfl rfl

noncomputable def aau:gB :=
 p5 [p3 3 [.jm 0] .box,p3 6 [.cv (.bool false)] .mR] (.seq (p5 [p3 18 [.m_ 3] (.zE (.str 3)),p3 19 [.cv (.func 10 [] []),.m_ 18] (.call 3),p4 20 19,ch 21 [.m_ 1] 20 false .mR,ch 22 [.jm 21] 20 false .zJ,ch 23 [.Bs 22,.cv (.int .i64 10)] 20 false (.bin .gtr),p3 24 [.Bs 20,.cv (.bool true),.Bs 23] .pick,p4 25 24,ch 26 [.m_ 2] 25 false .mR,ch 27 [.jm 26] 25 false .zJ,ch 28 [.Bs 27,.cv (.int .i64 10)] 25 false (.bin .gtr),p3 29 [.Bs 25,.cv (.bool true),.Bs 28] .pick] (.cond (.m_ 29) (p5 [p3 30 [.cv (.func 11 [] [])] (.call 3),p4 6 30] .ret) .skip)) (p5 [p3 32 [.m_ 3] (.zE (.str 3)),p6 33 1,p6 34 2,p3 35 [.cv (.func 19 [] []),.m_ 32,.m_ 33,.m_ 34] (.call 3),p4 31 35,qR 36 31 0,p3 37 [.Bs 31] (.ext 1),p4 7 36,p4 8 37] (p5 [p3 39 [.m_ 3] (.zE (.str 3)),p6 40 1,p4 41 2,p3 42 [.cv (.func 20 [] []),.m_ 39,.m_ 40,.m_ 41] (.call 3),p4 38 42,qR 43 38 0,p3 44 [.Bs 38] (.ext 1),p4 9 43,p4 10 44] (p5 [p3 46 [.m_ 3] (.zE (.str 3)),p6 47 1,p3 48 [.cv (.func 21 [] []),.m_ 46,.m_ 47] (.call 3),p4 45 48,qR 49 45 0,p3 50 [.Bs 45] (.ext 1),p4 11 49,p4 12 50] (p5 [p3 52 [.m_ 3] (.zE (.str 3)),p6 53 1,p3 54 [.cv (.func 22 [] []),.m_ 52,.m_ 53] (.call 3),p4 51 54,qR 55 51 0,p3 56 [.Bs 51] (.ext 1),p4 13 55,p4 14 56] (p5 [p3 58 [.m_ 3] (.zE (.str 3)),p6 59 1,p3 60 [.cv (.func 23 [] []),.m_ 58,.m_ 59] (.call 3),p4 57 60,qR 61 57 0,p3 62 [.Bs 57] (.ext 1),p4 15 61,p4 16 62] (.seq (p5 [p4 63 7,p4 64 9,qq 65 63 64 .neq,p4 66 65,ch 67 [.jm 8] 66 false .mR,ch 68 [.jm 10] 66 false .mR,ch 69 [.Bs 67,.Bs 68] 66 false (.bin .neq),p3 70 [.Bs 66,.cv (.bool true),.Bs 69] .pick,p4 71 70,ch 72 [.jm 11] 71 false .mR,ch 73 [.m_ 13] 71 false .mR,ch 74 [.Bs 72,.Bs 73] 71 false (.bin .neq),p3 75 [.Bs 71,.cv (.bool true),.Bs 74] .pick,p4 76 75,ch 77 [.jm 12] 76 false .mR,ch 78 [.m_ 14] 76 false .mR,ch 79 [.Bs 77,.Bs 78] 76 false (.bin .neq),p3 80 [.Bs 76,.cv (.bool true),.Bs 79] .pick,p4 81 80,ch 82 [.jm 16] 81 false .mR,ch 83 [.m_ 14] 81 false .mR,ch 84 [.Bs 82,.Bs 83] 81 false (.bin .neq),p3 85 [.Bs 81,.cv (.bool true),.Bs 84] .pick,p4 86 85,ch 87 [.m_ 15] 86 false .mR,ch 88 [.jm 87] 86 false .zJ,ch 89 [.Bs 88,.cv (.int .i64 10)] 86 false (.bin .gtr),p3 90 [.Bs 86,.cv (.bool true),.Bs 89] .pick] (.cond (.m_ 90) (p5 [p3 6 [.cv (.bool false)] .mR] .ret) .skip)) (.seq (p5 [p4 91 14,qv 92 91 0 .neq] (.cond (.m_ 92) (p5 [p4 93 15,q2 94 93,qv 95 94 0 .eql,p4 96 95,⟨some 97,[.cv (.func 11 [] [])],some (96,true),none,.call 3⟩,p3 98 [.Bs 96,.Bs 97,.cv (.bool false)] .pick,p4 6 98] .ret) .skip)) (p5 [p3 100 [.Bs 3] (.zE (.str 3)),p4 101 1,p4 102 15,p3 103 [.cv (.func 20 [] []),.m_ 100,.m_ 101,.m_ 102] (.call 3),p4 99 103,qR 104 99 0,p3 105 [.Bs 99] (.ext 1),p4 17 104,p4 16 105] (p5 [p4 106 16,qv 107 106 0 .eql,p4 108 107,ch 109 [.jm 17] 108 true .mR,ch 110 [.jm 13] 108 true .mR,ch 111 [.Bs 109,.Bs 110] 108 true (.bin .eql),p3 112 [.Bs 108,.Bs 111,.cv (.bool false)] .pick,p4 113 112,⟨some 114,[.cv (.func 11 [] [])],some (113,true),none,.call 3⟩,p3 115 [.Bs 113,.Bs 114,.cv (.bool false)] .pick,p4 6 115] .ret))))))))))
theorem ae4:qu Tryz.prog Us 4=some (aau,116,[.tmp 6]):=by qb
def PW (p:(qk×(Int×Int))) (order:qa) (l:(List (Int×(Int×Int)))):Option Bool :=
 (KL p).bind fun aS =>
 if aS=true then
  (Ja).bind fun bh =>
  some bh
 else
  if (decide ((10:Int)<(order.length:Int)))=true then
   (Ja).bind fun eH =>
   some eH
  else
   if (decide ((10:Int)<(l.length:Int)))=true then
    (Ja).bind fun qQ =>
    some qQ
   else
    (JL p order l).bind fun q4 =>
    (KQ p order l).bind fun rQ =>
    (LJ p order).bind fun H5 =>
    (Od p order).bind fun HD =>
    (KR p order).bind fun Ig =>
    if (decide (q4.1≠rQ.1))=true then
     some false
    else
     if (decide (q4.2≠rQ.2))=true then
      some false
     else
      if (decide (H5.1≠HD.1))=true then
       some false
      else
       if (decide (H5.2≠HD.2))=true then
        some false
       else
        if (decide (Ig.2≠HD.2))=true then
         some false
        else
         if (decide ((10:Int)<(Ig.1.length:Int)))=true then
          some false
         else
          if (decide (HD.2≠(0:Int)))=true then
           if (decide ((Ig.1.length:Int)=(0:Int)))=true then
            (Ja).bind fun It =>
            some It
           else
            some false
          else
           (KQ p order Ig.1).bind fun MC =>
           if (decide (MC.2=(0:Int)))=true then
            if (decide (MC.1=HD.1))=true then
             (Ja).bind fun MD =>
             some MD
            else
             some false
           else
            some false
theorem aiY {p:(qk×(Int×Int))} {order:qa} {l:(List (Int×(Int×Int)))} {v:Bool} (h:PW p order l=some v):qw 4 [(.agg [(.av (p.1.flatMap p_) p.1.length .shared),(hX p.2.1),(hX p.2.2)]),(.av (order.map hX) order.length .shared),(.av (l.flatMap qy) l.length .shared)] (B v):=by
 refine qO eD ae4 rfl rfl fun Q bo=>?_;have jG:qL [.tmp 6] Q (fun v=>(B v)) v:=fun T H bD=>bo _ T H bD;unfold PW at h;unfold aau;conv=>whnf
 obtain ⟨aS,gJ,h⟩:=p' h;refine ⟨qj.pl,_,Td gJ,?_⟩;conv=>whnf
 cases aS
 ·conv=>whnf
  replace h:=rq rfl h;refine bs h (fun qt h=>?_) fun qt h=>?_
  ·rw [qt];(conv=>whnf);obtain ⟨eH,qH,h⟩:=p' h;refine ⟨rfl,_,Kg qH,?_⟩;(conv=>whnf);exact qe h jG rfl rfl
  ·rw [qt];(conv=>whnf);refine bs h (fun qX h=>?_) fun qX h=>?_
   ·rw [qX];(conv=>whnf);obtain ⟨qQ,q9,h⟩:=p' h;refine ⟨rfl,_,Kg q9,?_⟩;(conv=>whnf);exact qe h jG rfl rfl
   ·rw [qX];(conv=>whnf);obtain ⟨q4,qS,h⟩:=p' h;refine ⟨qj.pl,_,PS qS,?_⟩;(conv=>whnf);obtain ⟨rQ,re,h⟩:=p' h;refine ⟨qj.pl,_,Th re,?_⟩;(conv=>whnf);obtain ⟨H5,q_,h⟩:=p' h;refine ⟨qj.pl,_,ZB q_,?_⟩;(conv=>whnf);obtain ⟨HD,ry,h⟩:=p' h;refine ⟨qj.pl,_,ait ry,?_⟩;(conv=>whnf);obtain ⟨Ig,Hj,h⟩:=p' h;refine ⟨qj.pl,_,Tj Hj,?_⟩;(conv=>whnf);refine bs h (fun Hq h=>?_) fun Hq h=>?_
    ·rw [Hq];(conv=>whnf);exact qe h jG rfl rfl
    ·rw [Hq];(conv=>whnf);refine bs h (fun Hw h=>?_) fun Hw h=>?_
     ·rw [Hw];(conv=>whnf);exact qe h jG rfl rfl
     ·rw [Hw];(conv=>whnf);refine bs h (fun H0 h=>?_) fun H0 h=>?_
      ·rw [H0];(conv=>whnf);exact qe h jG rfl rfl
      ·rw [H0];(conv=>whnf);refine bs h (fun HI h=>?_) fun HI h=>?_
       ·rw [HI];(conv=>whnf);exact qe h jG rfl rfl
       ·rw [HI];(conv=>whnf);refine bs h (fun Jh h=>?_) fun Jh h=>?_
        ·rw [Jh];(conv=>whnf);exact qe h jG rfl rfl
        ·rw [Jh];(conv=>whnf);refine bs h (fun Iq h=>?_) fun Iq h=>?_
         ·rw [Iq];(conv=>whnf);exact qe h jG rfl rfl
         ·rw [Iq];(conv=>whnf);refine bs h (fun Ji h=>?_) fun Ji h=>?_
          ·rw [Ji];(conv=>whnf);refine bs h (fun IB h=>?_) fun IB h=>?_
           ·rw [IB];(conv=>whnf);obtain ⟨It,OX,h⟩:=p' h;refine ⟨rfl,_,Kg OX,?_⟩;(conv=>whnf);exact qe h jG rfl rfl
           ·rw [IB];(conv=>whnf);exact qe h jG rfl rfl
          ·rw [Ji];(conv=>whnf);obtain ⟨MC,Nu,h⟩:=p' h;refine ⟨qj.pl,_,Th Nu,?_⟩;(conv=>whnf);refine bs h (fun Le h=>?_) fun Le h=>?_
           ·rw [Le];(conv=>whnf);refine bs h (fun Mg h=>?_) fun Mg h=>?_
            ·rw [Mg];(conv=>whnf);obtain ⟨MD,OY,h⟩:=p' h;refine ⟨rfl,_,Kg OY,?_⟩;(conv=>whnf);exact qe h jG rfl rfl
            ·rw [Mg];(conv=>whnf);exact qe h jG rfl rfl
           ·rw [Le];(conv=>whnf);exact qe h jG rfl rfl
 ·conv=>whnf
  replace h:=rp rfl h;obtain ⟨bh,gK,h⟩:=p' h;refine ⟨rfl,_,Kg gK,?_⟩;conv=>whnf
  exact qe h jG rfl rfl

noncomputable def aaA:gB :=
 p5 [p3 1 [.jm 0] .box,p3 2 [.cv (.bool false)] .mR] (.seq (p5 [p3 7 [.m_ 1] (.zE (.str 3)),p3 8 [.cv (.func 10 [] []),.m_ 7] (.call 3)] (.cond (.m_ 8) (p5 [p3 9 [.cv (.func 11 [] [])] (.call 3),p4 2 9] .ret) .skip)) (p5 [p3 11 [.m_ 1] (.zE (.str 3)),p3 12 [.cv (.func 24 [] []),.m_ 11] (.call 3),p4 10 12,qR 13 10 0,p3 14 [.Bs 10] (.ext 1),p4 3 13,p4 4 14] (p5 [p3 16 [.Bs 1] (.zE (.str 3)),p3 17 [.cv (.func 25 [] []),.m_ 16] (.call 3),p4 15 17,qR 18 15 0,p3 19 [.Bs 15] (.ext 1),p4 5 18,p4 6 19] (p5 [p4 20 3,p4 21 5,p3 22 [.cv (.func 18 [] []),.m_ 20,.m_ 21] (.call 3),p4 23 22,ch 24 [.jm 4] 23 true .mR,ch 25 [.jm 6] 23 true .mR,ch 26 [.Bs 24,.Bs 25] 23 true (.bin .eql),p3 27 [.Bs 23,.Bs 26,.cv (.bool false)] .pick,p4 28 27,⟨some 29,[.cv (.func 11 [] [])],some (28,true),none,.call 3⟩,p3 30 [.Bs 28,.Bs 29,.cv (.bool false)] .pick,p4 2 30] .ret))))
theorem ae_:qu Tryz.prog Uz 5=some (aaA,31,[.tmp 2]):=by qb
def P0 (p:(qk×(Int×Int))):Option Bool :=
 (KL p).bind fun aS =>
 if aS=true then
  (Ja).bind fun bh =>
  some bh
 else
  (LK p).bind fun eH =>
  (Oe p).bind fun qQ =>
  (Jn eH.1 qQ.1).bind fun q4 =>
  if q4=true then
   if (decide (eH.2=qQ.2))=true then
    (Ja).bind fun rQ =>
    some rQ
   else
    some false
  else
   some false
theorem ai6 {p:(qk×(Int×Int))} {v:Bool} (h:P0 p=some v):qw 5 [(.agg [(.av (p.1.flatMap p_) p.1.length .shared),(hX p.2.1),(hX p.2.2)])] (B v):=by
 refine qO eD ae_ rfl rfl fun Q bo=>?_;have jG:qL [.tmp 2] Q (fun v=>(B v)) v:=fun T H bD=>bo _ T H bD;unfold P0 at h;unfold aaA;conv=>whnf
 obtain ⟨aS,gJ,h⟩:=p' h;refine ⟨qj.pl,_,Td gJ,?_⟩;conv=>whnf
 cases aS
 ·conv=>whnf
  replace h:=rq rfl h;obtain ⟨eH,qt,h⟩:=p' h;refine ⟨qj.pl,_,ZD qt,?_⟩;conv=>whnf
  obtain ⟨qQ,qH,h⟩:=p' h;refine ⟨qj.pl,_,aiy qH,?_⟩;conv=>whnf
  obtain ⟨q4,qX,h⟩:=p' h;refine ⟨qj.pl,_,PO qX,?_⟩;conv=>whnf
  cases q4
  ·(conv=>whnf);replace h:=rq rfl h;exact qe h jG rfl rfl
  ·(conv=>whnf);replace h:=rp rfl h;refine bs h (fun q9 h=>?_) fun q9 h=>?_
   ·rw [q9];(conv=>whnf);obtain ⟨rQ,qS,h⟩:=p' h;refine ⟨rfl,_,Kg qS,?_⟩;(conv=>whnf);exact qe h jG rfl rfl
   ·rw [q9];(conv=>whnf);exact qe h jG rfl rfl
 ·conv=>whnf
  replace h:=rp rfl h;obtain ⟨bh,gK,h⟩:=p' h;refine ⟨rfl,_,Kg gK,?_⟩;conv=>whnf
  exact qe h jG rfl rfl
end Go.Proofs.YtkoioidpbbbaiaaGreat.Ab


namespace Go.Proofs.YtkoioidpbbbaiaaGreat.Ab
open Go
set_option maxRecDepth 20000
set_option maxHeartbeats 1000000
theorem Wf {a:List Int} (cq:a.length≤1000):∀ (m i:Nat),i≤a.length→a.length-i<m→LI a a (fun _=>some true) m (i:Int)=some true
 | 0,_,_,h=>absurd h (by omega)
 | m+1,i,hi,hm=>by
   rw [LI];by_cases aR:i<a.length
   ·rw [if_pos (decide_eq_true (by omega)),qx (by omega),qx (by omega),if_neg (by simp),Hr i (by omega)];exact Wf cq m (i+1) (by omega) (by omega)
   ·rw [if_neg (by simp;omega)]
theorem PQ {a:List Int} (cq:a.length≤1000):Jn a a=some true:=by
 unfold Jn;rw [if_neg (by simp)];exact Wf cq qi 0 (by omega) (r6 (by omega))
theorem abZ {p:qn} (h:rk p):(Jf p).length≤1000:=by have:=(Q1 p).1;have:=h.len;omega
theorem abV {p:qn} (h:rk p):(Je p).length≤1000:=by
 have ab:=List.length_filter_le (fun s:Int=>HT p s.toNat) (qp p.1.length);rw [LB] at ab;have:=h.len;unfold Je;omega
theorem aiI (p:qn):Gy p=some true:=by
 unfold Gy KL;rw [sc];by_cases dk:(10:Int)<(p.1.length:Int)
 ·rw [if_pos (decide_eq_true dk),works];rfl
 ·rw [if_neg (by simpa using dk)];have aB:p.1.length≤1000:=by omega
  rw [Zv aB,sc,aik aB,sc,Te aB,sc,Zx aB,sc,Zz aB,sc,ain aB,sc];have ah:Jn (if qY p=0 then (Jf p,0) else ([],qY p)).1 (if qY p=0 then (Jf p,0) else ([],qY p)).1=some true:=by
   by_cases h:qY p=0
   ·rw [if_pos h];exact PQ (abZ (Jg.1 h))
   ·rw [if_neg h];exact PQ (by simp)
  rw [if_pos (decide_eq_true rfl),if_pos (decide_eq_true rfl),ah,sc,if_pos rfl,if_pos (decide_eq_true rfl),if_pos (decide_eq_true rfl),if_pos (decide_eq_true rfl),works];rfl
theorem aiZ (p:qn) (o:List Int) (l:List qC):PW p o l=some true:=by
 unfold PW KL;rw [sc];by_cases dk:(10:Int)<(p.1.length:Int)
 ·rw [if_pos (decide_eq_true dk),works];rfl
 rw [if_neg (by simpa using dk)];by_cases fl:(10:Int)<(o.length:Int)
 ·rw [if_pos (decide_eq_true fl),works];rfl
 rw [if_neg (by simpa using fl)];by_cases VL:(10:Int)<(l.length:Int)
 ·rw [if_pos (decide_eq_true VL),works];rfl
 rw [if_neg (by simpa using VL)];have aB:p.1.length≤1000:=by omega
 have aq:o.length≤12:=by omega
 obtain ⟨l',ab,ae⟩:=Ti aB aq;rw [PR aB aq (by omega),sc,Tg aB aq (by omega),sc];unfold LJ;rw [ab,sc,sc,ais aB aq,sc,sc];have db:=Mc p o 0;have bl:=Mc p o 1;by_cases r7:rV p o=0
 ·obtain ⟨aF,ba,bO⟩:=ae r7;simp only [if_pos r7];rw [if_neg (by simp),if_neg (by simp),if_neg (by rw [aF];simp),if_neg (by simp),if_neg (by simp),if_neg (by simp;omega),if_neg (by simp)];rw [Tg aB aq (by omega),sc,if_pos r7,if_pos ba,if_neg (show ¬ 0<q' (r4 l' p.1,p.2) o by omega)];rw [if_pos (by simp),if_pos (by rw [aF];simp),works];rfl
 ·simp only [if_neg r7];rw [if_neg (by simp),if_neg (by simp),if_neg (by simp),if_neg (by simp),if_neg (by simp),if_neg (by simp),if_pos (by simpa using r7),if_pos (by simp),works];rfl
theorem ai7 (p:qn):P0 p=some true:=by
 unfold P0 KL;rw [sc];by_cases dk:(10:Int)<(p.1.length:Int)
 ·rw [if_pos (decide_eq_true dk),works];rfl
 ·rw [if_neg (by simpa using dk)];have aB:p.1.length≤1000:=by omega
  rw [ZC aB,sc,aiu aB,sc];have ah:Jn (if qY p=0 then (Je p,0) else ([],qY p)).1 (if qY p=0 then (Je p,0) else ([],qY p)).1=some true:=by
   by_cases h:qY p=0
   ·rw [if_pos h];exact PQ (abV (Jg.1 h))
   ·rw [if_neg h];exact PQ (by simp)
  rw [ah,sc,if_pos rfl,if_pos (decide_eq_true rfl),works];rfl
abbrev R9 (p:qn):I:=.agg [.av (p.1.flatMap p_) p.1.length .shared,hX p.2.1,hX p.2.2]
theorem acB (p:qn):qw 3 [R9 p] (B true):=aiH (aiI p)
theorem acA (p:qn) (o:List Int) (l:List qC):qw 4 [R9 p,.av (o.map hX) o.length .shared,.av (l.flatMap qy) l.length .shared] (B true):=aiY (aiZ p o l)
theorem acz (p:qn):qw 5 [R9 p] (B true):=ai6 (ai7 p)
end Go.Proofs.YtkoioidpbbbaiaaGreat.Ab
