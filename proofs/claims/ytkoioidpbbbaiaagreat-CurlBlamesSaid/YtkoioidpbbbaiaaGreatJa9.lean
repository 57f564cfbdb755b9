
import Derived.Test.YtkoioidpbbbaiaaGreatJa8
import Derived.KernelRfl
import Derived.Test.YtkoioidpbbbaiaaGreatJa5
import Derived.Test.YtkoioidpbbbaiaaGreatJa6
import Derived.Test.YtkoioidpbbbaiaaGreatJa7
set_option linter.unusedSimpArgs false
set_option linter.unusedVariables false
set_option linter.unusedSectionVars false

open Option renaming bind_some→sc
namespace Go.Proofs.YtkoioidpbbbaiaaGreat.Ab
open Go
set_option maxRecDepth 20000
set_option maxHeartbeats 1000000
def Pd:qm:=([(10,1),(5,0),(10,1)],(0,4))
def HV:qm:=([(3,0),(5,0),(8,0)],(0,0))
def Mp:qm:=([(4,0),(6,0),(1,0),(6,0),(4,0)],(0,9))
theorem aiD:PT=some Pd:=by decide +kernel
theorem aiF:PU=some HV:=by decide +kernel
theorem aiH:PV=some Mp:=by decide +kernel
theorem aid:KQ Mp [1,0,2,3,4] 0=some (-4,2,0):=by
 rw [ZE (by decide) (by decide)];decide +kernel
theorem aie:KQ Pd [1,0,2] 5=some (0,0,3):=by
 rw [ZE (by decide) (by decide)];decide +kernel
theorem aib:Ki Pd [1,0,2]=some (9,0):=by
 rw [Tk (by decide) (by decide)];decide +kernel
theorem aic:Ki Pd [0,1,1]=some (0,16):=by
 rw [Tk (by decide) (by decide)];decide +kernel
theorem ah1:LF HV=some (2,0):=by
 rw [Zv (by decide)];decide +kernel
theorem ah2:KL HV=some ([0,2,1],0):=by
 rw [Te (by decide)];decide +kernel
theorem ah3:LG Mp=some (8,0):=by
 rw [Zz (by decide)];decide +kernel
theorem ah6:JK HV [0,2,1] [(0,(5,0))]=some (1,0):=by
 rw [PR (by decide) (by decide) (by decide)];decide +kernel
theorem ah7:JK HV [0,2,1] [(2,(1,0))]=some (0,23):=by
 rw [PR (by decide) (by decide) (by decide)];decide +kernel
theorem ah8:JK HV [0,2,1] [(0,(101,0))]=some (0,3):=by
 rw [PR (by decide) (by decide) (by decide)];decide +kernel
theorem Rd {p:qm} {o:List Int} {a i t:Nat} (ab:¬ r7 p o a) (ae:i<o.length) (aF:i % 2=a) (ba:t<2121) (bO:I0 p o a i (Jk t)):HY p o a=1:=by
 unfold HY;rw [if_neg ab,if_pos ⟨i,ae,aF,t,ba,bO⟩]
theorem acO {p:qm} {o:List Int} {a:Nat} (ab:r7 p o a):HY p o a=0:=by
 unfold HY;rw [if_pos ab]
theorem ah9:LI Mp [1,0,2,3,4]=some (2,0):=by
 unfold LI;obtain ⟨l,ab,ae⟩:=Ti (p:=Mp) (o:=[1,0,2,3,4]) (by decide) (by decide);have r6:rU Mp [1,0,2,3,4]=0:=by decide +kernel
 rw [if_pos r6] at ab;rw [ab,sc,(ae r6).1];rw [Rd (i:=0) (t:=1014) (by decide +kernel) (by decide) (by decide) (by decide) (by decide +kernel),Rd (i:=1) (t:=1016) (by decide +kernel) (by decide) (by decide) (by decide) (by decide +kernel)];rfl
theorem ah_:∃ l,KP HV [0,2,1]=some (l,0)∧KO HV [0,2,1] l=some (1,0):=by
 obtain ⟨l,ab,ae⟩:=Ti (p:=HV) (o:=[0,2,1]) (by decide) (by decide);have r6:rU HV [0,2,1]=0:=by decide +kernel
 rw [if_pos r6] at ab;obtain ⟨aF,ba,bO⟩:=ae r6;have ao:l.length=1:=by
  rw [aF,Rd (i:=0) (t:=1015) (by decide +kernel) (by decide) (by decide) (by decide) (by decide +kernel),acO (by decide +kernel)]
 refine ⟨l,ab,?_⟩;rw [Tg (by decide) (by decide) (by omega),if_pos r6,if_pos ba,if_neg (by omega),ao];rfl
theorem aia:LJ HV=some ([0,1,2],0):=by
 have af:∀ (s t:Nat) (o:List Int),qA 3 o→s=(ix o 0).toNat→t<2121→I0 HV o 0 0 (Jk t)→r7 HV o 1→o.length=3→HS HV s=true:=fun s t o ab ae aF ba bO bP =>
  U2.2 ⟨o,ab,0,by omega,ae,by
   unfold C9;rw [Bool.and_eq_true,decide_eq_true_eq,decide_eq_true_eq]
   exact ⟨bO,t,aF,ba⟩⟩
 have db:HS HV 0=true:=af 0 1018 [0,1,2] (by decide) (by decide) (by decide) (by decide +kernel) (by decide +kernel) rfl;have bl:HS HV 1=true:=af 1 1018 [1,0,2] (by decide) (by decide) (by decide) (by decide +kernel) (by decide +kernel) rfl;have cr:HS HV 2=true:=af 2 1015 [2,0,1] (by decide) (by decide) (by decide) (by decide +kernel) (by decide +kernel) rfl;have e:Jd HV=[0,1,2]:=by
  unfold Jd;show List.filter (fun s:Int=>HS HV s.toNat) [0,1,2]=[0,1,2];refine List.filter_eq_self.2 fun s ah=>?_;simp only [List.mem_cons,List.not_mem_nil,or_false] at ah;rcases ah with rfl | rfl | rfl
  ·exact db
  ·exact bl
  ·exact cr
 rw [ZC (by decide),e,if_pos (by decide +kernel)]
theorem ah4:Jm [0,2,1] [0,2,1]=some true:=by decide +kernel
theorem ah5:Jm [0,1,2] [0,1,2]=some true:=by decide +kernel
theorem works:I'=some true:=by
 obtain ⟨l,ab,ae⟩:=ah_;unfold I';simp only [aiD,aiF,aiH,IF,MU,MV,sc,aid,aie,aib,aic,ah1,ah2,ah3,ah6,ah7,ah8,ah9,aia,ab,ae,ah4,ah5];simp only [decide_eq_true_eq,ne_eq,not_true_eq_false,if_false,if_true]
end Go.Proofs.YtkoioidpbbbaiaaGreat.Ab


namespace Go.Proofs.YtkoioidpbbbaiaaGreat.Ab
open Go
set_option maxRecDepth 20000
set_option maxHeartbeats 4000000
noncomputable def Z7:gB :=
 p5 [p3 1 [.jm 0] .box,p3 2 [.cv (.bool false)] .mR] (p5 [qJ 3 1 0,ql 4 3,qZ 5 4,qu 6 5 10 .gtr,p4 2 6] .ret)
theorem aeI:qt Tryz.prog T8 10=some (Z7,7,[.tmp 2]):=by kernel_rfl
def KJ (p:(qj×(Int×Int))):Option Bool :=
 some (decide ((10:Int)<(p.1.length:Int)))
theorem Td {p:(qj×(Int×Int))} {v:Bool} (h:KJ p=some v):qv 10 [(.agg [(.av (p.1.flatMap p_) p.1.length .shared),(hX p.2.1),(hX p.2.2)])] (B v):=by
 refine qN eD aeI rfl rfl fun Q bo=>?_;have jG:qK [.tmp 2] Q (fun v=>(B v)) v:=fun T H bD=>bo _ T H bD;unfold KJ at h;unfold Z7;conv=>whnf
 exact qd h jG rfl rfl

noncomputable def aak:gB :=
 p5 [p3 1 [.jm 0] .box,p3 2 [.cv (.bool false)] .mR] (.seq (p5 [p3 15 [.m_ 1] (.zE (.str 3)),p3 16 [.cv (.func 10 [] []),.m_ 15] (.call 3)] (.cond (.m_ 16) (p5 [p3 17 [.cv (.func 11 [] [])] (.call 3),p4 2 17] .ret) .skip)) (p5 [p3 19 [.m_ 1] (.zE (.str 3)),p3 20 [.cv (.func 12 [] []),.m_ 19] (.call 3),p4 18 20,qQ 21 18 0,p3 22 [.Bs 18] (.ext 1),p4 3 21,p4 4 22] (p5 [p3 24 [.m_ 1] (.zE (.str 3)),p3 25 [.cv (.func 13 [] []),.m_ 24] (.call 3),p4 23 25,qQ 26 23 0,p3 27 [.Bs 23] (.ext 1),p4 5 26,p4 6 27] (p5 [p3 29 [.m_ 1] (.zE (.str 3)),p3 30 [.cv (.func 14 [] []),.m_ 29] (.call 3),p4 28 30,qQ 31 28 0,p3 32 [.Bs 28] (.ext 1),p4 7 31,p4 8 32] (p5 [p3 34 [.m_ 1] (.zE (.str 3)),p3 35 [.cv (.func 15 [] []),.m_ 34] (.call 3),p4 33 35,qQ 36 33 0,p3 37 [.Bs 33] (.ext 1),p4 9 36,p4 10 37] (p5 [p3 39 [.m_ 1] (.zE (.str 3)),p3 40 [.cv (.func 16 [] []),.m_ 39] (.call 3),p4 38 40,qQ 41 38 0,p3 42 [.Bs 38] (.ext 1),p4 11 41,p4 12 42] (p5 [p3 44 [.Bs 1] (.zE (.str 3)),p3 45 [.cv (.func 17 [] []),.m_ 44] (.call 3),p4 43 45,qQ 46 43 0,p3 47 [.Bs 43] (.ext 1),p4 13 46,p4 14 47] (p5 [p4 48 3,p4 49 5,qp 50 48 49 .eql,p4 51 50,ch 52 [.jm 4] 51 true .mR,ch 53 [.jm 6] 51 true .mR,ch 54 [.Bs 52,.Bs 53] 51 true (.bin .eql),p3 55 [.Bs 51,.Bs 54,.cv (.bool false)] .pick,p4 56 55,ch 57 [.jm 7] 56 true .mR,ch 58 [.jm 9] 56 true .mR,⟨some 59,[.cv (.func 18 [] []),.m_ 57,.m_ 58],some (56,true),none,.call 3⟩,p3 60 [.Bs 56,.Bs 59,.cv (.bool false)] .pick,p4 61 60,ch 62 [.jm 8] 61 true .mR,ch 63 [.jm 10] 61 true .mR,ch 64 [.Bs 62,.Bs 63] 61 true (.bin .eql),p3 65 [.Bs 61,.Bs 64,.cv (.bool false)] .pick,p4 66 65,ch 67 [.jm 11] 66 true .mR,ch 68 [.jm 13] 66 true .mR,ch 69 [.Bs 67,.Bs 68] 66 true (.bin .eql),p3 70 [.Bs 66,.Bs 69,.cv (.bool false)] .pick,p4 71 70,ch 72 [.jm 12] 71 true .mR,ch 73 [.jm 14] 71 true .mR,ch 74 [.Bs 72,.Bs 73] 71 true (.bin .eql),p3 75 [.Bs 71,.Bs 74,.cv (.bool false)] .pick,p4 76 75,⟨some 77,[.cv (.func 11 [] [])],some (76,true),none,.call 3⟩,p3 78 [.Bs 76,.Bs 77,.cv (.bool false)] .pick,p4 2 78] .ret))))))))
theorem aeX:qt Tryz.prog Uk 3=some (aak,79,[.tmp 2]):=by kernel_rfl
def Gy (p:(qj×(Int×Int))):Option Bool :=
 (KJ p).bind fun aS =>
 if aS=true then
  (I').bind fun bh =>
  some bh
 else
  (LF p).bind fun eH =>
  (Ob p).bind fun qP =>
  (KL p).bind fun q3 =>
  (MS p).bind fun rP =>
  (LG p).bind fun H4 =>
  (Oc p).bind fun HC =>
  if (decide (eH.1=qP.1))=true then
   if (decide (eH.2=qP.2))=true then
    (Jm q3.1 rP.1).bind fun Ie =>
    if Ie=true then
     if (decide (q3.2=rP.2))=true then
      if (decide (H4.1=HC.1))=true then
       if (decide (H4.2=HC.2))=true then
        (I').bind fun Is =>
        some Is
       else
        some false
      else
       some false
     else
      some false
    else
     some false
   else
    some false
  else
   some false
theorem aiK {p:(qj×(Int×Int))} {v:Bool} (h:Gy p=some v):qv 3 [(.agg [(.av (p.1.flatMap p_) p.1.length .shared),(hX p.2.1),(hX p.2.2)])] (B v):=by
 refine qN eD aeX rfl rfl fun Q bo=>?_;have jG:qK [.tmp 2] Q (fun v=>(B v)) v:=fun T H bD=>bo _ T H bD;unfold Gy at h;unfold aak;conv=>whnf
 obtain ⟨aS,gJ,h⟩:=p' h;refine ⟨qi.pl,_,Td gJ,?_⟩;conv=>whnf
 cases aS
 ·conv=>whnf
  replace h:=rp rfl h;obtain ⟨eH,qs,h⟩:=p' h;refine ⟨qi.pl,_,Zw qs,?_⟩;conv=>whnf
  obtain ⟨qP,qG,h⟩:=p' h;refine ⟨qi.pl,_,aio qG,?_⟩;conv=>whnf
  obtain ⟨q3,qW,h⟩:=p' h;refine ⟨qi.pl,_,Tf qW,?_⟩;conv=>whnf
  obtain ⟨rP,q8,h⟩:=p' h;refine ⟨qi.pl,_,Zy q8,?_⟩;conv=>whnf
  obtain ⟨H4,qR,h⟩:=p' h;refine ⟨qi.pl,_,ZA qR,?_⟩;conv=>whnf
  obtain ⟨HC,rb,h⟩:=p' h;refine ⟨qi.pl,_,ais rb,?_⟩;conv=>whnf
  refine bs h (fun q9 h=>?_) fun q9 h=>?_
  ·rw [q9];(conv=>whnf);refine bs h (fun rv h=>?_) fun rv h=>?_
   ·rw [rv];(conv=>whnf);obtain ⟨Ie,Hi,h⟩:=p' h;refine ⟨qi.pl,_,PO Hi,?_⟩;(conv=>whnf);cases Ie
    ·(conv=>whnf);replace h:=rp rfl h;exact qd h jG rfl rfl
    ·(conv=>whnf);replace h:=rn rfl h;refine bs h (fun Hp h=>?_) fun Hp h=>?_
     ·rw [Hp];(conv=>whnf);refine bs h (fun Hv h=>?_) fun Hv h=>?_
      ·rw [Hv];(conv=>whnf);refine bs h (fun HZ h=>?_) fun HZ h=>?_
       ·rw [HZ];(conv=>whnf);obtain ⟨Is,HH,h⟩:=p' h;refine ⟨rfl,_,Ke HH,?_⟩;(conv=>whnf);exact qd h jG rfl rfl
       ·rw [HZ];(conv=>whnf);exact qd h jG rfl rfl
      ·rw [Hv];(conv=>whnf);exact qd h jG rfl rfl
     ·rw [Hp];(conv=>whnf);exact qd h jG rfl rfl
   ·rw [rv];(conv=>whnf);exact qd h jG rfl rfl
  ·rw [q9];(conv=>whnf);exact qd h jG rfl rfl
 ·conv=>whnf
  replace h:=rn rfl h;obtain ⟨bh,gK,h⟩:=p' h;refine ⟨rfl,_,Ke gK,?_⟩;conv=>whnf
  exact qd h jG rfl rfl

noncomputable def aau:gB :=
 p5 [p3 3 [.jm 0] .box,p3 6 [.cv (.bool false)] .mR] (.seq (p5 [p3 18 [.m_ 3] (.zE (.str 3)),p3 19 [.cv (.func 10 [] []),.m_ 18] (.call 3),p4 20 19,ch 21 [.m_ 1] 20 false .mR,ch 22 [.jm 21] 20 false .zJ,ch 23 [.Bs 22,.cv (.int .i64 10)] 20 false (.bin .gtr),p3 24 [.Bs 20,.cv (.bool true),.Bs 23] .pick,p4 25 24,ch 26 [.m_ 2] 25 false .mR,ch 27 [.jm 26] 25 false .zJ,ch 28 [.Bs 27,.cv (.int .i64 10)] 25 false (.bin .gtr),p3 29 [.Bs 25,.cv (.bool true),.Bs 28] .pick] (.cond (.m_ 29) (p5 [p3 30 [.cv (.func 11 [] [])] (.call 3),p4 6 30] .ret) .skip)) (p5 [p3 32 [.m_ 3] (.zE (.str 3)),p6 33 1,p6 34 2,p3 35 [.cv (.func 19 [] []),.m_ 32,.m_ 33,.m_ 34] (.call 3),p4 31 35,qQ 36 31 0,p3 37 [.Bs 31] (.ext 1),p4 7 36,p4 8 37] (p5 [p3 39 [.m_ 3] (.zE (.str 3)),p6 40 1,p4 41 2,p3 42 [.cv (.func 20 [] []),.m_ 39,.m_ 40,.m_ 41] (.call 3),p4 38 42,qQ 43 38 0,p3 44 [.Bs 38] (.ext 1),p4 9 43,p4 10 44] (p5 [p3 46 [.m_ 3] (.zE (.str 3)),p6 47 1,p3 48 [.cv (.func 21 [] []),.m_ 46,.m_ 47] (.call 3),p4 45 48,qQ 49 45 0,p3 50 [.Bs 45] (.ext 1),p4 11 49,p4 12 50] (p5 [p3 52 [.m_ 3] (.zE (.str 3)),p6 53 1,p3 54 [.cv (.func 22 [] []),.m_ 52,.m_ 53] (.call 3),p4 51 54,qQ 55 51 0,p3 56 [.Bs 51] (.ext 1),p4 13 55,p4 14 56] (p5 [p3 58 [.m_ 3] (.zE (.str 3)),p6 59 1,p3 60 [.cv (.func 23 [] []),.m_ 58,.m_ 59] (.call 3),p4 57 60,qQ 61 57 0,p3 62 [.Bs 57] (.ext 1),p4 15 61,p4 16 62] (.seq (p5 [p4 63 7,p4 64 9,qp 65 63 64 .neq,p4 66 65,ch 67 [.jm 8] 66 false .mR,ch 68 [.jm 10] 66 false .mR,ch 69 [.Bs 67,.Bs 68] 66 false (.bin .neq),p3 70 [.Bs 66,.cv (.bool true),.Bs 69] .pick,p4 71 70,ch 72 [.jm 11] 71 false .mR,ch 73 [.m_ 13] 71 false .mR,ch 74 [.Bs 72,.Bs 73] 71 false (.bin .neq),p3 75 [.Bs 71,.cv (.bool true),.Bs 74] .pick,p4 76 75,ch 77 [.jm 12] 76 false .mR,ch 78 [.m_ 14] 76 false .mR,ch 79 [.Bs 77,.Bs 78] 76 false (.bin .neq),p3 80 [.Bs 76,.cv (.bool true),.Bs 79] .pick,p4 81 80,ch 82 [.jm 16] 81 false .mR,ch 83 [.m_ 14] 81 false .mR,ch 84 [.Bs 82,.Bs 83] 81 false (.bin .neq),p3 85 [.Bs 81,.cv (.bool true),.Bs 84] .pick,p4 86 85,ch 87 [.m_ 15] 86 false .mR,ch 88 [.jm 87] 86 false .zJ,ch 89 [.Bs 88,.cv (.int .i64 10)] 86 false (.bin .gtr),p3 90 [.Bs 86,.cv (.bool true),.Bs 89] .pick] (.cond (.m_ 90) (p5 [p3 6 [.cv (.bool false)] .mR] .ret) .skip)) (.seq (p5 [p4 91 14,qu 92 91 0 .neq] (.cond (.m_ 92) (p5 [p4 93 15,qZ 94 93,qu 95 94 0 .eql,p4 96 95,⟨some 97,[.cv (.func 11 [] [])],some (96,true),none,.call 3⟩,p3 98 [.Bs 96,.Bs 97,.cv (.bool false)] .pick,p4 6 98] .ret) .skip)) (p5 [p3 100 [.Bs 3] (.zE (.str 3)),p4 101 1,p4 102 15,p3 103 [.cv (.func 20 [] []),.m_ 100,.m_ 101,.m_ 102] (.call 3),p4 99 103,qQ 104 99 0,p3 105 [.Bs 99] (.ext 1),p4 17 104,p4 16 105] (p5 [p4 106 16,qu 107 106 0 .eql,p4 108 107,ch 109 [.jm 17] 108 true .mR,ch 110 [.jm 13] 108 true .mR,ch 111 [.Bs 109,.Bs 110] 108 true (.bin .eql),p3 112 [.Bs 108,.Bs 111,.cv (.bool false)] .pick,p4 113 112,⟨some 114,[.cv (.func 11 [] [])],some (113,true),none,.call 3⟩,p3 115 [.Bs 113,.Bs 114,.cv (.bool false)] .pick,p4 6 115] .ret))))))))))
theorem ae7:qt Tryz.prog Us 4=some (aau,116,[.tmp 6]):=by kernel_rfl
def PW (p:(qj×(Int×Int))) (order:qa) (l:(List (Int×(Int×Int)))):Option Bool :=
 (KJ p).bind fun aS =>
 if aS=true then
  (I').bind fun bh =>
  some bh
 else
  if (decide ((10:Int)<(order.length:Int)))=true then
   (I').bind fun eH =>
   some eH
  else
   if (decide ((10:Int)<(l.length:Int)))=true then
    (I').bind fun qP =>
    some qP
   else
    (JK p order l).bind fun q3 =>
    (KO p order l).bind fun rP =>
    (LI p order).bind fun H4 =>
    (Od p order).bind fun HC =>
    (KP p order).bind fun Ie =>
    if (decide (q3.1≠rP.1))=true then
     some false
    else
     if (decide (q3.2≠rP.2))=true then
      some false
     else
      if (decide (H4.1≠HC.1))=true then
       some false
      else
       if (decide (H4.2≠HC.2))=true then
        some false
       else
        if (decide (Ie.2≠HC.2))=true then
         some false
        else
         if (decide ((10:Int)<(Ie.1.length:Int)))=true then
          some false
         else
          if (decide (HC.2≠(0:Int)))=true then
           if (decide ((Ie.1.length:Int)=(0:Int)))=true then
            (I').bind fun Is =>
            some Is
           else
            some false
          else
           (KO p order Ie.1).bind fun MB =>
           if (decide (MB.2=(0:Int)))=true then
            if (decide (MB.1=HC.1))=true then
             (I').bind fun MC =>
             some MC
            else
             some false
           else
            some false
theorem ai1 {p:(qj×(Int×Int))} {order:qa} {l:(List (Int×(Int×Int)))} {v:Bool} (h:PW p order l=some v):qv 4 [(.agg [(.av (p.1.flatMap p_) p.1.length .shared),(hX p.2.1),(hX p.2.2)]),(.av (order.map hX) order.length .shared),(.av (l.flatMap qx) l.length .shared)] (B v):=by
 refine qN eD ae7 rfl rfl fun Q bo=>?_;have jG:qK [.tmp 6] Q (fun v=>(B v)) v:=fun T H bD=>bo _ T H bD;unfold PW at h;unfold aau;conv=>whnf
 obtain ⟨aS,gJ,h⟩:=p' h;refine ⟨qi.pl,_,Td gJ,?_⟩;conv=>whnf
 cases aS
 ·conv=>whnf
  replace h:=rp rfl h;refine bs h (fun qs h=>?_) fun qs h=>?_
  ·rw [qs];(conv=>whnf);obtain ⟨eH,qG,h⟩:=p' h;refine ⟨rfl,_,Ke qG,?_⟩;(conv=>whnf);exact qd h jG rfl rfl
  ·rw [qs];(conv=>whnf);refine bs h (fun qW h=>?_) fun qW h=>?_
   ·rw [qW];(conv=>whnf);obtain ⟨qP,q8,h⟩:=p' h;refine ⟨rfl,_,Ke q8,?_⟩;(conv=>whnf);exact qd h jG rfl rfl
   ·rw [qW];(conv=>whnf);obtain ⟨q3,qR,h⟩:=p' h;refine ⟨qi.pl,_,PS qR,?_⟩;(conv=>whnf);obtain ⟨rP,rb,h⟩:=p' h;refine ⟨qi.pl,_,Th rb,?_⟩;(conv=>whnf);obtain ⟨H4,q9,h⟩:=p' h;refine ⟨qi.pl,_,ZB q9,?_⟩;(conv=>whnf);obtain ⟨HC,rv,h⟩:=p' h;refine ⟨qi.pl,_,aiw rv,?_⟩;(conv=>whnf);obtain ⟨Ie,Hi,h⟩:=p' h;refine ⟨qi.pl,_,Tj Hi,?_⟩;(conv=>whnf);refine bs h (fun Hp h=>?_) fun Hp h=>?_
    ·rw [Hp];(conv=>whnf);exact qd h jG rfl rfl
    ·rw [Hp];(conv=>whnf);refine bs h (fun Hv h=>?_) fun Hv h=>?_
     ·rw [Hv];(conv=>whnf);exact qd h jG rfl rfl
     ·rw [Hv];(conv=>whnf);refine bs h (fun HZ h=>?_) fun HZ h=>?_
      ·rw [HZ];(conv=>whnf);exact qd h jG rfl rfl
      ·rw [HZ];(conv=>whnf);refine bs h (fun HH h=>?_) fun HH h=>?_
       ·rw [HH];(conv=>whnf);exact qd h jG rfl rfl
       ·rw [HH];(conv=>whnf);refine bs h (fun Jg h=>?_) fun Jg h=>?_
        ·rw [Jg];(conv=>whnf);exact qd h jG rfl rfl
        ·rw [Jg];(conv=>whnf);refine bs h (fun Ip h=>?_) fun Ip h=>?_
         ·rw [Ip];(conv=>whnf);exact qd h jG rfl rfl
         ·rw [Ip];(conv=>whnf);refine bs h (fun Jh h=>?_) fun Jh h=>?_
          ·rw [Jh];(conv=>whnf);refine bs h (fun IA h=>?_) fun IA h=>?_
           ·rw [IA];(conv=>whnf);obtain ⟨Is,OX,h⟩:=p' h;refine ⟨rfl,_,Ke OX,?_⟩;(conv=>whnf);exact qd h jG rfl rfl
           ·rw [IA];(conv=>whnf);exact qd h jG rfl rfl
          ·rw [Jh];(conv=>whnf);obtain ⟨MB,Nt,h⟩:=p' h;refine ⟨qi.pl,_,Th Nt,?_⟩;(conv=>whnf);refine bs h (fun Lc h=>?_) fun Lc h=>?_
           ·rw [Lc];(conv=>whnf);refine bs h (fun Mf h=>?_) fun Mf h=>?_
            ·rw [Mf];(conv=>whnf);obtain ⟨MC,OY,h⟩:=p' h;refine ⟨rfl,_,Ke OY,?_⟩;(conv=>whnf);exact qd h jG rfl rfl
            ·rw [Mf];(conv=>whnf);exact qd h jG rfl rfl
           ·rw [Lc];(conv=>whnf);exact qd h jG rfl rfl
 ·conv=>whnf
  replace h:=rn rfl h;obtain ⟨bh,gK,h⟩:=p' h;refine ⟨rfl,_,Ke gK,?_⟩;conv=>whnf
  exact qd h jG rfl rfl

noncomputable def aaA:gB :=
 p5 [p3 1 [.jm 0] .box,p3 2 [.cv (.bool false)] .mR] (.seq (p5 [p3 7 [.m_ 1] (.zE (.str 3)),p3 8 [.cv (.func 10 [] []),.m_ 7] (.call 3)] (.cond (.m_ 8) (p5 [p3 9 [.cv (.func 11 [] [])] (.call 3),p4 2 9] .ret) .skip)) (p5 [p3 11 [.m_ 1] (.zE (.str 3)),p3 12 [.cv (.func 24 [] []),.m_ 11] (.call 3),p4 10 12,qQ 13 10 0,p3 14 [.Bs 10] (.ext 1),p4 3 13,p4 4 14] (p5 [p3 16 [.Bs 1] (.zE (.str 3)),p3 17 [.cv (.func 25 [] []),.m_ 16] (.call 3),p4 15 17,qQ 18 15 0,p3 19 [.Bs 15] (.ext 1),p4 5 18,p4 6 19] (p5 [p4 20 3,p4 21 5,p3 22 [.cv (.func 18 [] []),.m_ 20,.m_ 21] (.call 3),p4 23 22,ch 24 [.jm 4] 23 true .mR,ch 25 [.jm 6] 23 true .mR,ch 26 [.Bs 24,.Bs 25] 23 true (.bin .eql),p3 27 [.Bs 23,.Bs 26,.cv (.bool false)] .pick,p4 28 27,⟨some 29,[.cv (.func 11 [] [])],some (28,true),none,.call 3⟩,p3 30 [.Bs 28,.Bs 29,.cv (.bool false)] .pick,p4 2 30] .ret))))
theorem afc:qt Tryz.prog Uz 5=some (aaA,31,[.tmp 2]):=by kernel_rfl
def P0 (p:(qj×(Int×Int))):Option Bool :=
 (KJ p).bind fun aS =>
 if aS=true then
  (I').bind fun bh =>
  some bh
 else
  (LJ p).bind fun eH =>
  (Oe p).bind fun qP =>
  (Jm eH.1 qP.1).bind fun q3 =>
  if q3=true then
   if (decide (eH.2=qP.2))=true then
    (I').bind fun rP =>
    some rP
   else
    some false
  else
   some false
theorem ai9 {p:(qj×(Int×Int))} {v:Bool} (h:P0 p=some v):qv 5 [(.agg [(.av (p.1.flatMap p_) p.1.length .shared),(hX p.2.1),(hX p.2.2)])] (B v):=by
 refine qN eD afc rfl rfl fun Q bo=>?_;have jG:qK [.tmp 2] Q (fun v=>(B v)) v:=fun T H bD=>bo _ T H bD;unfold P0 at h;unfold aaA;conv=>whnf
 obtain ⟨aS,gJ,h⟩:=p' h;refine ⟨qi.pl,_,Td gJ,?_⟩;conv=>whnf
 cases aS
 ·conv=>whnf
  replace h:=rp rfl h;obtain ⟨eH,qs,h⟩:=p' h;refine ⟨qi.pl,_,ZD qs,?_⟩;conv=>whnf
  obtain ⟨qP,qG,h⟩:=p' h;refine ⟨qi.pl,_,aiB qG,?_⟩;conv=>whnf
  obtain ⟨q3,qW,h⟩:=p' h;refine ⟨qi.pl,_,PO qW,?_⟩;conv=>whnf
  cases q3
  ·(conv=>whnf);replace h:=rp rfl h;exact qd h jG rfl rfl
  ·(conv=>whnf);replace h:=rn rfl h;refine bs h (fun q8 h=>?_) fun q8 h=>?_
   ·rw [q8];(conv=>whnf);obtain ⟨rP,qR,h⟩:=p' h;refine ⟨rfl,_,Ke qR,?_⟩;(conv=>whnf);exact qd h jG rfl rfl
   ·rw [q8];(conv=>whnf);exact qd h jG rfl rfl
 ·conv=>whnf
  replace h:=rn rfl h;obtain ⟨bh,gK,h⟩:=p' h;refine ⟨rfl,_,Ke gK,?_⟩;conv=>whnf
  exact qd h jG rfl rfl
end Go.Proofs.YtkoioidpbbbaiaaGreat.Ab


namespace Go.Proofs.YtkoioidpbbbaiaaGreat.Ab
open Go
set_option maxRecDepth 20000
set_option maxHeartbeats 1000000
theorem Wf {a:List Int} (cq:a.length≤1000):∀ (m i:Nat),i≤a.length→a.length-i<m→LH a a (fun _=>some true) m (i:Int)=some true
 | 0,_,_,h=>absurd h (by omega)
 | m+1,i,hi,hm=>by
   rw [LH];by_cases aR:i<a.length
   ·rw [if_pos (decide_eq_true (by omega)),qw (by omega),qw (by omega),if_neg (by simp),Hq i (by omega)];exact Wf cq m (i+1) (by omega) (by omega)
   ·rw [if_neg (by simp;omega)]
theorem PQ {a:List Int} (cq:a.length≤1000):Jm a a=some true:=by
 unfold Jm;rw [if_neg (by simp)];exact Wf cq qh 0 (by omega) (r5 (by omega))
theorem ab2 {p:qm} (h:rj p):(Je p).length≤1000:=by have:=(Q1 p).1;have:=h.len;omega
theorem abY {p:qm} (h:rj p):(Jd p).length≤1000:=by
 have ab:=List.length_filter_le (fun s:Int=>HS p s.toNat) (qo p.1.length);rw [LA] at ab;have:=h.len;unfold Jd;omega
theorem aiL (p:qm):Gy p=some true:=by
 unfold Gy KJ;rw [sc];by_cases dk:(10:Int)<(p.1.length:Int)
 ·rw [if_pos (decide_eq_true dk),works];rfl
 ·rw [if_neg (by simpa using dk)];have aB:p.1.length≤1000:=by omega
  rw [Zv aB,sc,ain aB,sc,Te aB,sc,Zx aB,sc,Zz aB,sc,aiq aB,sc];have ah:Jm (if qX p=0 then (Je p,0) else ([],qX p)).1 (if qX p=0 then (Je p,0) else ([],qX p)).1=some true:=by
   by_cases h:qX p=0
   ·rw [if_pos h];exact PQ (ab2 (Jf.1 h))
   ·rw [if_neg h];exact PQ (by simp)
  rw [if_pos (decide_eq_true rfl),if_pos (decide_eq_true rfl),ah,sc,if_pos rfl,if_pos (decide_eq_true rfl),if_pos (decide_eq_true rfl),if_pos (decide_eq_true rfl),works];rfl
theorem ai2 (p:qm) (o:List Int) (l:List qB):PW p o l=some true:=by
 unfold PW KJ;rw [sc];by_cases dk:(10:Int)<(p.1.length:Int)
 ·rw [if_pos (decide_eq_true dk),works];rfl
 rw [if_neg (by simpa using dk)];by_cases fl:(10:Int)<(o.length:Int)
 ·rw [if_pos (decide_eq_true fl),works];rfl
 rw [if_neg (by simpa using fl)];by_cases VL:(10:Int)<(l.length:Int)
 ·rw [if_pos (decide_eq_true VL),works];rfl
 rw [if_neg (by simpa using VL)];have aB:p.1.length≤1000:=by omega
 have aq:o.length≤12:=by omega
 obtain ⟨l',ab,ae⟩:=Ti aB aq;rw [PR aB aq (by omega),sc,Tg aB aq (by omega),sc];unfold LI;rw [ab,sc,sc,aiv aB aq,sc,sc];have db:=Mb p o 0;have bl:=Mb p o 1;by_cases r6:rU p o=0
 ·obtain ⟨aF,ba,bO⟩:=ae r6;simp only [if_pos r6];rw [if_neg (by simp),if_neg (by simp),if_neg (by rw [aF];simp),if_neg (by simp),if_neg (by simp),if_neg (by simp;omega),if_neg (by simp)];rw [Tg aB aq (by omega),sc,if_pos r6,if_pos ba,if_neg (show ¬ 0<q_ (r3 l' p.1,p.2) o by omega)];rw [if_pos (by simp),if_pos (by rw [aF];simp),works];rfl
 ·simp only [if_neg r6];rw [if_neg (by simp),if_neg (by simp),if_neg (by simp),if_neg (by simp),if_neg (by simp),if_neg (by simp),if_pos (by simpa using r6),if_pos (by simp),works];rfl
theorem ai_ (p:qm):P0 p=some true:=by
 unfold P0 KJ;rw [sc];by_cases dk:(10:Int)<(p.1.length:Int)
 ·rw [if_pos (decide_eq_true dk),works];rfl
 ·rw [if_neg (by simpa using dk)];have aB:p.1.length≤1000:=by omega
  rw [ZC aB,sc,aix aB,sc];have ah:Jm (if qX p=0 then (Jd p,0) else ([],qX p)).1 (if qX p=0 then (Jd p,0) else ([],qX p)).1=some true:=by
   by_cases h:qX p=0
   ·rw [if_pos h];exact PQ (abY (Jf.1 h))
   ·rw [if_neg h];exact PQ (by simp)
  rw [ah,sc,if_pos rfl,if_pos (decide_eq_true rfl),works];rfl
abbrev R9 (p:qm):I:=.agg [.av (p.1.flatMap p_) p.1.length .shared,hX p.2.1,hX p.2.2]
theorem acE (p:qm):qv 3 [R9 p] (B true):=aiK (aiL p)
theorem acD (p:qm) (o:List Int) (l:List qB):qv 4 [R9 p,.av (o.map hX) o.length .shared,.av (l.flatMap qx) l.length .shared] (B true):=ai1 (ai2 p o l)
theorem acC (p:qm):qv 5 [R9 p] (B true):=ai9 (ai_ p)
end Go.Proofs.YtkoioidpbbbaiaaGreat.Ab
