
import Derived.Test.YtkoioidpbbbaiaaGreatJc5
import Derived.Test.YtkoioidpbbbaiaaGreatJc8
import Derived.Test.YtkoioidpbbbaiaaGreatJc7
import Derived.KernelRfl
set_option linter.unusedSimpArgs false
set_option linter.unusedVariables false
set_option linter.unusedSectionVars false

open Int renaming le_refl→sQ,max_le→vJ,mul_le_mul_of_nonneg_left→uE,tmod_lt_of_pos→uG,tmod_nonneg→uF
open List renaming getElem?_append→sc,map_append→sJ
open Nat renaming lt_succ_self→sv
open Option renaming bind_some→sb
namespace Go.Proofs.YtkoioidpbbbaiaaGreat.Ab
open Go
set_option maxRecDepth 200000
set_option maxHeartbeats 4000000
noncomputable def Il:gE :=
 .ov false [p0 78 [.nc 13] (.yM 0),p0 79 [.Bs 78] .take,p3 80 11,p0 81 [.nc 15] (.yM 0),qi 82 81,qn 83 80 82 .mul,p3 84 11,qz 85 15 1,qi 86 85,qn 87 84 86 .mul,p0 88 [.Bs 83,.Bs 87] (.build [.int .i64 0,.int .i64 0] [(0,1),(1,1)]),p0 89 [.Bs 88] (.yB 1 2 [.int .i64 0,.int .i64 0] [0]),p0 90 [.jq 79,.jq 89] (.app 2 16),p0 91 [.nc 13] (.yM 0),⟨none,[.jq 91,.jq 90],none,none,.st 1⟩]
noncomputable def Kk:gE :=
 p2 [p0 61 [.nc 12] (.yM 0),p0 62 [.Bs 61] .take,p0 63 [.nc 15] (.yM 0),qi 64 63,p3 65 2,p0 66 [.Bs 65] (.conv .i64),qn 67 64 66 .add,p0 68 [.nc 15] (.yM 1),qi 69 68,p3 70 3,p0 71 [.Bs 70,.cv (.int .u8 5)] (.bin .rem),p0 72 [.Bs 71] (.conv .i64),qn 73 69 72 .add,p0 74 [.Bs 67,.Bs 73] (.build [.int .i64 0,.int .i64 0] [(0,1),(1,1)]),p0 75 [.Bs 74] (.yB 1 2 [.int .i64 0,.int .i64 0] [0]),p0 76 [.jq 62,.jq 75] (.app 2 16),p0 77 [.nc 12] (.yM 0),⟨none,[.jq 77,.jq 76],none,none,.st 1⟩] Il
noncomputable def Kl:gE :=
 .ov false [p1 54 14,q2 55 54 1,p1 14 55]
noncomputable def N5:gE :=
 .loop (some (qc false [1,3,1,1,5,4,199])) (.seq (p2 [p3 49 14,p0 50 [.nc 5] (.yM 0),qi 51 50,q3 52 51,qn 53 49 52 .lss] (.cond (.nc 53) .skip (.exit 0))) (.seq (.block 1 (p2 [p0 56 [.nc 5] (.yM 0),qi 57 56,p3 58 14,rv 59 57 58 2,p0 60 [.Bs 59] (.zE (.str 2)),p0 15 [] (.alloc [.int .i64 0,.int .i64 0]),⟨none,[.nc 15,.jq 60],none,none,.st 2⟩] Kk)) Kl))
noncomputable def KF:gE :=
 .seq (p2 [p0 166 [.nc 13] (.zE (.str 3)),p0 167 [.cv (.func 26 [] []),.nc 166] (.call 3),p0 168 [.Bs 167] (.un .not)] (.cond (.nc 168) (p2 [p0 169 [.cv (.func 11 [] [])] (.call 3),p1 10 169] .ret) .skip)) (p2 [p0 171 [.nc 13] (.zE (.str 3)),p0 172 [.cv (.func 27 [] []),.nc 171] (.call 3),p1 170 172,qI 173 170 0,p0 174 [.Bs 170] (.ext 1),p1 27 173,p1 18 174] (p2 [p0 176 [.Bs 13] (.zE (.str 3)),p1 177 16,qz 178 5 1,qz 179 178 1,qi 180 179,p0 181 [.cv (.func 30 [] []),.nc 176,.nc 177,.nc 180] (.call 3),p1 175 181,qI 182 175 0,qI 183 175 1,p0 184 [.Bs 175] (.ext 2),p1 28 182,p1 29 183,p1 21 184] (p2 [p1 185 18,p1 186 185,cl 187 [.jq 21] 186 true .mU,cl 188 [.Bs 187,.cv (.int .i64 0)] 186 true (.bin .eql),p0 189 [.Bs 186,.Bs 188,.cv (.bool false)] .pick,p1 190 189,cl 191 [.jq 27] 190 true .mU,cl 192 [.nc 11] 190 true .mU,cl 193 [.jq 17] 190 true .mU,cl 194 [.Bs 192,.Bs 193] 190 true (.bin .mul),cl 195 [.Bs 191,.Bs 194] 190 true (.bin .eql),p0 196 [.Bs 190,.Bs 195,.cv (.bool false)] .pick,p1 197 196,cl 198 [.jq 28] 197 true .mU,cl 199 [.nc 11] 197 true .mU,cl 200 [.jq 19] 197 true .mU,cl 201 [.Bs 199,.Bs 200] 197 true (.bin .mul),cl 202 [.Bs 198,.Bs 201] 197 true (.bin .eql),p0 203 [.Bs 197,.Bs 202,.cv (.bool false)] .pick,p1 204 203,cl 205 [.jq 29] 204 true .mU,cl 206 [.jq 11] 204 true .mU,cl 207 [.jq 20] 204 true .mU,cl 208 [.Bs 206,.Bs 207] 204 true (.bin .mul),cl 209 [.Bs 205,.Bs 208] 204 true (.bin .eql),p0 210 [.Bs 204,.Bs 209,.cv (.bool false)] .pick,p1 211 210,⟨some 212,[.cv (.func 11 [] [])],some (211,true),none,.call 3⟩,p0 213 [.Bs 211,.Bs 212,.cv (.bool false)] .pick,p1 10 213] .ret)))
noncomputable def aaA:gE :=
 p2 [p0 5 [.jq 0] .yy,p0 10 [.cv (.bool false)] .mU] (.seq (p2 [p0 30 [.nc 5] (.zE (.str 3)),p0 31 [.cv (.func 26 [] []),.nc 30] (.call 3),p0 32 [.Bs 31] (.un .not),p1 33 32,cl 34 [.nc 1] 33 false .mU,cl 35 [.jq 34] 33 false .zJ,cl 36 [.Bs 35,.cv (.int .i64 20)] 33 false (.bin .gtr),p0 37 [.Bs 33,.cv (.bool true),.Bs 36] .pick] (.cond (.nc 37) (p2 [p0 38 [.cv (.func 11 [] [])] (.call 3),p1 10 38] .ret) .skip)) (p2 [p1 39 4,p0 40 [.Bs 39,.cv (.int .u8 4)] (.bin .rem),p0 41 [.Bs 40] (.conv .i64),p0 42 [.cv (.int .i64 1),.Bs 41] (.bin .add),p1 11 42] (.seq (.two [p0 43 [.nc 5] (.yM 1),p0 44 [.Bs 43] (.zF (.str 2)),p0 45 [.Bs 44] (.build [.av [] 0 .full,.int .i64 0,.int .i64 0] [(1,2)]),p0 46 [.nc 5] (.yM 1),p0 47 [.Bs 46] (.zF (.str 2)),p0 48 [.Bs 47] (.build [.av [] 0 .full,.int .i64 0,.int .i64 0] [(1,2)]),p0 12 [] (.alloc [.av [] 0 .full,.int .i64 0,.int .i64 0]),p0 13 [] (.alloc [.av [] 0 .full,.int .i64 0,.int .i64 0]),⟨none,[.nc 12,.jq 45],none,none,.st 3⟩,⟨none,[.nc 13,.jq 48],none,none,.st 3⟩] [p0 43 [.nc 5] (.yM 1),p0 44 [.Bs 43] (.zF (.str 2)),p0 45 [.Bs 44] (.build [.av [] 0 .full,.int .i64 0,.int .i64 0] [(1,2)]),p0 46 [.nc 5] (.yM 1),p0 47 [.Bs 46] (.zF (.str 2)),p0 48 [.Bs 47] (.build [.av [] 0 .full,.int .i64 0,.int .i64 0] [(1,2)]),p0 13 [] (.alloc [.av [] 0 .full,.int .i64 0,.int .i64 0]),p0 12 [] (.alloc [.av [] 0 .full,.int .i64 0,.int .i64 0]),⟨none,[.nc 12,.jq 45],none,none,.st 3⟩,⟨none,[.nc 13,.jq 48],none,none,.st 3⟩]) (.seq (p2 [qh 14 0] (.block 0 N5)) (p2 [p0 92 [.nc 5] (.yM 0),qi 93 92,q3 94 93,p1 95 1,p0 96 [.cv (.func 28 [] []),.nc 94,.nc 95] (.call 3),p1 16 96] (p2 [p0 98 [.nc 5] (.zE (.str 3)),p0 99 [.cv (.func 27 [] []),.nc 98] (.call 3),p1 97 99,qI 100 97 0,p0 101 [.Bs 97] (.ext 1),p1 17 100,p1 18 101] (p2 [p0 103 [.nc 5] (.zE (.str 3)),p3 104 16,p0 105 [.nc 5] (.yM 1),qz 106 105 1,qi 107 106,p0 108 [.cv (.func 30 [] []),.nc 103,.nc 104,.nc 107] (.call 3),p1 102 108,qI 109 102 0,qI 110 102 1,p0 111 [.Bs 102] (.ext 2),p1 19 109,p1 20 110,p1 21 111] (.seq (p2 [p1 112 18,p0 113 [.Bs 112] (.un .not),p1 114 113,cl 115 [.jq 21] 114 false .mU,cl 116 [.Bs 115,.cv (.int .i64 0)] 114 false (.bin .neq),p0 117 [.Bs 114,.cv (.bool true),.Bs 116] .pick,p1 118 117,cl 119 [.nc 19] 118 false .mU,⟨some 120,[.cv (.func 31 [] []),.nc 119],some (118,false),none,.call 3⟩,cl 121 [.Bs 120,.cv (.int .i64 100000)] 118 false (.bin .gtr),p0 122 [.Bs 118,.cv (.bool true),.Bs 121] .pick,p1 123 122,cl 124 [.nc 20] 123 false .mU,⟨some 125,[.cv (.func 31 [] []),.nc 124],some (123,false),none,.call 3⟩,cl 126 [.Bs 125,.cv (.int .i64 100000)] 123 false (.bin .gtr),p0 127 [.Bs 123,.cv (.bool true),.Bs 126] .pick] (.cond (.nc 127) (p2 [p0 10 [.cv (.bool false)] .mU] .ret) .skip)) (.seq (p2 [p0 128 [.nc 12] (.zE (.str 3)),p0 129 [.cv (.func 26 [] []),.nc 128] (.call 3)] (.cond (.nc 129) (p2 [p0 131 [.nc 12] (.zE (.str 3)),p0 132 [.cv (.func 27 [] []),.nc 131] (.call 3),p1 130 132,qI 133 130 0,p0 134 [.Bs 130] (.ext 1),p1 22 133,p1 23 134] (p2 [p0 136 [.Bs 12] (.zE (.str 3)),p3 137 16,p0 138 [.nc 5] (.yM 1),qz 139 138 1,qi 140 139,p0 141 [.cv (.func 30 [] []),.nc 136,.nc 137,.nc 140] (.call 3),p1 135 141,qI 142 135 0,qI 143 135 1,p0 144 [.Bs 135] (.ext 2),p1 24 142,p1 25 143,p1 26 144] (p2 [p1 145 23,p0 146 [.Bs 145] (.un .not),p1 147 146,cl 148 [.jq 26] 147 false .mU,cl 149 [.Bs 148,.cv (.int .i64 0)] 147 false (.bin .neq),p0 150 [.Bs 147,.cv (.bool true),.Bs 149] .pick,p1 151 150,cl 152 [.jq 22] 151 false .mU,cl 153 [.nc 17] 151 false .mU,cl 154 [.Bs 152,.Bs 153] 151 false (.bin .neq),p0 155 [.Bs 151,.cv (.bool true),.Bs 154] .pick,p1 156 155,cl 157 [.jq 24] 156 false .mU,cl 158 [.nc 19] 156 false .mU,cl 159 [.Bs 157,.Bs 158] 156 false (.bin .neq),p0 160 [.Bs 156,.cv (.bool true),.Bs 159] .pick,p1 161 160,cl 162 [.jq 25] 161 false .mU,cl 163 [.nc 20] 161 false .mU,cl 164 [.Bs 162,.Bs 163] 161 false (.bin .neq),p0 165 [.Bs 161,.cv (.bool true),.Bs 164] .pick] (.cond (.nc 165) (p2 [p0 10 [.cv (.bool false)] .mU] .ret) .skip)))) .skip)) KF)))))))))
theorem afk:qt Tryz.prog Lg 8=some (aaA,214,[.tmp 10]):=by kernel_rfl
def KD (p:(qd×(Int×Int))) (pull more times:Int) (p':qd→qd→Option Bool):Nat→Int→qd→qd→Option Bool
 | 0,_,_,_=>none
 | m+1,s1,s2,dk =>
   if (decide (s1<(p.1.length:Int)))=true then
    qk (0≤s1∧s1<(p.1.length:Int)) <|
    qk ((5:Int)≠0) <|
    qk ((s2.length+1)*16≤140737488355328) <|
    qk ((dk.length+1)*16≤140737488355328) <|
    KD p pull more times p' m (w (s1+(1:Int))) (s2++[((w ((ix p.1 s1).1+(w pull))),(w ((ix p.1 s1).2+(w (more.tmod (5:Int))))))]) (dk++[((w ((w ((1:Int)+(w (times.tmod (4:Int)))))*(ix p.1 s1).1)),(w ((w ((1:Int)+(w (times.tmod (4:Int)))))*(ix p.1 s1).2)))])
   else
    p' s2 dk
def JK (p:(qd×(Int×Int))) (times:Int) (oT:qd) (eK:p_) (qW:(Int×Bool)) (q8:(Int×Int×Int))  : Option Bool :=
 (K8 (oT,p.2)).bind fun I3 =>
 if I3=true then
  (Ky (oT,p.2)).bind fun Js =>
  (JI (oT,p.2) eK p.2.2).bind fun Kw =>
  if Js.2=true then
   if (decide (Kw.2.2=(0:Int)))=true then
    if (decide (Js.1=(w ((w ((1:Int)+(w (times.tmod (4:Int)))))*qW.1))))=true then
     if (decide (Kw.1=(w ((w ((1:Int)+(w (times.tmod (4:Int)))))*q8.1))))=true then
      if (decide (Kw.2.1=(w ((w ((1:Int)+(w (times.tmod (4:Int)))))*q8.2.1))))=true then
       (H0).bind fun Lq =>
       some Lq
      else
       some false
     else
      some false
    else
     some false
   else
    some false
  else
   some false
 else
  (H0).bind fun Mv =>
  some Mv
def QH (p:(qd×(Int×Int))) (qs:p_) (pull more times:Int):Option Bool :=
 (K8 p).bind fun aS =>
 if aS=true then
  if (decide ((20:Int)<(qs.length:Int)))=true then
   (H0).bind fun bj =>
   some bj
  else
   qk ((4:Int)≠0) <|
   KD p pull more times (fun yn oT =>
     (NV (p.1.length:Int) qs).bind fun eK =>
     (Ky p).bind fun qW =>
     (JI p eK p.2.2).bind fun q8 =>
     if qW.2=true then
      if (decide (q8.2.2≠(0:Int)))=true then
       some false
      else
       (NW q8.1).bind fun r5 =>
       if (decide ((100000:Int)<r5))=true then
        some false
       else
        (NW q8.2.1).bind fun H7 =>
        if (decide ((100000:Int)<H7))=true then
         some false
        else
         (K8 (yn,p.2)).bind fun Hp =>
         if Hp=true then
          (Ky (yn,p.2)).bind fun HZ =>
          (JI (yn,p.2) eK p.2.2).bind fun Iw =>
          if HZ.2=true then
           if (decide (Iw.2.2≠(0:Int)))=true then
            some false
           else
            if (decide (HZ.1≠qW.1))=true then
             some false
            else
             if (decide (Iw.1≠q8.1))=true then
              some false
             else
              if (decide (Iw.2.1≠q8.2.1))=true then
               some false
              else
               JK p times oT eK qW q8
          else
           some false
         else
          JK p times oT eK qW q8
     else
      some false) qj (0:Int) ([]:List (Int×Int)) ([]:List (Int×Int))
 else
  (H0).bind fun Xq =>
  some Xq
theorem ajl {p:(qd×(Int×Int))} {pull:Int} {more:Int} {times:Int} {p':qd→qd→Option Bool} {s1:Int} {s2:qd} {dk:qd} {qs:p_} {v:Bool} {Q:r1}   {Ic:hE} {rE:hE} (rn:∀ (yn oT:qd) (rk:List ar) (qb:List I),p' yn oT=some v→ra 214 [(1,(.av (qs.map q4) qs.length .shared)),(5,(.bS [(qv p.1 .shared),(h0 p.2.1),(h0 p.2.2)])),(11,(h0 (w ((1:Int)+(w (times.tmod (4:Int))))))),(12,(.ptr 0 0)),(13,(.ptr 1 0))] qb→Q (.exit 0) qb (ar.cells [(qv yn .full),(h0 p.2.1),(h0 p.2.2)]::ar.cells [(qv oT .full),(h0 p.2.1),(h0 p.2.2)]::rk)) (Mm:∀ (yn oT:qd) (rk:List ar) (qb:List I),p' yn oT=some v→ra 214 [(1,(.av (qs.map q4) qs.length .shared)),(5,(.bS [(qv p.1 .shared),(h0 p.2.1),(h0 p.2.2)])),(11,(h0 (w ((1:Int)+(w (times.tmod (4:Int))))))),(12,(.ptr 0 0)),(13,(.ptr 1 0))] qb→Q (.exit 0) qb (ar.cells [(qv yn .full),(h0 p.2.1),(h0 p.2.2)]::ar.cells [(qv oT (.own 2)),(h0 p.2.1),(h0 p.2.2)]::rk)) (Sd:∀ (yn oT:qd) (rk:List ar) (qb:List I),p' yn oT=some v→ra 214 [(1,(.av (qs.map q4) qs.length .shared)),(5,(.bS [(qv p.1 .shared),(h0 p.2.1),(h0 p.2.2)])),(11,(h0 (w ((1:Int)+(w (times.tmod (4:Int))))))),(12,(.ptr 0 0)),(13,(.ptr 1 0))] qb→Q (.exit 0) qb (ar.cells [(qv yn (.own 2)),(h0 p.2.1),(h0 p.2.2)]::ar.cells [(qv oT .full),(h0 p.2.1),(h0 p.2.2)]::rk)) (Se:∀ (yn oT:qd) (rk:List ar) (qb:List I),p' yn oT=some v→ra 214 [(1,(.av (qs.map q4) qs.length .shared)),(5,(.bS [(qv p.1 .shared),(h0 p.2.1),(h0 p.2.2)])),(11,(h0 (w ((1:Int)+(w (times.tmod (4:Int))))))),(12,(.ptr 0 0)),(13,(.ptr 1 0))] qb→Q (.exit 0) qb (ar.cells [(qv yn (.own 2)),(h0 p.2.1),(h0 p.2.2)]::ar.cells [(qv oT (.own 2)),(h0 p.2.1),(h0 p.2.2)]::rk)) (Mk:(Ic=hE.full∨Ic=(.own 2))) (Ig:(rE=hE.full∨rE=(.own 2))) {T:List I} (b0:eZ (qc false [1,3,1,1,5,4,199]) T=qe 214 [(1,(.av (qs.map q4) qs.length .shared)),(2,(q4 pull)),(3,(q4 more)),(5,(.bS [(qv p.1 .shared),(h0 p.2.1),(h0 p.2.2)])),(11,(h0 (w ((1:Int)+(w (times.tmod (4:Int))))))),(12,(.ptr 0 0)),(13,(.ptr 1 0)),(14,(h0 s1))]) (h:KD p pull more times p' qj s1 s2 dk=some v) :
  dQ Tryz.prog Lg 8 0 none N5 T [ar.cells [(.av (s2.flatMap p7) s2.length Ic),(h0 p.2.1),(h0 p.2.2)],ar.cells [(.av (dk.flatMap p7) dk.length rE),(h0 p.2.1),(h0 p.2.2)]] Q:=by
 unfold N5;obtain ⟨ab2,JR⟩:∃ c,Kk=c:=⟨_,rfl⟩;obtain ⟨ab3,JS⟩:∃ c,Kl=c:=⟨_,rfl⟩;rw [JR,JS];refine wp_loop b0 ?_;refine .intro (fun m T H=>∃ (s1:Int) (s2:qd) (dk:qd) (Oa:List ar) (Ic:hE) (rE:hE),(Ic=hE.full∨Ic=(.own 2))∧(rE=hE.full∨rE=(.own 2))∧T=qe 214 [(1,(.av (qs.map q4) qs.length .shared)),(2,(q4 pull)),(3,(q4 more)),(5,(.bS [(qv p.1 .shared),(h0 p.2.1),(h0 p.2.2)])),(11,(h0 (w ((1:Int)+(w (times.tmod (4:Int))))))),(12,(.ptr 0 0)),(13,(.ptr 1 0)),(14,(h0 s1))]∧H=(ar.cells [(.av (s2.flatMap p7) s2.length Ic),(h0 p.2.1),(h0 p.2.2)]::ar.cells [(.av (dk.flatMap p7) dk.length rE),(h0 p.2.1),(h0 p.2.2)]::Oa)∧KD p pull more times p' m s1 s2 dk=some v) qj ⟨s1,s2,dk,[],_,_,Mk,Ig,rfl,rfl,h⟩ ?_;clear h b0;rintro m T H ⟨s1,s2,dk,Oa,Ic,rE,Mk,Ig,rfl,rfl,h⟩;cases m
 ·exact r0 h
 rename_i m;rw [KD.eq_2] at h;rcases Mk with rfl | rfl
 ·rcases Ig with rfl | rfl
  ·(conv=>whnf);refine bs h (fun qA h=>?_) fun qA h=>?_
   ·rw [qA];(conv=>whnf);refine qD h id fun q5 h=>?_;rw [r6 p7 2 q' p.1 s1 q5];(conv=>whnf);refine Ew (x:=ar.cells [(h0 (0:Int)),(h0 (0:Int))]) (by first | exact qp.h | rfl | (simp [sc,I.settle];done)) ?_
    (conv=>whnf);rw [rZ];subst JR;unfold Kk;obtain ⟨Hy,gc⟩:∃ c,Il=c:=⟨_,rfl⟩;rw [gc];(conv=>whnf);refine Ew (x:=ar.cells [(h0 (ix p.1 s1).1),(h0 (ix p.1 s1).2)]) (by first | exact qp.h | rfl | (simp [sc,I.settle];done)) ?_
    (conv=>whnf);refine Ew (x:=ar.cells [(h0 (ix p.1 s1).1),(h0 (ix p.1 s1).2)]) (by first | exact qp.h | rfl | (simp [sc,I.settle];done)) ?_
    (conv=>whnf);refine qD h id fun qP h=>?_;(conv=>whnf);obtain ⟨qT,h⟩:=q_ h;refine ⟨by first | rfl | (simp;done) | exact rf p7 _ q' _,by have:=qT;omega,by decide,qT,by first | rfl | (simp;done) | exact rf p7 _ q' _,?_⟩
    erw [HI p7 s2 ((w ((ix p.1 s1).1+(w pull))),(w ((ix p.1 s1).2+(w (more.tmod (5:Int))))))];(conv=>whnf);subst gc;unfold Il;(conv=>whnf);refine Ew (x:=ar.cells [(h0 (ix p.1 s1).1),(h0 (ix p.1 s1).2)]) (by first | exact qp.h | rfl | (simp [sc,I.settle];done)) ?_
    (conv=>whnf);refine Ew (x:=ar.cells [(h0 (ix p.1 s1).1),(h0 (ix p.1 s1).2)]) (by first | exact qp.h | rfl | (simp [sc,I.settle];done)) ?_
    (conv=>whnf);obtain ⟨qN,h⟩:=q_ h;refine ⟨by first | rfl | (simp;done) | exact rf p7 _ q' _,by have:=qN;omega,by decide,qN,by first | rfl | (simp;done) | exact rf p7 _ q' _,?_⟩
    erw [HI p7 dk ((w ((w ((1:Int)+(w (times.tmod (4:Int)))))*(ix p.1 s1).1)),(w ((w ((1:Int)+(w (times.tmod (4:Int)))))*(ix p.1 s1).2)))];(conv=>whnf);subst JS;unfold Kl;(conv=>whnf);exact ⟨m,sv m,(w (s1+(1:Int))),(s2++[((w ((ix p.1 s1).1+(w pull))),(w ((ix p.1 s1).2+(w (more.tmod (5:Int))))))]),(dk++[((w ((w ((1:Int)+(w (times.tmod (4:Int)))))*(ix p.1 s1).1)),(w ((w ((1:Int)+(w (times.tmod (4:Int)))))*(ix p.1 s1).2)))]),_,_,_,(.inr rfl),(.inr rfl),rfl,rfl,h⟩
   ·rw [qA];(conv=>whnf);exact rn _ _ _ _ h ⟨rfl,rfl⟩
  ·(conv=>whnf);refine bs h (fun qA h=>?_) fun qA h=>?_
   ·rw [qA];(conv=>whnf);refine qD h id fun q5 h=>?_;rw [r6 p7 2 q' p.1 s1 q5];(conv=>whnf);refine Ew (x:=ar.cells [(h0 (0:Int)),(h0 (0:Int))]) (by first | exact qp.h | rfl | (simp [sc,I.settle];done)) ?_
    (conv=>whnf);rw [rZ];subst JR;unfold Kk;obtain ⟨Hy,gc⟩:∃ c,Il=c:=⟨_,rfl⟩;rw [gc];(conv=>whnf);refine Ew (x:=ar.cells [(h0 (ix p.1 s1).1),(h0 (ix p.1 s1).2)]) (by first | exact qp.h | rfl | (simp [sc,I.settle];done)) ?_
    (conv=>whnf);refine Ew (x:=ar.cells [(h0 (ix p.1 s1).1),(h0 (ix p.1 s1).2)]) (by first | exact qp.h | rfl | (simp [sc,I.settle];done)) ?_
    (conv=>whnf);refine qD h id fun qP h=>?_;(conv=>whnf);obtain ⟨qT,h⟩:=q_ h;refine ⟨by first | rfl | (simp;done) | exact rf p7 _ q' _,by have:=qT;omega,by decide,qT,by first | rfl | (simp;done) | exact rf p7 _ q' _,?_⟩
    erw [HI p7 s2 ((w ((ix p.1 s1).1+(w pull))),(w ((ix p.1 s1).2+(w (more.tmod (5:Int))))))];(conv=>whnf);subst gc;unfold Il;(conv=>whnf);refine Ew (x:=ar.cells [(h0 (ix p.1 s1).1),(h0 (ix p.1 s1).2)]) (by first | exact qp.h | rfl | (simp [sc,I.settle];done)) ?_
    (conv=>whnf);refine Ew (x:=ar.cells [(h0 (ix p.1 s1).1),(h0 (ix p.1 s1).2)]) (by first | exact qp.h | rfl | (simp [sc,I.settle];done)) ?_
    (conv=>whnf);obtain ⟨qN,h⟩:=q_ h;refine ⟨by first | rfl | (simp;done) | exact rf p7 _ q' _,by have:=qN;omega,rfl,qN,?_⟩
    erw [HI p7 dk ((w ((w ((1:Int)+(w (times.tmod (4:Int)))))*(ix p.1 s1).1)),(w ((w ((1:Int)+(w (times.tmod (4:Int)))))*(ix p.1 s1).2)))];(conv=>whnf);subst JS;unfold Kl;(conv=>whnf);exact ⟨m,sv m,(w (s1+(1:Int))),(s2++[((w ((ix p.1 s1).1+(w pull))),(w ((ix p.1 s1).2+(w (more.tmod (5:Int))))))]),(dk++[((w ((w ((1:Int)+(w (times.tmod (4:Int)))))*(ix p.1 s1).1)),(w ((w ((1:Int)+(w (times.tmod (4:Int)))))*(ix p.1 s1).2)))]),_,_,_,(.inr rfl),(.inr rfl),rfl,rfl,h⟩
   ·rw [qA];(conv=>whnf);exact Mm _ _ _ _ h ⟨rfl,rfl⟩
 ·rcases Ig with rfl | rfl
  ·(conv=>whnf);refine bs h (fun qA h=>?_) fun qA h=>?_
   ·rw [qA];(conv=>whnf);refine qD h id fun q5 h=>?_;rw [r6 p7 2 q' p.1 s1 q5];(conv=>whnf);refine Ew (x:=ar.cells [(h0 (0:Int)),(h0 (0:Int))]) (by first | exact qp.h | rfl | (simp [sc,I.settle];done)) ?_
    (conv=>whnf);rw [rZ];subst JR;unfold Kk;obtain ⟨Hy,gc⟩:∃ c,Il=c:=⟨_,rfl⟩;rw [gc];(conv=>whnf);refine Ew (x:=ar.cells [(h0 (ix p.1 s1).1),(h0 (ix p.1 s1).2)]) (by first | exact qp.h | rfl | (simp [sc,I.settle];done)) ?_
    (conv=>whnf);refine Ew (x:=ar.cells [(h0 (ix p.1 s1).1),(h0 (ix p.1 s1).2)]) (by first | exact qp.h | rfl | (simp [sc,I.settle];done)) ?_
    (conv=>whnf);refine qD h id fun qP h=>?_;(conv=>whnf);obtain ⟨qT,h⟩:=q_ h;refine ⟨by first | rfl | (simp;done) | exact rf p7 _ q' _,by have:=qT;omega,rfl,qT,?_⟩
    erw [HI p7 s2 ((w ((ix p.1 s1).1+(w pull))),(w ((ix p.1 s1).2+(w (more.tmod (5:Int))))))];(conv=>whnf);subst gc;unfold Il;(conv=>whnf);refine Ew (x:=ar.cells [(h0 (ix p.1 s1).1),(h0 (ix p.1 s1).2)]) (by first | exact qp.h | rfl | (simp [sc,I.settle];done)) ?_
    (conv=>whnf);refine Ew (x:=ar.cells [(h0 (ix p.1 s1).1),(h0 (ix p.1 s1).2)]) (by first | exact qp.h | rfl | (simp [sc,I.settle];done)) ?_
    (conv=>whnf);obtain ⟨qN,h⟩:=q_ h;refine ⟨by first | rfl | (simp;done) | exact rf p7 _ q' _,by have:=qN;omega,by decide,qN,by first | rfl | (simp;done) | exact rf p7 _ q' _,?_⟩
    erw [HI p7 dk ((w ((w ((1:Int)+(w (times.tmod (4:Int)))))*(ix p.1 s1).1)),(w ((w ((1:Int)+(w (times.tmod (4:Int)))))*(ix p.1 s1).2)))];(conv=>whnf);subst JS;unfold Kl;(conv=>whnf);exact ⟨m,sv m,(w (s1+(1:Int))),(s2++[((w ((ix p.1 s1).1+(w pull))),(w ((ix p.1 s1).2+(w (more.tmod (5:Int))))))]),(dk++[((w ((w ((1:Int)+(w (times.tmod (4:Int)))))*(ix p.1 s1).1)),(w ((w ((1:Int)+(w (times.tmod (4:Int)))))*(ix p.1 s1).2)))]),_,_,_,(.inr rfl),(.inr rfl),rfl,rfl,h⟩
   ·rw [qA];(conv=>whnf);exact Sd _ _ _ _ h ⟨rfl,rfl⟩
  ·(conv=>whnf);refine bs h (fun qA h=>?_) fun qA h=>?_
   ·rw [qA];(conv=>whnf);refine qD h id fun q5 h=>?_;rw [r6 p7 2 q' p.1 s1 q5];(conv=>whnf);refine Ew (x:=ar.cells [(h0 (0:Int)),(h0 (0:Int))]) (by first | exact qp.h | rfl | (simp [sc,I.settle];done)) ?_
    (conv=>whnf);rw [rZ];subst JR;unfold Kk;obtain ⟨Hy,gc⟩:∃ c,Il=c:=⟨_,rfl⟩;rw [gc];(conv=>whnf);refine Ew (x:=ar.cells [(h0 (ix p.1 s1).1),(h0 (ix p.1 s1).2)]) (by first | exact qp.h | rfl | (simp [sc,I.settle];done)) ?_
    (conv=>whnf);refine Ew (x:=ar.cells [(h0 (ix p.1 s1).1),(h0 (ix p.1 s1).2)]) (by first | exact qp.h | rfl | (simp [sc,I.settle];done)) ?_
    (conv=>whnf);refine qD h id fun qP h=>?_;(conv=>whnf);obtain ⟨qT,h⟩:=q_ h;refine ⟨by first | rfl | (simp;done) | exact rf p7 _ q' _,by have:=qT;omega,rfl,qT,?_⟩
    erw [HI p7 s2 ((w ((ix p.1 s1).1+(w pull))),(w ((ix p.1 s1).2+(w (more.tmod (5:Int))))))];(conv=>whnf);subst gc;unfold Il;(conv=>whnf);refine Ew (x:=ar.cells [(h0 (ix p.1 s1).1),(h0 (ix p.1 s1).2)]) (by first | exact qp.h | rfl | (simp [sc,I.settle];done)) ?_
    (conv=>whnf);refine Ew (x:=ar.cells [(h0 (ix p.1 s1).1),(h0 (ix p.1 s1).2)]) (by first | exact qp.h | rfl | (simp [sc,I.settle];done)) ?_
    (conv=>whnf);obtain ⟨qN,h⟩:=q_ h;refine ⟨by first | rfl | (simp;done) | exact rf p7 _ q' _,by have:=qN;omega,rfl,qN,?_⟩
    erw [HI p7 dk ((w ((w ((1:Int)+(w (times.tmod (4:Int)))))*(ix p.1 s1).1)),(w ((w ((1:Int)+(w (times.tmod (4:Int)))))*(ix p.1 s1).2)))];(conv=>whnf);subst JS;unfold Kl;(conv=>whnf);exact ⟨m,sv m,(w (s1+(1:Int))),(s2++[((w ((ix p.1 s1).1+(w pull))),(w ((ix p.1 s1).2+(w (more.tmod (5:Int))))))]),(dk++[((w ((w ((1:Int)+(w (times.tmod (4:Int)))))*(ix p.1 s1).1)),(w ((w ((1:Int)+(w (times.tmod (4:Int)))))*(ix p.1 s1).2)))]),_,_,_,(.inr rfl),(.inr rfl),rfl,rfl,h⟩
   ·rw [qA];(conv=>whnf);exact Se _ _ _ _ h ⟨rfl,rfl⟩
theorem ajm {p:(qd×(Int×Int))} {pull:Int} {more:Int} {times:Int} {p':qd→qd→Option Bool} {s1:Int} {s2:qd} {dk:qd} {qs:p_} {v:Bool} {Q:r1}   {Ic:hE} {rE:hE} (rn:∀ (yn oT:qd) (rk:List ar) (qb:List I),p' yn oT=some v→ra 214 [(1,(.av (qs.map q4) qs.length .shared)),(5,(.bS [(qv p.1 .shared),(h0 p.2.1),(h0 p.2.2)])),(11,(h0 (w ((1:Int)+(w (times.tmod (4:Int))))))),(12,(.ptr 1 0)),(13,(.ptr 0 0))] qb→Q (.exit 0) qb (ar.cells [(qv oT .full),(h0 p.2.1),(h0 p.2.2)]::ar.cells [(qv yn .full),(h0 p.2.1),(h0 p.2.2)]::rk)) (Mm:∀ (yn oT:qd) (rk:List ar) (qb:List I),p' yn oT=some v→ra 214 [(1,(.av (qs.map q4) qs.length .shared)),(5,(.bS [(qv p.1 .shared),(h0 p.2.1),(h0 p.2.2)])),(11,(h0 (w ((1:Int)+(w (times.tmod (4:Int))))))),(12,(.ptr 1 0)),(13,(.ptr 0 0))] qb→Q (.exit 0) qb (ar.cells [(qv oT (.own 2)),(h0 p.2.1),(h0 p.2.2)]::ar.cells [(qv yn .full),(h0 p.2.1),(h0 p.2.2)]::rk)) (Sd:∀ (yn oT:qd) (rk:List ar) (qb:List I),p' yn oT=some v→ra 214 [(1,(.av (qs.map q4) qs.length .shared)),(5,(.bS [(qv p.1 .shared),(h0 p.2.1),(h0 p.2.2)])),(11,(h0 (w ((1:Int)+(w (times.tmod (4:Int))))))),(12,(.ptr 1 0)),(13,(.ptr 0 0))] qb→Q (.exit 0) qb (ar.cells [(qv oT .full),(h0 p.2.1),(h0 p.2.2)]::ar.cells [(qv yn (.own 2)),(h0 p.2.1),(h0 p.2.2)]::rk)) (Se:∀ (yn oT:qd) (rk:List ar) (qb:List I),p' yn oT=some v→ra 214 [(1,(.av (qs.map q4) qs.length .shared)),(5,(.bS [(qv p.1 .shared),(h0 p.2.1),(h0 p.2.2)])),(11,(h0 (w ((1:Int)+(w (times.tmod (4:Int))))))),(12,(.ptr 1 0)),(13,(.ptr 0 0))] qb→Q (.exit 0) qb (ar.cells [(qv oT (.own 2)),(h0 p.2.1),(h0 p.2.2)]::ar.cells [(qv yn (.own 2)),(h0 p.2.1),(h0 p.2.2)]::rk)) (Mk:(Ic=hE.full∨Ic=(.own 2))) (Ig:(rE=hE.full∨rE=(.own 2))) {T:List I} (b0:eZ (qc false [1,3,1,1,5,4,199]) T=qe 214 [(1,(.av (qs.map q4) qs.length .shared)),(2,(q4 pull)),(3,(q4 more)),(5,(.bS [(qv p.1 .shared),(h0 p.2.1),(h0 p.2.2)])),(11,(h0 (w ((1:Int)+(w (times.tmod (4:Int))))))),(12,(.ptr 1 0)),(13,(.ptr 0 0)),(14,(h0 s1))]) (h:KD p pull more times p' qj s1 s2 dk=some v) :
  dQ Tryz.prog Lg 8 0 none N5 T [ar.cells [(.av (dk.flatMap p7) dk.length rE),(h0 p.2.1),(h0 p.2.2)],ar.cells [(.av (s2.flatMap p7) s2.length Ic),(h0 p.2.1),(h0 p.2.2)]] Q:=by
 unfold N5;obtain ⟨ab2,JR⟩:∃ c,Kk=c:=⟨_,rfl⟩;obtain ⟨ab3,JS⟩:∃ c,Kl=c:=⟨_,rfl⟩;rw [JR,JS];refine wp_loop b0 ?_;refine .intro (fun m T H=>∃ (s1:Int) (s2:qd) (dk:qd) (Oa:List ar) (Ic:hE) (rE:hE),(Ic=hE.full∨Ic=(.own 2))∧(rE=hE.full∨rE=(.own 2))∧T=qe 214 [(1,(.av (qs.map q4) qs.length .shared)),(2,(q4 pull)),(3,(q4 more)),(5,(.bS [(qv p.1 .shared),(h0 p.2.1),(h0 p.2.2)])),(11,(h0 (w ((1:Int)+(w (times.tmod (4:Int))))))),(12,(.ptr 1 0)),(13,(.ptr 0 0)),(14,(h0 s1))]∧H=(ar.cells [(.av (dk.flatMap p7) dk.length rE),(h0 p.2.1),(h0 p.2.2)]::ar.cells [(.av (s2.flatMap p7) s2.length Ic),(h0 p.2.1),(h0 p.2.2)]::Oa)∧KD p pull more times p' m s1 s2 dk=some v) qj ⟨s1,s2,dk,[],_,_,Mk,Ig,rfl,rfl,h⟩ ?_;clear h b0;rintro m T H ⟨s1,s2,dk,Oa,Ic,rE,Mk,Ig,rfl,rfl,h⟩;cases m
 ·exact r0 h
 rename_i m;rw [KD.eq_2] at h;rcases Mk with rfl | rfl
 ·rcases Ig with rfl | rfl
  ·(conv=>whnf);refine bs h (fun qA h=>?_) fun qA h=>?_
   ·rw [qA];(conv=>whnf);refine qD h id fun q5 h=>?_;rw [r6 p7 2 q' p.1 s1 q5];(conv=>whnf);refine Ew (x:=ar.cells [(h0 (0:Int)),(h0 (0:Int))]) (by first | exact qp.h | rfl | (simp [sc,I.settle];done)) ?_
    (conv=>whnf);rw [rZ];subst JR;unfold Kk;obtain ⟨Hy,gc⟩:∃ c,Il=c:=⟨_,rfl⟩;rw [gc];(conv=>whnf);refine Ew (x:=ar.cells [(h0 (ix p.1 s1).1),(h0 (ix p.1 s1).2)]) (by first | exact qp.h | rfl | (simp [sc,I.settle];done)) ?_
    (conv=>whnf);refine Ew (x:=ar.cells [(h0 (ix p.1 s1).1),(h0 (ix p.1 s1).2)]) (by first | exact qp.h | rfl | (simp [sc,I.settle];done)) ?_
    (conv=>whnf);refine qD h id fun qP h=>?_;(conv=>whnf);obtain ⟨qT,h⟩:=q_ h;refine ⟨by first | rfl | (simp;done) | exact rf p7 _ q' _,by have:=qT;omega,by decide,qT,by first | rfl | (simp;done) | exact rf p7 _ q' _,?_⟩
    erw [HI p7 s2 ((w ((ix p.1 s1).1+(w pull))),(w ((ix p.1 s1).2+(w (more.tmod (5:Int))))))];(conv=>whnf);subst gc;unfold Il;(conv=>whnf);refine Ew (x:=ar.cells [(h0 (ix p.1 s1).1),(h0 (ix p.1 s1).2)]) (by first | exact qp.h | rfl | (simp [sc,I.settle];done)) ?_
    (conv=>whnf);refine Ew (x:=ar.cells [(h0 (ix p.1 s1).1),(h0 (ix p.1 s1).2)]) (by first | exact qp.h | rfl | (simp [sc,I.settle];done)) ?_
    (conv=>whnf);obtain ⟨qN,h⟩:=q_ h;refine ⟨by first | rfl | (simp;done) | exact rf p7 _ q' _,by have:=qN;omega,by decide,qN,by first | rfl | (simp;done) | exact rf p7 _ q' _,?_⟩
    erw [HI p7 dk ((w ((w ((1:Int)+(w (times.tmod (4:Int)))))*(ix p.1 s1).1)),(w ((w ((1:Int)+(w (times.tmod (4:Int)))))*(ix p.1 s1).2)))];(conv=>whnf);subst JS;unfold Kl;(conv=>whnf);exact ⟨m,sv m,(w (s1+(1:Int))),(s2++[((w ((ix p.1 s1).1+(w pull))),(w ((ix p.1 s1).2+(w (more.tmod (5:Int))))))]),(dk++[((w ((w ((1:Int)+(w (times.tmod (4:Int)))))*(ix p.1 s1).1)),(w ((w ((1:Int)+(w (times.tmod (4:Int)))))*(ix p.1 s1).2)))]),_,_,_,(.inr rfl),(.inr rfl),rfl,rfl,h⟩
   ·rw [qA];(conv=>whnf);exact rn _ _ _ _ h ⟨rfl,rfl⟩
  ·(conv=>whnf);refine bs h (fun qA h=>?_) fun qA h=>?_
   ·rw [qA];(conv=>whnf);refine qD h id fun q5 h=>?_;rw [r6 p7 2 q' p.1 s1 q5];(conv=>whnf);refine Ew (x:=ar.cells [(h0 (0:Int)),(h0 (0:Int))]) (by first | exact qp.h | rfl | (simp [sc,I.settle];done)) ?_
    (conv=>whnf);rw [rZ];subst JR;unfold Kk;obtain ⟨Hy,gc⟩:∃ c,Il=c:=⟨_,rfl⟩;rw [gc];(conv=>whnf);refine Ew (x:=ar.cells [(h0 (ix p.1 s1).1),(h0 (ix p.1 s1).2)]) (by first | exact qp.h | rfl | (simp [sc,I.settle];done)) ?_
    (conv=>whnf);refine Ew (x:=ar.cells [(h0 (ix p.1 s1).1),(h0 (ix p.1 s1).2)]) (by first | exact qp.h | rfl | (simp [sc,I.settle];done)) ?_
    (conv=>whnf);refine qD h id fun qP h=>?_;(conv=>whnf);obtain ⟨qT,h⟩:=q_ h;refine ⟨by first | rfl | (simp;done) | exact rf p7 _ q' _,by have:=qT;omega,by decide,qT,by first | rfl | (simp;done) | exact rf p7 _ q' _,?_⟩
    erw [HI p7 s2 ((w ((ix p.1 s1).1+(w pull))),(w ((ix p.1 s1).2+(w (more.tmod (5:Int))))))];(conv=>whnf);subst gc;unfold Il;(conv=>whnf);refine Ew (x:=ar.cells [(h0 (ix p.1 s1).1),(h0 (ix p.1 s1).2)]) (by first | exact qp.h | rfl | (simp [sc,I.settle];done)) ?_
    (conv=>whnf);refine Ew (x:=ar.cells [(h0 (ix p.1 s1).1),(h0 (ix p.1 s1).2)]) (by first | exact qp.h | rfl | (simp [sc,I.settle];done)) ?_
    (conv=>whnf);obtain ⟨qN,h⟩:=q_ h;refine ⟨by first | rfl | (simp;done) | exact rf p7 _ q' _,by have:=qN;omega,rfl,qN,?_⟩
    erw [HI p7 dk ((w ((w ((1:Int)+(w (times.tmod (4:Int)))))*(ix p.1 s1).1)),(w ((w ((1:Int)+(w (times.tmod (4:Int)))))*(ix p.1 s1).2)))];(conv=>whnf);subst JS;unfold Kl;(conv=>whnf);exact ⟨m,sv m,(w (s1+(1:Int))),(s2++[((w ((ix p.1 s1).1+(w pull))),(w ((ix p.1 s1).2+(w (more.tmod (5:Int))))))]),(dk++[((w ((w ((1:Int)+(w (times.tmod (4:Int)))))*(ix p.1 s1).1)),(w ((w ((1:Int)+(w (times.tmod (4:Int)))))*(ix p.1 s1).2)))]),_,_,_,(.inr rfl),(.inr rfl),rfl,rfl,h⟩
   ·rw [qA];(conv=>whnf);exact Mm _ _ _ _ h ⟨rfl,rfl⟩
 ·rcases Ig with rfl | rfl
  ·(conv=>whnf);refine bs h (fun qA h=>?_) fun qA h=>?_
   ·rw [qA];(conv=>whnf);refine qD h id fun q5 h=>?_;rw [r6 p7 2 q' p.1 s1 q5];(conv=>whnf);refine Ew (x:=ar.cells [(h0 (0:Int)),(h0 (0:Int))]) (by first | exact qp.h | rfl | (simp [sc,I.settle];done)) ?_
    (conv=>whnf);rw [rZ];subst JR;unfold Kk;obtain ⟨Hy,gc⟩:∃ c,Il=c:=⟨_,rfl⟩;rw [gc];(conv=>whnf);refine Ew (x:=ar.cells [(h0 (ix p.1 s1).1),(h0 (ix p.1 s1).2)]) (by first | exact qp.h | rfl | (simp [sc,I.settle];done)) ?_
    (conv=>whnf);refine Ew (x:=ar.cells [(h0 (ix p.1 s1).1),(h0 (ix p.1 s1).2)]) (by first | exact qp.h | rfl | (simp [sc,I.settle];done)) ?_
    (conv=>whnf);refine qD h id fun qP h=>?_;(conv=>whnf);obtain ⟨qT,h⟩:=q_ h;refine ⟨by first | rfl | (simp;done) | exact rf p7 _ q' _,by have:=qT;omega,rfl,qT,?_⟩
    erw [HI p7 s2 ((w ((ix p.1 s1).1+(w pull))),(w ((ix p.1 s1).2+(w (more.tmod (5:Int))))))];(conv=>whnf);subst gc;unfold Il;(conv=>whnf);refine Ew (x:=ar.cells [(h0 (ix p.1 s1).1),(h0 (ix p.1 s1).2)]) (by first | exact qp.h | rfl | (simp [sc,I.settle];done)) ?_
    (conv=>whnf);refine Ew (x:=ar.cells [(h0 (ix p.1 s1).1),(h0 (ix p.1 s1).2)]) (by first | exact qp.h | rfl | (simp [sc,I.settle];done)) ?_
    (conv=>whnf);obtain ⟨qN,h⟩:=q_ h;refine ⟨by first | rfl | (simp;done) | exact rf p7 _ q' _,by have:=qN;omega,by decide,qN,by first | rfl | (simp;done) | exact rf p7 _ q' _,?_⟩
    erw [HI p7 dk ((w ((w ((1:Int)+(w (times.tmod (4:Int)))))*(ix p.1 s1).1)),(w ((w ((1:Int)+(w (times.tmod (4:Int)))))*(ix p.1 s1).2)))];(conv=>whnf);subst JS;unfold Kl;(conv=>whnf);exact ⟨m,sv m,(w (s1+(1:Int))),(s2++[((w ((ix p.1 s1).1+(w pull))),(w ((ix p.1 s1).2+(w (more.tmod (5:Int))))))]),(dk++[((w ((w ((1:Int)+(w (times.tmod (4:Int)))))*(ix p.1 s1).1)),(w ((w ((1:Int)+(w (times.tmod (4:Int)))))*(ix p.1 s1).2)))]),_,_,_,(.inr rfl),(.inr rfl),rfl,rfl,h⟩
   ·rw [qA];(conv=>whnf);exact Sd _ _ _ _ h ⟨rfl,rfl⟩
  ·(conv=>whnf);refine bs h (fun qA h=>?_) fun qA h=>?_
   ·rw [qA];(conv=>whnf);refine qD h id fun q5 h=>?_;rw [r6 p7 2 q' p.1 s1 q5];(conv=>whnf);refine Ew (x:=ar.cells [(h0 (0:Int)),(h0 (0:Int))]) (by first | exact qp.h | rfl | (simp [sc,I.settle];done)) ?_
    (conv=>whnf);rw [rZ];subst JR;unfold Kk;obtain ⟨Hy,gc⟩:∃ c,Il=c:=⟨_,rfl⟩;rw [gc];(conv=>whnf);refine Ew (x:=ar.cells [(h0 (ix p.1 s1).1),(h0 (ix p.1 s1).2)]) (by first | exact qp.h | rfl | (simp [sc,I.settle];done)) ?_
    (conv=>whnf);refine Ew (x:=ar.cells [(h0 (ix p.1 s1).1),(h0 (ix p.1 s1).2)]) (by first | exact qp.h | rfl | (simp [sc,I.settle];done)) ?_
    (conv=>whnf);refine qD h id fun qP h=>?_;(conv=>whnf);obtain ⟨qT,h⟩:=q_ h;refine ⟨by first | rfl | (simp;done) | exact rf p7 _ q' _,by have:=qT;omega,rfl,qT,?_⟩
    erw [HI p7 s2 ((w ((ix p.1 s1).1+(w pull))),(w ((ix p.1 s1).2+(w (more.tmod (5:Int))))))];(conv=>whnf);subst gc;unfold Il;(conv=>whnf);refine Ew (x:=ar.cells [(h0 (ix p.1 s1).1),(h0 (ix p.1 s1).2)]) (by first | exact qp.h | rfl | (simp [sc,I.settle];done)) ?_
    (conv=>whnf);refine Ew (x:=ar.cells [(h0 (ix p.1 s1).1),(h0 (ix p.1 s1).2)]) (by first | exact qp.h | rfl | (simp [sc,I.settle];done)) ?_
    (conv=>whnf);obtain ⟨qN,h⟩:=q_ h;refine ⟨by first | rfl | (simp;done) | exact rf p7 _ q' _,by have:=qN;omega,rfl,qN,?_⟩
    erw [HI p7 dk ((w ((w ((1:Int)+(w (times.tmod (4:Int)))))*(ix p.1 s1).1)),(w ((w ((1:Int)+(w (times.tmod (4:Int)))))*(ix p.1 s1).2)))];(conv=>whnf);subst JS;unfold Kl;(conv=>whnf);exact ⟨m,sv m,(w (s1+(1:Int))),(s2++[((w ((ix p.1 s1).1+(w pull))),(w ((ix p.1 s1).2+(w (more.tmod (5:Int))))))]),(dk++[((w ((w ((1:Int)+(w (times.tmod (4:Int)))))*(ix p.1 s1).1)),(w ((w ((1:Int)+(w (times.tmod (4:Int)))))*(ix p.1 s1).2)))]),_,_,_,(.inr rfl),(.inr rfl),rfl,rfl,h⟩
   ·rw [qA];(conv=>whnf);exact Se _ _ _ _ h ⟨rfl,rfl⟩
theorem QK {p:(qd×(Int×Int))} {times:Int} {oT:qd} {eK:p_} {qW:(Int×Bool)} {q8:(Int×Int×Int)} {v:Bool} {Q:r1} {bx:ar} {rk:List ar} {qb:List I}  (jJ:qK [.tmp 10] Q (fun v=>(B v)) v) (qo:ra 214 [(5,(.bS [(qv p.1 .shared),(h0 p.2.1),(h0 p.2.2)])),(11,(h0 (w ((1:Int)+(w (times.tmod (4:Int))))))),(13,(.ptr 1 0)),(16,(qS eK .shared)),(17,(h0 qW.1)),(19,(h0 q8.1)),(20,(h0 q8.2.1))] qb) (h:JK p times oT eK qW q8  = some v) :
  dQ Tryz.prog Lg 8 0 none KF qb (bx::ar.cells [(qv oT .full),(h0 p.2.1),(h0 p.2.2)]::rk) Q:=by
 obtain ⟨re,rfl⟩:=qo.ex;unfold JK at h;unfold KF;conv=>whnf
 obtain ⟨I3,KN,h⟩:=p9 h;refine ⟨qa.pl,_,IA KN,?_⟩;conv=>whnf
 cases I3
 ·conv=>whnf
  replace h:=rr rfl h;obtain ⟨Mv,JY,h⟩:=p9 h;refine ⟨rfl,_,Iz JY,?_⟩;conv=>whnf
  exact p8 h jJ rfl rfl
 ·conv=>whnf
  replace h:=rq rfl h;obtain ⟨Js,L2,h⟩:=p9 h;refine ⟨qa.pl,_,r8 L2,?_⟩;conv=>whnf
  obtain ⟨Kw,L3,h⟩:=p9 h;refine ⟨qa.pl,_,Hw L3,?_⟩;conv=>whnf
  refine bs h (fun JV h=>?_) fun JV h=>?_
  ·rw [JV];(conv=>whnf);refine bs h (fun JW h=>?_) fun JW h=>?_
   ·rw [JW];(conv=>whnf);refine bs h (fun Jh h=>?_) fun Jh h=>?_
    ·rw [Jh];(conv=>whnf);refine bs h (fun Ji h=>?_) fun Ji h=>?_
     ·rw [Ji];(conv=>whnf);refine bs h (fun Jj h=>?_) fun Jj h=>?_
      ·rw [Jj];(conv=>whnf);obtain ⟨Lq,JX,h⟩:=p9 h;refine ⟨rfl,_,Iz JX,?_⟩;(conv=>whnf);exact p8 h jJ rfl rfl
      ·rw [Jj];(conv=>whnf);exact p8 h jJ rfl rfl
     ·rw [Ji];(conv=>whnf);exact p8 h jJ rfl rfl
    ·rw [Jh];(conv=>whnf);exact p8 h jJ rfl rfl
   ·rw [JW];(conv=>whnf);exact p8 h jJ rfl rfl
  ·rw [JV];(conv=>whnf);exact p8 h jJ rfl rfl
theorem QL {p:(qd×(Int×Int))} {times:Int} {oT:qd} {J_:p_} {J':(Int×Bool)} {IJ:(Int×Int×Int)} {v:Bool} {Q:r1} {bx:ar} {rk:List ar} {qb:List I}  (jJ:qK [.tmp 10] Q (fun v=>(B v)) v) (qo:ra 214 [(5,(.bS [(qv p.1 .shared),(h0 p.2.1),(h0 p.2.2)])),(11,(h0 (w ((1:Int)+(w (times.tmod (4:Int))))))),(13,(.ptr 1 0)),(16,(qS J_ .shared)),(17,(h0 J'.1)),(19,(h0 IJ.1)),(20,(h0 IJ.2.1))] qb) (h:JK p times oT J_ J' IJ  = some v) :
  dQ Tryz.prog Lg 8 0 none KF qb (bx::ar.cells [(qv oT (.own 2)),(h0 p.2.1),(h0 p.2.2)]::rk) Q:=by
 obtain ⟨re,rfl⟩:=qo.ex;unfold JK at h;unfold KF;conv=>whnf
 obtain ⟨NA,L4,h⟩:=p9 h;refine ⟨qa.pl,_,IA L4,?_⟩;conv=>whnf
 cases NA
 ·conv=>whnf
  replace h:=rr rfl h;obtain ⟨OA,RW,h⟩:=p9 h;refine ⟨rfl,_,Iz RW,?_⟩;conv=>whnf
  exact p8 h jJ rfl rfl
 ·conv=>whnf
  replace h:=rq rfl h;obtain ⟨PT,L5,h⟩:=p9 h;refine ⟨qa.pl,_,r8 L5,?_⟩;conv=>whnf
  obtain ⟨PU,L6,h⟩:=p9 h;refine ⟨qa.pl,_,Hw L6,?_⟩;conv=>whnf
  refine bs h (fun J5 h=>?_) fun J5 h=>?_
  ·rw [J5];(conv=>whnf);refine bs h (fun KT h=>?_) fun KT h=>?_
   ·rw [KT];(conv=>whnf);refine bs h (fun KU h=>?_) fun KU h=>?_
    ·rw [KU];(conv=>whnf);refine bs h (fun L7 h=>?_) fun L7 h=>?_
     ·rw [L7];(conv=>whnf);refine bs h (fun L8 h=>?_) fun L8 h=>?_
      ·rw [L8];(conv=>whnf);obtain ⟨PV,RV,h⟩:=p9 h;refine ⟨rfl,_,Iz RV,?_⟩;(conv=>whnf);exact p8 h jJ rfl rfl
      ·rw [L8];(conv=>whnf);exact p8 h jJ rfl rfl
     ·rw [L7];(conv=>whnf);exact p8 h jJ rfl rfl
    ·rw [KU];(conv=>whnf);exact p8 h jJ rfl rfl
   ·rw [KT];(conv=>whnf);exact p8 h jJ rfl rfl
  ·rw [J5];(conv=>whnf);exact p8 h jJ rfl rfl
theorem QM {p:(qd×(Int×Int))} {times:Int} {oT:qd} {eK:p_} {qW:(Int×Bool)} {q8:(Int×Int×Int)} {v:Bool} {Q:r1} {bx:ar} {rk:List ar} {qb:List I}  (jJ:qK [.tmp 10] Q (fun v=>(B v)) v) (qo:ra 214 [(5,(.bS [(qv p.1 .shared),(h0 p.2.1),(h0 p.2.2)])),(11,(h0 (w ((1:Int)+(w (times.tmod (4:Int))))))),(13,(.ptr 0 0)),(16,(qS eK .shared)),(17,(h0 qW.1)),(19,(h0 q8.1)),(20,(h0 q8.2.1))] qb) (h:JK p times oT eK qW q8  = some v) :
  dQ Tryz.prog Lg 8 0 none KF qb (ar.cells [(qv oT .full),(h0 p.2.1),(h0 p.2.2)]::bx::rk) Q:=by
 obtain ⟨re,rfl⟩:=qo.ex;unfold JK at h;unfold KF;conv=>whnf
 obtain ⟨I3,KN,h⟩:=p9 h;refine ⟨qa.pl,_,IA KN,?_⟩;conv=>whnf
 cases I3
 ·conv=>whnf
  replace h:=rr rfl h;obtain ⟨Mv,JY,h⟩:=p9 h;refine ⟨rfl,_,Iz JY,?_⟩;conv=>whnf
  exact p8 h jJ rfl rfl
 ·conv=>whnf
  replace h:=rq rfl h;obtain ⟨Js,L2,h⟩:=p9 h;refine ⟨qa.pl,_,r8 L2,?_⟩;conv=>whnf
  obtain ⟨Kw,L3,h⟩:=p9 h;refine ⟨qa.pl,_,Hw L3,?_⟩;conv=>whnf
  refine bs h (fun JV h=>?_) fun JV h=>?_
  ·rw [JV];(conv=>whnf);refine bs h (fun JW h=>?_) fun JW h=>?_
   ·rw [JW];(conv=>whnf);refine bs h (fun Jh h=>?_) fun Jh h=>?_
    ·rw [Jh];(conv=>whnf);refine bs h (fun Ji h=>?_) fun Ji h=>?_
     ·rw [Ji];(conv=>whnf);refine bs h (fun Jj h=>?_) fun Jj h=>?_
      ·rw [Jj];(conv=>whnf);obtain ⟨Lq,JX,h⟩:=p9 h;refine ⟨rfl,_,Iz JX,?_⟩;(conv=>whnf);exact p8 h jJ rfl rfl
      ·rw [Jj];(conv=>whnf);exact p8 h jJ rfl rfl
     ·rw [Ji];(conv=>whnf);exact p8 h jJ rfl rfl
    ·rw [Jh];(conv=>whnf);exact p8 h jJ rfl rfl
   ·rw [JW];(conv=>whnf);exact p8 h jJ rfl rfl
  ·rw [JV];(conv=>whnf);exact p8 h jJ rfl rfl
theorem QN {p:(qd×(Int×Int))} {times:Int} {oT:qd} {J_:p_} {J':(Int×Bool)} {IJ:(Int×Int×Int)} {v:Bool} {Q:r1} {bx:ar} {rk:List ar} {qb:List I}  (jJ:qK [.tmp 10] Q (fun v=>(B v)) v) (qo:ra 214 [(5,(.bS [(qv p.1 .shared),(h0 p.2.1),(h0 p.2.2)])),(11,(h0 (w ((1:Int)+(w (times.tmod (4:Int))))))),(13,(.ptr 0 0)),(16,(qS J_ .shared)),(17,(h0 J'.1)),(19,(h0 IJ.1)),(20,(h0 IJ.2.1))] qb) (h:JK p times oT J_ J' IJ  = some v) :
  dQ Tryz.prog Lg 8 0 none KF qb (ar.cells [(qv oT (.own 2)),(h0 p.2.1),(h0 p.2.2)]::bx::rk) Q:=by
 obtain ⟨re,rfl⟩:=qo.ex;unfold JK at h;unfold KF;conv=>whnf
 obtain ⟨NA,L4,h⟩:=p9 h;refine ⟨qa.pl,_,IA L4,?_⟩;conv=>whnf
 cases NA
 ·conv=>whnf
  replace h:=rr rfl h;obtain ⟨OA,RW,h⟩:=p9 h;refine ⟨rfl,_,Iz RW,?_⟩;conv=>whnf
  exact p8 h jJ rfl rfl
 ·conv=>whnf
  replace h:=rq rfl h;obtain ⟨PT,L5,h⟩:=p9 h;refine ⟨qa.pl,_,r8 L5,?_⟩;conv=>whnf
  obtain ⟨PU,L6,h⟩:=p9 h;refine ⟨qa.pl,_,Hw L6,?_⟩;conv=>whnf
  refine bs h (fun J5 h=>?_) fun J5 h=>?_
  ·rw [J5];(conv=>whnf);refine bs h (fun KT h=>?_) fun KT h=>?_
   ·rw [KT];(conv=>whnf);refine bs h (fun KU h=>?_) fun KU h=>?_
    ·rw [KU];(conv=>whnf);refine bs h (fun L7 h=>?_) fun L7 h=>?_
     ·rw [L7];(conv=>whnf);refine bs h (fun L8 h=>?_) fun L8 h=>?_
      ·rw [L8];(conv=>whnf);obtain ⟨PV,RV,h⟩:=p9 h;refine ⟨rfl,_,Iz RV,?_⟩;(conv=>whnf);exact p8 h jJ rfl rfl
      ·rw [L8];(conv=>whnf);exact p8 h jJ rfl rfl
     ·rw [L7];(conv=>whnf);exact p8 h jJ rfl rfl
    ·rw [KU];(conv=>whnf);exact p8 h jJ rfl rfl
   ·rw [KT];(conv=>whnf);exact p8 h jJ rfl rfl
  ·rw [J5];(conv=>whnf);exact p8 h jJ rfl rfl
theorem ajn {p:(qd×(Int×Int))} {qs:p_} {pull:Int} {more:Int} {times:Int} {v:Bool} (h:QH p qs pull more times=some v):qB 8 [(.agg [(.av (p.1.flatMap p7) p.1.length .shared),(h0 p.2.1),(h0 p.2.2)]),(.av (qs.map q4) qs.length .shared),(q4 pull),(q4 more),(q4 times)] (B v):=by
 refine qR eG afk rfl rfl fun Q bp=>?_;have jJ:qK [.tmp 10] Q (fun v=>(B v)) v:=fun T H bE=>bp _ T H bE;unfold QH at h;unfold aaA;obtain ⟨HK,qJ⟩:∃ c,N5=c:=⟨_,rfl⟩;rw [qJ];obtain ⟨Lh,rb⟩:∃ c,KF=c:=⟨_,rfl⟩;rw [rb];conv=>whnf
 refine ⟨rfl,?_⟩;conv=>whnf
 obtain ⟨aS,gM,h⟩:=p9 h;refine ⟨qa.pl,_,IA gM,?_⟩;conv=>whnf
 cases aS
 ·conv=>whnf
  replace h:=rr rfl h;obtain ⟨Xq,ade,h⟩:=p9 h;refine ⟨rfl,_,Iz ade,?_⟩;conv=>whnf
  exact p8 h jJ rfl rfl
 ·conv=>whnf
  replace h:=rq rfl h;refine bs h (fun gN h=>?_) fun gN h=>?_
  ·rw [gN];(conv=>whnf);obtain ⟨bj,qx,h⟩:=p9 h;refine ⟨rfl,_,Iz qx,?_⟩;(conv=>whnf);exact p8 h jJ rfl rfl
  ·rw [gN];(conv=>whnf);refine qD h id fun qQ h=>?_;(conv=>whnf);refine ⟨?_,?_⟩
   ·(conv=>whnf);subst qJ;refine ajl ?_ ?_ ?_ ?_ (.inl rfl) (.inl rfl) (by exact rfl) h
    ·intro yn oT rk qb h qo;obtain ⟨re,rfl⟩:=qo.ex;(conv=>whnf);obtain ⟨eK,r3,h⟩:=p9 h;refine ⟨qa.pl,_,KA r3,?_⟩;(conv=>whnf);obtain ⟨qW,IX,h⟩:=p9 h;refine ⟨qa.pl,_,r8 IX,?_⟩;(conv=>whnf);obtain ⟨q8,I',h⟩:=p9 h;refine ⟨qa.pl,_,Hw I',?_⟩;(conv=>whnf);refine bs h (fun Iu h=>?_) fun Iu h=>?_
     ·rw [Iu];(conv=>whnf);refine bs h (fun Ja h=>?_) fun Ja h=>?_
      ·rw [Ja];(conv=>whnf);exact p8 h jJ rfl rfl
      ·rw [Ja];(conv=>whnf);obtain ⟨r5,Jb,h⟩:=p9 h;refine ⟨(p5 rfl rfl),_,IB Jb,?_⟩;(conv=>whnf);refine bs h (fun Jc h=>?_) fun Jc h=>?_
       ·rw [Jc];(conv=>whnf);exact p8 h jJ rfl rfl
       ·rw [Jc];(conv=>whnf);obtain ⟨H7,KK,h⟩:=p9 h;refine ⟨(p5 rfl rfl),_,IB KK,?_⟩;(conv=>whnf);refine bs h (fun Jd h=>?_) fun Jd h=>?_
        ·rw [Jd];(conv=>whnf);exact p8 h jJ rfl rfl
        ·rw [Jd];(conv=>whnf);obtain ⟨Hp,KL,h⟩:=p9 h;refine ⟨qa.pl,_,IA KL,?_⟩;(conv=>whnf);cases Hp
         ·(conv=>whnf);replace h:=rr rfl h;subst rb;refine QK ?_ (by exact ⟨rfl,rfl⟩) h;exact fun T H bE=>jJ T H bE
         ·(conv=>whnf);replace h:=rq rfl h;obtain ⟨HZ,KM,h⟩:=p9 h;refine ⟨qa.pl,_,r8 KM,?_⟩;(conv=>whnf);obtain ⟨Iw,L1,h⟩:=p9 h;refine ⟨qa.pl,_,Hw L1,?_⟩;(conv=>whnf);refine bs h (fun JT h=>?_) fun JT h=>?_
          ·rw [JT];(conv=>whnf);refine bs h (fun JU h=>?_) fun JU h=>?_
           ·rw [JU];(conv=>whnf);exact p8 h jJ rfl rfl
           ·rw [JU];(conv=>whnf);refine bs h (fun Je h=>?_) fun Je h=>?_
            ·rw [Je];(conv=>whnf);exact p8 h jJ rfl rfl
            ·rw [Je];(conv=>whnf);refine bs h (fun Jf h=>?_) fun Jf h=>?_
             ·rw [Jf];(conv=>whnf);exact p8 h jJ rfl rfl
             ·rw [Jf];(conv=>whnf);refine bs h (fun Jg h=>?_) fun Jg h=>?_
              ·rw [Jg];(conv=>whnf);exact p8 h jJ rfl rfl
              ·rw [Jg];(conv=>whnf);subst rb;refine QK ?_ (by exact ⟨rfl,rfl⟩) h;exact fun T H bE=>jJ T H bE
          ·rw [JT];(conv=>whnf);exact p8 h jJ rfl rfl
     ·rw [Iu];(conv=>whnf);exact p8 h jJ rfl rfl
    ·intro yn oT rk qb h qo;obtain ⟨re,rfl⟩:=qo.ex;(conv=>whnf);obtain ⟨J_,JZ,h⟩:=p9 h;refine ⟨qa.pl,_,KA JZ,?_⟩;(conv=>whnf);obtain ⟨J',J0,h⟩:=p9 h;refine ⟨qa.pl,_,r8 J0,?_⟩;(conv=>whnf);obtain ⟨IJ,J1,h⟩:=p9 h;refine ⟨qa.pl,_,Hw J1,?_⟩;(conv=>whnf);refine bs h (fun IF h=>?_) fun IF h=>?_
     ·rw [IF];(conv=>whnf);refine bs h (fun Jk h=>?_) fun Jk h=>?_
      ·rw [Jk];(conv=>whnf);exact p8 h jJ rfl rfl
      ·rw [Jk];(conv=>whnf);obtain ⟨Ox,KO,h⟩:=p9 h;refine ⟨(p5 rfl rfl),_,IB KO,?_⟩;(conv=>whnf);refine bs h (fun Jl h=>?_) fun Jl h=>?_
       ·rw [Jl];(conv=>whnf);exact p8 h jJ rfl rfl
       ·rw [Jl];(conv=>whnf);obtain ⟨Oy,J2,h⟩:=p9 h;refine ⟨(p5 rfl rfl),_,IB J2,?_⟩;(conv=>whnf);refine bs h (fun Jm h=>?_) fun Jm h=>?_
        ·rw [Jm];(conv=>whnf);exact p8 h jJ rfl rfl
        ·rw [Jm];(conv=>whnf);obtain ⟨Mw,KP,h⟩:=p9 h;refine ⟨qa.pl,_,IA KP,?_⟩;(conv=>whnf);cases Mw
         ·(conv=>whnf);replace h:=rr rfl h;subst rb;refine QL ?_ (by exact ⟨rfl,rfl⟩) h;exact fun T H bE=>jJ T H bE
         ·(conv=>whnf);replace h:=rq rfl h;obtain ⟨Oz,J3,h⟩:=p9 h;refine ⟨qa.pl,_,r8 J3,?_⟩;(conv=>whnf);obtain ⟨Mx,KQ,h⟩:=p9 h;refine ⟨qa.pl,_,Hw KQ,?_⟩;(conv=>whnf);refine bs h (fun Jn h=>?_) fun Jn h=>?_
          ·rw [Jn];(conv=>whnf);refine bs h (fun Jo h=>?_) fun Jo h=>?_
           ·rw [Jo];(conv=>whnf);exact p8 h jJ rfl rfl
           ·rw [Jo];(conv=>whnf);refine bs h (fun KR h=>?_) fun KR h=>?_
            ·rw [KR];(conv=>whnf);exact p8 h jJ rfl rfl
            ·rw [KR];(conv=>whnf);refine bs h (fun KS h=>?_) fun KS h=>?_
             ·rw [KS];(conv=>whnf);exact p8 h jJ rfl rfl
             ·rw [KS];(conv=>whnf);refine bs h (fun J4 h=>?_) fun J4 h=>?_
              ·rw [J4];(conv=>whnf);exact p8 h jJ rfl rfl
              ·rw [J4];(conv=>whnf);subst rb;refine QL ?_ (by exact ⟨rfl,rfl⟩) h;exact fun T H bE=>jJ T H bE
          ·rw [Jn];(conv=>whnf);exact p8 h jJ rfl rfl
     ·rw [IF];(conv=>whnf);exact p8 h jJ rfl rfl
    ·intro yn oT rk qb h qo;obtain ⟨re,rfl⟩:=qo.ex;(conv=>whnf);obtain ⟨PW,RX,h⟩:=p9 h;refine ⟨qa.pl,_,KA RX,?_⟩;(conv=>whnf);obtain ⟨OB,RY,h⟩:=p9 h;refine ⟨qa.pl,_,r8 RY,?_⟩;(conv=>whnf);obtain ⟨OC,RZ,h⟩:=p9 h;refine ⟨qa.pl,_,Hw RZ,?_⟩;(conv=>whnf);refine bs h (fun L9 h=>?_) fun L9 h=>?_
     ·rw [L9];(conv=>whnf);refine bs h (fun L_ h=>?_) fun L_ h=>?_
      ·rw [L_];(conv=>whnf);exact p8 h jJ rfl rfl
      ·rw [L_];(conv=>whnf);obtain ⟨PX,R0,h⟩:=p9 h;refine ⟨(p5 rfl rfl),_,IB R0,?_⟩;(conv=>whnf);refine bs h (fun L' h=>?_) fun L' h=>?_
       ·rw [L'];(conv=>whnf);exact p8 h jJ rfl rfl
       ·rw [L'];(conv=>whnf);obtain ⟨OD,R1,h⟩:=p9 h;refine ⟨(p5 rfl rfl),_,IB R1,?_⟩;(conv=>whnf);refine bs h (fun Ma h=>?_) fun Ma h=>?_
        ·rw [Ma];(conv=>whnf);exact p8 h jJ rfl rfl
        ·rw [Ma];(conv=>whnf);obtain ⟨NB,R2,h⟩:=p9 h;refine ⟨qa.pl,_,IA R2,?_⟩;(conv=>whnf);cases NB
         ·(conv=>whnf);replace h:=rr rfl h;subst rb;refine QK ?_ (by exact ⟨rfl,rfl⟩) h;exact fun T H bE=>jJ T H bE
         ·(conv=>whnf);replace h:=rq rfl h;obtain ⟨OE,R3,h⟩:=p9 h;refine ⟨qa.pl,_,r8 R3,?_⟩;(conv=>whnf);obtain ⟨PY,R4,h⟩:=p9 h;refine ⟨qa.pl,_,Hw R4,?_⟩;(conv=>whnf);refine bs h (fun Mb h=>?_) fun Mb h=>?_
          ·rw [Mb];(conv=>whnf);refine bs h (fun Mc h=>?_) fun Mc h=>?_
           ·rw [Mc];(conv=>whnf);exact p8 h jJ rfl rfl
           ·rw [Mc];(conv=>whnf);refine bs h (fun Md h=>?_) fun Md h=>?_
            ·rw [Md];(conv=>whnf);exact p8 h jJ rfl rfl
            ·rw [Md];(conv=>whnf);refine bs h (fun Me h=>?_) fun Me h=>?_
             ·rw [Me];(conv=>whnf);exact p8 h jJ rfl rfl
             ·rw [Me];(conv=>whnf);refine bs h (fun Mf h=>?_) fun Mf h=>?_
              ·rw [Mf];(conv=>whnf);exact p8 h jJ rfl rfl
              ·rw [Mf];(conv=>whnf);subst rb;refine QK ?_ (by exact ⟨rfl,rfl⟩) h;exact fun T H bE=>jJ T H bE
          ·rw [Mb];(conv=>whnf);exact p8 h jJ rfl rfl
     ·rw [L9];(conv=>whnf);exact p8 h jJ rfl rfl
    ·intro yn oT rk qb h qo;obtain ⟨re,rfl⟩:=qo.ex;(conv=>whnf);obtain ⟨af3,R5,h⟩:=p9 h;refine ⟨qa.pl,_,KA R5,?_⟩;(conv=>whnf);obtain ⟨af4,R6,h⟩:=p9 h;refine ⟨qa.pl,_,r8 R6,?_⟩;(conv=>whnf);obtain ⟨af5,R7,h⟩:=p9 h;refine ⟨qa.pl,_,Hw R7,?_⟩;(conv=>whnf);refine bs h (fun Mg h=>?_) fun Mg h=>?_
     ·rw [Mg];(conv=>whnf);refine bs h (fun Mh h=>?_) fun Mh h=>?_
      ·rw [Mh];(conv=>whnf);exact p8 h jJ rfl rfl
      ·rw [Mh];(conv=>whnf);obtain ⟨af6,R8,h⟩:=p9 h;refine ⟨(p5 rfl rfl),_,IB R8,?_⟩;(conv=>whnf);refine bs h (fun Mi h=>?_) fun Mi h=>?_
       ·rw [Mi];(conv=>whnf);exact p8 h jJ rfl rfl
       ·rw [Mi];(conv=>whnf);obtain ⟨af7,R9,h⟩:=p9 h;refine ⟨(p5 rfl rfl),_,IB R9,?_⟩;(conv=>whnf);refine bs h (fun Mj h=>?_) fun Mj h=>?_
        ·rw [Mj];(conv=>whnf);exact p8 h jJ rfl rfl
        ·rw [Mj];(conv=>whnf);obtain ⟨SA,RS,h⟩:=p9 h;refine ⟨qa.pl,_,IA RS,?_⟩;(conv=>whnf);cases SA
         ·(conv=>whnf);replace h:=rr rfl h;subst rb;refine QL ?_ (by exact ⟨rfl,rfl⟩) h;exact fun T H bE=>jJ T H bE
         ·(conv=>whnf);replace h:=rq rfl h;obtain ⟨af8,RT,h⟩:=p9 h;refine ⟨qa.pl,_,r8 RT,?_⟩;(conv=>whnf);obtain ⟨af9,RU,h⟩:=p9 h;refine ⟨qa.pl,_,Hw RU,?_⟩;(conv=>whnf);refine bs h (fun LW h=>?_) fun LW h=>?_
          ·rw [LW];(conv=>whnf);refine bs h (fun LX h=>?_) fun LX h=>?_
           ·rw [LX];(conv=>whnf);exact p8 h jJ rfl rfl
           ·rw [LX];(conv=>whnf);refine bs h (fun LY h=>?_) fun LY h=>?_
            ·rw [LY];(conv=>whnf);exact p8 h jJ rfl rfl
            ·rw [LY];(conv=>whnf);refine bs h (fun LZ h=>?_) fun LZ h=>?_
             ·rw [LZ];(conv=>whnf);exact p8 h jJ rfl rfl
             ·rw [LZ];(conv=>whnf);refine bs h (fun L0 h=>?_) fun L0 h=>?_
              ·rw [L0];(conv=>whnf);exact p8 h jJ rfl rfl
              ·rw [L0];(conv=>whnf);subst rb;refine QL ?_ (by exact ⟨rfl,rfl⟩) h;exact fun T H bE=>jJ T H bE
          ·rw [LW];(conv=>whnf);exact p8 h jJ rfl rfl
     ·rw [Mg];(conv=>whnf);exact p8 h jJ rfl rfl
   ·(conv=>whnf);subst qJ;refine ajm ?_ ?_ ?_ ?_ (.inl rfl) (.inl rfl) (by exact rfl) h
    ·intro yn oT rk qb h qo;obtain ⟨re,rfl⟩:=qo.ex;(conv=>whnf);obtain ⟨eK,r3,h⟩:=p9 h;refine ⟨qa.pl,_,KA r3,?_⟩;(conv=>whnf);obtain ⟨qW,IX,h⟩:=p9 h;refine ⟨qa.pl,_,r8 IX,?_⟩;(conv=>whnf);obtain ⟨q8,I',h⟩:=p9 h;refine ⟨qa.pl,_,Hw I',?_⟩;(conv=>whnf);refine bs h (fun Iu h=>?_) fun Iu h=>?_
     ·rw [Iu];(conv=>whnf);refine bs h (fun Ja h=>?_) fun Ja h=>?_
      ·rw [Ja];(conv=>whnf);exact p8 h jJ rfl rfl
      ·rw [Ja];(conv=>whnf);obtain ⟨r5,Jb,h⟩:=p9 h;refine ⟨(p5 rfl rfl),_,IB Jb,?_⟩;(conv=>whnf);refine bs h (fun Jc h=>?_) fun Jc h=>?_
       ·rw [Jc];(conv=>whnf);exact p8 h jJ rfl rfl
       ·rw [Jc];(conv=>whnf);obtain ⟨H7,KK,h⟩:=p9 h;refine ⟨(p5 rfl rfl),_,IB KK,?_⟩;(conv=>whnf);refine bs h (fun Jd h=>?_) fun Jd h=>?_
        ·rw [Jd];(conv=>whnf);exact p8 h jJ rfl rfl
        ·rw [Jd];(conv=>whnf);obtain ⟨Hp,KL,h⟩:=p9 h;refine ⟨qa.pl,_,IA KL,?_⟩;(conv=>whnf);cases Hp
         ·(conv=>whnf);replace h:=rr rfl h;subst rb;refine QM ?_ (by exact ⟨rfl,rfl⟩) h;exact fun T H bE=>jJ T H bE
         ·(conv=>whnf);replace h:=rq rfl h;obtain ⟨HZ,KM,h⟩:=p9 h;refine ⟨qa.pl,_,r8 KM,?_⟩;(conv=>whnf);obtain ⟨Iw,L1,h⟩:=p9 h;refine ⟨qa.pl,_,Hw L1,?_⟩;(conv=>whnf);refine bs h (fun JT h=>?_) fun JT h=>?_
          ·rw [JT];(conv=>whnf);refine bs h (fun JU h=>?_) fun JU h=>?_
           ·rw [JU];(conv=>whnf);exact p8 h jJ rfl rfl
           ·rw [JU];(conv=>whnf);refine bs h (fun Je h=>?_) fun Je h=>?_
            ·rw [Je];(conv=>whnf);exact p8 h jJ rfl rfl
            ·rw [Je];(conv=>whnf);refine bs h (fun Jf h=>?_) fun Jf h=>?_
             ·rw [Jf];(conv=>whnf);exact p8 h jJ rfl rfl
             ·rw [Jf];(conv=>whnf);refine bs h (fun Jg h=>?_) fun Jg h=>?_
              ·rw [Jg];(conv=>whnf);exact p8 h jJ rfl rfl
              ·rw [Jg];(conv=>whnf);subst rb;refine QM ?_ (by exact ⟨rfl,rfl⟩) h;exact fun T H bE=>jJ T H bE
          ·rw [JT];(conv=>whnf);exact p8 h jJ rfl rfl
     ·rw [Iu];(conv=>whnf);exact p8 h jJ rfl rfl
    ·intro yn oT rk qb h qo;obtain ⟨re,rfl⟩:=qo.ex;(conv=>whnf);obtain ⟨J_,JZ,h⟩:=p9 h;refine ⟨qa.pl,_,KA JZ,?_⟩;(conv=>whnf);obtain ⟨J',J0,h⟩:=p9 h;refine ⟨qa.pl,_,r8 J0,?_⟩;(conv=>whnf);obtain ⟨IJ,J1,h⟩:=p9 h;refine ⟨qa.pl,_,Hw J1,?_⟩;(conv=>whnf);refine bs h (fun IF h=>?_) fun IF h=>?_
     ·rw [IF];(conv=>whnf);refine bs h (fun Jk h=>?_) fun Jk h=>?_
      ·rw [Jk];(conv=>whnf);exact p8 h jJ rfl rfl
      ·rw [Jk];(conv=>whnf);obtain ⟨Ox,KO,h⟩:=p9 h;refine ⟨(p5 rfl rfl),_,IB KO,?_⟩;(conv=>whnf);refine bs h (fun Jl h=>?_) fun Jl h=>?_
       ·rw [Jl];(conv=>whnf);exact p8 h jJ rfl rfl
       ·rw [Jl];(conv=>whnf);obtain ⟨Oy,J2,h⟩:=p9 h;refine ⟨(p5 rfl rfl),_,IB J2,?_⟩;(conv=>whnf);refine bs h (fun Jm h=>?_) fun Jm h=>?_
        ·rw [Jm];(conv=>whnf);exact p8 h jJ rfl rfl
        ·rw [Jm];(conv=>whnf);obtain ⟨Mw,KP,h⟩:=p9 h;refine ⟨qa.pl,_,IA KP,?_⟩;(conv=>whnf);cases Mw
         ·(conv=>whnf);replace h:=rr rfl h;subst rb;refine QN ?_ (by exact ⟨rfl,rfl⟩) h;exact fun T H bE=>jJ T H bE
         ·(conv=>whnf);replace h:=rq rfl h;obtain ⟨Oz,J3,h⟩:=p9 h;refine ⟨qa.pl,_,r8 J3,?_⟩;(conv=>whnf);obtain ⟨Mx,KQ,h⟩:=p9 h;refine ⟨qa.pl,_,Hw KQ,?_⟩;(conv=>whnf);refine bs h (fun Jn h=>?_) fun Jn h=>?_
          ·rw [Jn];(conv=>whnf);refine bs h (fun Jo h=>?_) fun Jo h=>?_
           ·rw [Jo];(conv=>whnf);exact p8 h jJ rfl rfl
           ·rw [Jo];(conv=>whnf);refine bs h (fun KR h=>?_) fun KR h=>?_
            ·rw [KR];(conv=>whnf);exact p8 h jJ rfl rfl
            ·rw [KR];(conv=>whnf);refine bs h (fun KS h=>?_) fun KS h=>?_
             ·rw [KS];(conv=>whnf);exact p8 h jJ rfl rfl
             ·rw [KS];(conv=>whnf);refine bs h (fun J4 h=>?_) fun J4 h=>?_
              ·rw [J4];(conv=>whnf);exact p8 h jJ rfl rfl
              ·rw [J4];(conv=>whnf);subst rb;refine QN ?_ (by exact ⟨rfl,rfl⟩) h;exact fun T H bE=>jJ T H bE
          ·rw [Jn];(conv=>whnf);exact p8 h jJ rfl rfl
     ·rw [IF];(conv=>whnf);exact p8 h jJ rfl rfl
    ·intro yn oT rk qb h qo;obtain ⟨re,rfl⟩:=qo.ex;(conv=>whnf);obtain ⟨PW,RX,h⟩:=p9 h;refine ⟨qa.pl,_,KA RX,?_⟩;(conv=>whnf);obtain ⟨OB,RY,h⟩:=p9 h;refine ⟨qa.pl,_,r8 RY,?_⟩;(conv=>whnf);obtain ⟨OC,RZ,h⟩:=p9 h;refine ⟨qa.pl,_,Hw RZ,?_⟩;(conv=>whnf);refine bs h (fun L9 h=>?_) fun L9 h=>?_
     ·rw [L9];(conv=>whnf);refine bs h (fun L_ h=>?_) fun L_ h=>?_
      ·rw [L_];(conv=>whnf);exact p8 h jJ rfl rfl
      ·rw [L_];(conv=>whnf);obtain ⟨PX,R0,h⟩:=p9 h;refine ⟨(p5 rfl rfl),_,IB R0,?_⟩;(conv=>whnf);refine bs h (fun L' h=>?_) fun L' h=>?_
       ·rw [L'];(conv=>whnf);exact p8 h jJ rfl rfl
       ·rw [L'];(conv=>whnf);obtain ⟨OD,R1,h⟩:=p9 h;refine ⟨(p5 rfl rfl),_,IB R1,?_⟩;(conv=>whnf);refine bs h (fun Ma h=>?_) fun Ma h=>?_
        ·rw [Ma];(conv=>whnf);exact p8 h jJ rfl rfl
        ·rw [Ma];(conv=>whnf);obtain ⟨NB,R2,h⟩:=p9 h;refine ⟨qa.pl,_,IA R2,?_⟩;(conv=>whnf);cases NB
         ·(conv=>whnf);replace h:=rr rfl h;subst rb;refine QM ?_ (by exact ⟨rfl,rfl⟩) h;exact fun T H bE=>jJ T H bE
         ·(conv=>whnf);replace h:=rq rfl h;obtain ⟨OE,R3,h⟩:=p9 h;refine ⟨qa.pl,_,r8 R3,?_⟩;(conv=>whnf);obtain ⟨PY,R4,h⟩:=p9 h;refine ⟨qa.pl,_,Hw R4,?_⟩;(conv=>whnf);refine bs h (fun Mb h=>?_) fun Mb h=>?_
          ·rw [Mb];(conv=>whnf);refine bs h (fun Mc h=>?_) fun Mc h=>?_
           ·rw [Mc];(conv=>whnf);exact p8 h jJ rfl rfl
           ·rw [Mc];(conv=>whnf);refine bs h (fun Md h=>?_) fun Md h=>?_
            ·rw [Md];(conv=>whnf);exact p8 h jJ rfl rfl
            ·rw [Md];(conv=>whnf);refine bs h (fun Me h=>?_) fun Me h=>?_
             ·rw [Me];(conv=>whnf);exact p8 h jJ rfl rfl
             ·rw [Me];(conv=>whnf);refine bs h (fun Mf h=>?_) fun Mf h=>?_
              ·rw [Mf];(conv=>whnf);exact p8 h jJ rfl rfl
              ·rw [Mf];(conv=>whnf);subst rb;refine QM ?_ (by exact ⟨rfl,rfl⟩) h;exact fun T H bE=>jJ T H bE
          ·rw [Mb];(conv=>whnf);exact p8 h jJ rfl rfl
     ·rw [L9];(conv=>whnf);exact p8 h jJ rfl rfl
    ·intro yn oT rk qb h qo;obtain ⟨re,rfl⟩:=qo.ex;(conv=>whnf);obtain ⟨af3,R5,h⟩:=p9 h;refine ⟨qa.pl,_,KA R5,?_⟩;(conv=>whnf);obtain ⟨af4,R6,h⟩:=p9 h;refine ⟨qa.pl,_,r8 R6,?_⟩;(conv=>whnf);obtain ⟨af5,R7,h⟩:=p9 h;refine ⟨qa.pl,_,Hw R7,?_⟩;(conv=>whnf);refine bs h (fun Mg h=>?_) fun Mg h=>?_
     ·rw [Mg];(conv=>whnf);refine bs h (fun Mh h=>?_) fun Mh h=>?_
      ·rw [Mh];(conv=>whnf);exact p8 h jJ rfl rfl
      ·rw [Mh];(conv=>whnf);obtain ⟨af6,R8,h⟩:=p9 h;refine ⟨(p5 rfl rfl),_,IB R8,?_⟩;(conv=>whnf);refine bs h (fun Mi h=>?_) fun Mi h=>?_
       ·rw [Mi];(conv=>whnf);exact p8 h jJ rfl rfl
       ·rw [Mi];(conv=>whnf);obtain ⟨af7,R9,h⟩:=p9 h;refine ⟨(p5 rfl rfl),_,IB R9,?_⟩;(conv=>whnf);refine bs h (fun Mj h=>?_) fun Mj h=>?_
        ·rw [Mj];(conv=>whnf);exact p8 h jJ rfl rfl
        ·rw [Mj];(conv=>whnf);obtain ⟨SA,RS,h⟩:=p9 h;refine ⟨qa.pl,_,IA RS,?_⟩;(conv=>whnf);cases SA
         ·(conv=>whnf);replace h:=rr rfl h;subst rb;refine QN ?_ (by exact ⟨rfl,rfl⟩) h;exact fun T H bE=>jJ T H bE
         ·(conv=>whnf);replace h:=rq rfl h;obtain ⟨af8,RT,h⟩:=p9 h;refine ⟨qa.pl,_,r8 RT,?_⟩;(conv=>whnf);obtain ⟨af9,RU,h⟩:=p9 h;refine ⟨qa.pl,_,Hw RU,?_⟩;(conv=>whnf);refine bs h (fun LW h=>?_) fun LW h=>?_
          ·rw [LW];(conv=>whnf);refine bs h (fun LX h=>?_) fun LX h=>?_
           ·rw [LX];(conv=>whnf);exact p8 h jJ rfl rfl
           ·rw [LX];(conv=>whnf);refine bs h (fun LY h=>?_) fun LY h=>?_
            ·rw [LY];(conv=>whnf);exact p8 h jJ rfl rfl
            ·rw [LY];(conv=>whnf);refine bs h (fun LZ h=>?_) fun LZ h=>?_
             ·rw [LZ];(conv=>whnf);exact p8 h jJ rfl rfl
             ·rw [LZ];(conv=>whnf);refine bs h (fun L0 h=>?_) fun L0 h=>?_
              ·rw [L0];(conv=>whnf);exact p8 h jJ rfl rfl
              ·rw [L0];(conv=>whnf);subst rb;refine QN ?_ (by exact ⟨rfl,rfl⟩) h;exact fun T H bE=>jJ T H bE
          ·rw [LW];(conv=>whnf);exact p8 h jJ rfl rfl
     ·rw [Mg];(conv=>whnf);exact p8 h jJ rfl rfl
end Go.Proofs.YtkoioidpbbbaiaaGreat.Ab


namespace Go.Proofs.YtkoioidpbbbaiaaGreat.Ab
open Go
set_option maxRecDepth 20000
set_option maxHeartbeats 1000000
theorem afU {n a:Nat} (aI:n % 2=1):qO n (fun i=>if i % 2=a then qG n i else 0)=0:=by
 have e:=YL n fun i=>if i % 2=a then qG n i else 0;have b':qO n (fun i=>if (n-1-i) % 2=a then qG n (n-1-i) else 0)=qO n fun i => -1*(if i % 2=a then qG n i else 0):=Kx fun i hi=>by
  have aB:qG n (n-1-i)=-(qG n i):=by unfold qG;omega
  by_cases a_:i % 2=a
  ·rw [if_pos (by omega),if_pos a_,aB];omega
  ·rw [if_neg (by omega),if_neg a_];rfl
 rw [OX] at b';have dA:=e.symm.trans b';omega
theorem afw {S:List qq} {o:List Int} {a:Nat} {f g:qq→Int} {c:Int} (aI:o.length % 2=1) (h:∀ s,g s=f s+c):rh S o a g=rh S o a f:=by
 unfold rh;have e:qO o.length (fun i=>if i % 2=a then qG o.length i*g (qM S o i) else 0)=qO o.length fun i=>(if i % 2=a then qG o.length i*f (qM S o i) else 0)+c*(if i % 2=a then qG o.length i else 0):=Kx fun i _=>by
  by_cases a_:i % 2=a
  ·rw [if_pos a_,if_pos a_,if_pos a_,h];grind
  ·rw [if_neg a_,if_neg a_,if_neg a_];omega
 rw [e,YJ,OX,afU aI];omega
theorem afB {S:List qq} {o:List Int} {a:Nat} {f g:qq→Int} {c:Int} (h:∀ s,g s=c*f s):rh S o a g=c*rh S o a f:=by
 unfold rh;rw [←OX];refine Kx fun i _=>?_;by_cases a_:i % 2=a
 ·rw [if_pos a_,if_pos a_,h];grind
 ·rw [if_neg a_,if_neg a_];omega
def Kt (x y:Int) (s:qq):qq:=(s.1+x,s.2+y)
def JQ (c:Int) (s:qq):qq:=(c*s.1,c*s.2)
theorem afG {c a b:Int} (h:0≤c):max (c*a) (c*b)=c*max a b:=by
 rcases Int.le_total a b with ab | ab
 ·have:=uE ab h;rw [Int.max_eq_right ab,Int.max_eq_right this]
 ·have:=uE ab h;rw [Int.max_eq_left ab,Int.max_eq_left this]
section
variable {p:qf} {o:List Int}
theorem Sr (h:rj p) (k:qu p.1.length o) {x y:Int} (a:Nat) (d:Int):q6 (p.1.map (Kt x y),p.2) o a d=q6 p o a d:=by
 have aI:=h.n;rw [←k.1] at aI;show rh (p.1.map (Kt x y)) o a (q7 d)=rh p.1 o a (q7 d);rw [Sx _ _ (Ho k)];exact afw (c:=x+y*d) (by omega) fun s=>by unfold q7 Kt;simp only;grind
theorem Ss (k:qu p.1.length o) {c:Int} (a:Nat) (d:Int):q6 (p.1.map (JQ c),p.2) o a d=c*q6 p o a d:=by
 show rh (p.1.map (JQ c)) o a (q7 d)=c*rh p.1 o a (q7 d);rw [Sx _ _ (Ho k)];exact afB fun s=>by unfold q7 JQ;simp only;grind
theorem acu (h:rj p) (k:qu p.1.length o) {x y:Int}:qH (p.1.map (Kt x y),p.2) o=qH p o:=by
 unfold qH Hz;simp only [Sr h k]
theorem acw (k:qu p.1.length o) {c:Int} (ak:0≤c):qH (p.1.map (JQ c),p.2) o=c*qH p o:=by
 have n:∀ x:Int,-(c*x)=c*-x:=fun x=>by grind
 unfold qH Hz;simp only [Ss k,n,afG ak]
theorem acv (h:rj p) (k:qu p.1.length o):qH p o≤60000:=by
 have bD:=h.lo;have GO:=h.hi;have hle:=h.le;have bm:=I1 (a:=0) h k (d:=p.2.1) (by omega);have cw:=I1 (a:=1) h k (d:=p.2.1) (by omega);have e2:=I1 (a:=0) h k (d:=p.2.2) (by omega);have lQ:=I1 (a:=1) h k (d:=p.2.2) (by omega);have m:∀ x:Int,-60000≤x∧x≤60000→max x (-x)≤60000:=fun x aj=>by omega
 unfold qH Hz;exact vJ.2 ⟨vJ.2 ⟨m _ bm,m _ cw⟩,vJ.2 ⟨m _ e2,m _ lQ⟩⟩
theorem Wu (h:rj p) {x y t:Int} (aj:0≤x∧x≤255) (aY:0≤y∧y≤255) (ax:0≤t∧t≤255) {K:List qq→List qq→Option Bool}:∀ (m i:Nat),i≤p.1.length→p.1.length-i<m →
  KD p x y t K m (i:Int) ((p.1.take i).map (Kt x (y.tmod 5))) ((p.1.take i).map (JQ (1+t.tmod 4)))=K (p.1.map (Kt x (y.tmod 5))) (p.1.map (JQ (1+t.tmod 4)))
 | 0,_,_,h=>absurd h (by omega)
 | m+1,i,hi,hm=>by
   have aI:=h.len;rw [KD];by_cases aR:i<p.1.length
   ·have da:0≤y.tmod 5:=uF _ aY.1;have db:=uG y (show (0:Int)<5 by omega);have j4:0≤t.tmod 4:=uF _ ax.1;have k5:=uG t (show (0:Int)<4 by omega);have ah:=h.s _ (JD (l:=p.1) (i:=(i:Int)) (by omega));have cw:=ah.1;have e2:=ah.2.1;have lQ:=ah.2.2.1;have U_:=ah.2.2.2;have a7:=Hm (a:=1+t.tmod 4) (b:=(ix p.1 (i:Int)).1) (A:=4) (B:=100) (by omega) (by omega);have a9:=Hm (a:=1+t.tmod 4) (b:=(ix p.1 (i:Int)).2) (A:=4) (B:=10) (by omega) (by omega);rw [if_pos (decide_eq_true (by omega)),qF (by omega),qF (by decide),qF (by simp;omega),qF (by simp;omega),Ik i (by omega),qC (n:=x) (by omega),qC (n:=y.tmod 5) (by omega),qC (n:=t.tmod 4) (by omega),qC (n:=1+t.tmod 4) (by omega),qC (n:=(ix p.1 (i:Int)).1+x) (by omega),qC (n:=(ix p.1 (i:Int)).2+y.tmod 5) (by omega),qC (n:=(1+t.tmod 4)*(ix p.1 (i:Int)).1) (by omega),qC (n:=(1+t.tmod 4)*(ix p.1 (i:Int)).2) (by omega)];have a8:=Wu h aj aY ax (K:=K) m (i+1) (by omega) (by omega);rw [List.take_succ_eq_append_getElem aR,sJ,sJ,←rJ aR] at a8;exact a8
   ·(obtain rfl:i=p.1.length:=by omega);rw [if_neg (by simp),List.take_length]
theorem adX (h:rj p) (k:qu p.1.length o) {t:Int} (ax:0≤t∧t≤255):JK p t (p.1.map (JQ (1+t.tmod 4))) o (HW p,true) (q6 p o 0 p.2.2,q6 p o 1 p.2.2,0)=some true:=by
 have bD:=h.lo;have GO:=h.hi;have hle:=h.le;have j4:0≤t.tmod 4:=uF _ ax.1;have k5:=uG t (show (0:Int)<4 by omega);have e2:=I1 (a:=0) h k (d:=p.2.2) (by omega);have lQ:=I1 (a:=1) h k (d:=p.2.2) (by omega);have U_:HW p≤60000:=acv h (LP p);have abL:0≤HW p:=Vk p (Ib p);unfold JK;rw [O3,sb];simp only;rw [qC (n:=t.tmod 4) (by omega),qC (n:=1+t.tmod 4) (by omega)];obtain ⟨c,ak⟩:∃ c,c=1+t.tmod 4:=⟨_,rfl⟩;rw [←ak];by_cases ad:rz (p.1.map (JQ c),p.2)=0
 ·have ae:=IV.1 ad;have aN:qu (p.1.map (JQ c),p.2).1.length o:=by simpa using k
  have a7:=Hm (a:=c) (b:=HW p) (A:=4) (B:=60000) (by omega) (by omega);have a9:=Hm (a:=c) (b:=q6 p o 0 p.2.2) (A:=4) (B:=60000) (by omega) e2;have bt:=Hm (a:=c) (b:=q6 p o 1 p.2.2) (A:=4) (B:=60000) (by omega) lQ;have e:HW (p.1.map (JQ c),p.2)=c*HW p:=WQ (p:=p) (q:=(p.1.map (JQ c),p.2)) (by simp) (by omega) fun o k=>acw k (by omega);have Od:=TD ae aN (d:=p.2.2) ⟨hle,sQ _⟩;rw [Ss k,Ss k] at Od;rw [if_pos (decide_eq_true ad),NU ae,sb,Od,sb,e];simp only;rw [qC (n:=c*HW p) (by omega),qC (n:=c*q6 p o 0 p.2.2) (by omega),qC (n:=c*q6 p o 1 p.2.2) (by omega),works];simp
 ·rw [if_neg (by simpa using ad),works];rfl
theorem ajo (p:qf) {Q:List Int} (bp:∀ b∈Q,0≤b∧b≤255) {x y t:Int} (ab:0≤x∧x≤255) (ae:0≤y∧y≤255) (aF:0≤t∧t≤255):QH p Q x y t=some true:=by
 unfold QH;rw [O3,sb];by_cases ak:rz p=0
 ·rw [if_pos (decide_eq_true ak)];have h:=IV.1 ak;have bD:=h.lo;have GO:=h.hi;have hle:=h.le;have aI:=h.len;by_cases a_:(20:Int)<(Q.length:Int)
  ·rw [if_pos (decide_eq_true a_),works];rfl
  ·rw [if_neg (by simpa using a_),qF (by decide)];obtain ⟨o,k,aq⟩:=Zn (n:=p.1.length) (by omega) bp (by omega);refine (Wu h ab ae aF qj 0 (by omega) (It (by omega))).trans ?_;have e2:=I1 (a:=0) h k (d:=p.2.2) (by omega);have lQ:=I1 (a:=1) h k (d:=p.2.2) (by omega);have aw:=adX h k aF;rw [aq,sb,NU h,sb,TD h k ⟨hle,sQ _⟩,sb];simp only;rw [if_pos trivial,if_neg (by simp),Zp (by omega),sb,if_neg (by rw [decide_eq_true_eq];omega),Zp (by omega),sb,if_neg (by rw [decide_eq_true_eq];omega),O3,sb];by_cases ad:rz (p.1.map (Kt x (y.tmod 5)),p.2)=0
   ·have dg:=IV.1 ad;(have aN:qu (p.1.map (Kt x (y.tmod 5)),p.2).1.length o:=by simpa using k);have e:HW (p.1.map (Kt x (y.tmod 5)),p.2)=HW p:=WO (p:=p) (q:=(p.1.map (Kt x (y.tmod 5)),p.2)) (by simp) fun o k=>acu h k;have Od:=TD dg aN (d:=p.2.2) ⟨hle,sQ _⟩;rw [Sr h k,Sr h k] at Od;rw [if_pos (decide_eq_true ad),NU dg,sb,Od,sb,e];simp only;rw [if_pos trivial,if_neg (by simp),if_neg (by simp),if_neg (by simp),if_neg (by simp)];exact aw
   ·rw [if_neg (by simpa using ad)];exact aw
 ·rw [if_neg (by simpa using ak),works];rfl
theorem acz (p:qf) {Q:List Int} (bp:∀ b∈Q,0≤b∧b≤255) {x y t:Int} (ab:0≤x∧x≤255) (ae:0≤y∧y≤255) (aF:0≤t∧t≤255):qB 8 [Xd p,.av (Q.map q4) Q.length .shared,q4 x,q4 y,q4 t] (B true):=ajn (ajo p bp ab ae aF)
end
end Go.Proofs.YtkoioidpbbbaiaaGreat.Ab
