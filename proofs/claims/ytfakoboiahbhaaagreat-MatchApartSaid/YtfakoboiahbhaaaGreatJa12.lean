
import Derived.Test.YtfakoboiahbhaaaGreatJa5
import Derived.Test.YtfakoboiahbhaaaGreatJa9
import Derived.Test.YtfakoboiahbhaaaGreatJa11
import Derived.KernelRfl
import Derived.Test.YtfakoboiahbhaaaGreatJa10
set_option linter.unusedSimpArgs false
set_option linter.unusedVariables false
set_option linter.unusedSectionVars false

open Bool renaming eq_iff_iff→vR
open Int renaming add_sub_cancel→u5
open List renaming filter_congr→wy,length_append→sr,length_map→sX,map_append→s_,map_congr_left→tz,map_map→tp,mem_append→sN,mem_map→sk,pairwise_append→uC,pairwise_map→tW
open Option renaming bind_some→sc
namespace Go.Proofs.YtfakoboiahbhaaaGreat.Ab
open Go
set_option maxRecDepth 60000
set_option maxHeartbeats 4000000
noncomputable def QW:fT :=
 .loop (some (p_ false [2,2,1,2,189])) (.seq (pY [pZ 62 6,GC 63 [.sl 3] (.yG 1),qc 64 63,qM 65 64,qI 66 62 65 .lss] (.cond (.sl 66) .skip (.exit 0))) (.seq (.block 1 (Hi [GC 69 [.sl 5] (.yG 1),GC 70 [.Bs 69] .take,GC 71 [.sl 3] (.yG 1),qc 72 71,pZ 73 6,qL 74 72 73 2,qF 75 74 0,qc 76 75,GC 77 [.sl 2] (.yG 0),qc 78 77,qI 79 76 78 .add,GC 80 [.sl 3] (.yG 1),qc 81 80,pZ 82 6,qL 83 81 82 2,qF 84 83 1,qc 85 84,GC 86 [.sl 2] (.yG 0),qc 87 86,qI 88 85 87 .add,GC 89 [.Bs 79,.Bs 88] (.build [.int .i64 0,.int .i64 0] [(0,1),(1,1)]),GC 90 [.Bs 89] (.yu 1 2 [.int .i64 0,.int .i64 0] [0]),GC 91 [.jf 70,.jf 90] (.app 2 16),GC 92 [.sl 5] (.yG 1),⟨none,[.jf 92,.jf 91],none,none,.st 1⟩])) (qv [pX 67 6,qE 68 67 1,pX 6 68])))
noncomputable def ZR:fT :=
 pY [GC 2 [.jf 0] .box,GC 3 [.jf 1] .box,GC 4 [.lR (.bool false)] .mN] (.seq (pY [GC 25 [.sl 2] (.zx (.str 2)),GC 26 [.lR (.func 47 [] []),.sl 25] (.call 3),GC 27 [.Bs 26] (.un .not),pX 28 27,cR 29 [.sl 3] 28 false (.zx (.str 2)),⟨some 30,[.lR (.func 47 [] []),.sl 29],some (28,false),none,.call 3⟩,cR 31 [.Bs 30] 28 false (.un .not),GC 32 [.Bs 28,.lR (.bool true),.Bs 31] .pick,pX 33 32,cR 34 [.sl 2] 33 false (.yG 0),cR 35 [.Bs 34] 33 false (.zx .one),cR 36 [.sl 3] 33 false (.yG 0),cR 37 [.Bs 36] 33 false (.zx .one),cR 38 [.Bs 35,.Bs 37] 33 false (.bin .add),cR 39 [.Bs 38,.lR (.int .i64 6)] 33 false (.bin .gtr),GC 40 [.Bs 33,.lR (.bool true),.Bs 39] .pick,pX 41 40,cR 42 [.sl 2] 41 false (.yG 1),cR 43 [.Bs 42] 41 false (.zx .one),cR 44 [.jf 43] 41 false .zC,cR 45 [.sl 3] 41 false (.yG 1),cR 46 [.Bs 45] 41 false (.zx .one),cR 47 [.jf 46] 41 false .zC,cR 48 [.Bs 44,.Bs 47] 41 false (.bin .add),cR 49 [.Bs 48,.lR (.int .i64 10)] 41 false (.bin .gtr),GC 50 [.Bs 41,.lR (.bool true),.Bs 49] .pick] (.cond (.sl 50) (pY [GC 51 [.lR (.func 17 [] [])] (.call 3),pX 4 51] .ret) .skip)) (.seq (Hi [GC 52 [.sl 2] (.yG 0),qc 53 52,GC 54 [.sl 3] (.yG 0),qc 55 54,qI 56 53 55 .add,GC 57 [] (.yu 0 2 [.int .i64 0,.int .i64 0] []),GC 58 [.sl 2] (.yG 1),qc 59 58,GC 60 [.jf 57,.jf 59] (.app 2 16),GC 61 [.jf 56,.jf 60] (.yt 1 [.int .i64 0,.ax [] 0 .full] [(0,1),(1,1)]),GC 5 [] (.alloc [.int .i64 0,.ax [] 0 .full]),⟨none,[.sl 5,.jf 61],none,none,.Bi 2⟩]) (.seq (pY [qa 6 0] (.block 0 QW)) (pY [GC 94 [.sl 2] (.zx (.str 2)),GC 95 [.lR (.func 48 [] []),.sl 94] (.call 3),pX 93 95,rA 96 93 0,GC 97 [.Bs 93] (.ext 1),pX 7 96,pX 8 97] (pY [GC 99 [.sl 3] (.zx (.str 2)),GC 100 [.lR (.func 48 [] []),.sl 99] (.call 3),pX 98 100,rA 101 98 0,GC 102 [.Bs 98] (.ext 1),pX 9 101,pX 10 102] (pY [GC 104 [.sl 5] (.zx (.str 2)),GC 105 [.lR (.func 48 [] []),.sl 104] (.call 3),pX 103 105,rA 106 103 0,GC 107 [.Bs 103] (.ext 1),pX 11 106,pX 12 107] (pY [GC 109 [.sl 2] (.zx (.str 2)),GC 110 [.lR (.func 49 [] []),.sl 109] (.call 3),pX 108 110,rA 111 108 0,GC 112 [.Bs 108] (.ext 1),pX 13 111,pX 14 112] (pY [GC 114 [.sl 3] (.zx (.str 2)),GC 115 [.lR (.func 49 [] []),.sl 114] (.call 3),pX 113 115,rA 116 113 0,GC 117 [.Bs 113] (.ext 1),pX 15 116,pX 16 117] (pY [GC 119 [.sl 5] (.zx (.str 2)),GC 120 [.lR (.func 49 [] []),.sl 119] (.call 3),pX 118 120,rA 121 118 0,GC 122 [.Bs 118] (.ext 1),pX 17 121,pX 18 122] (pY [GC 124 [.Bs 2] (.zx (.str 2)),GC 125 [.lR (.func 31 [] []),.sl 124] (.call 3),pX 123 125,rA 126 123 0,GC 127 [.Bs 123] (.ext 1),pX 19 126,pX 20 127] (pY [GC 129 [.Bs 3] (.zx (.str 2)),GC 130 [.lR (.func 31 [] []),.sl 129] (.call 3),pX 128 130,rA 131 128 0,GC 132 [.Bs 128] (.ext 1),pX 21 131,pX 22 132] (pY [GC 134 [.Bs 5] (.zx (.str 2)),GC 135 [.lR (.func 31 [] []),.sl 134] (.call 3),pX 133 135,rA 136 133 0,GC 137 [.Bs 133] (.ext 1),pX 23 136,pX 24 137] (pY [pX 138 8,pX 139 138,cR 140 [.jf 10] 139 true .mN,GC 141 [.Bs 139,.Bs 140,.lR (.bool false)] .pick,pX 142 141,cR 143 [.jf 12] 142 true .mN,GC 144 [.Bs 142,.Bs 143,.lR (.bool false)] .pick,pX 145 144,cR 146 [.jf 11] 145 true .mN,cR 147 [.jf 7] 145 true .mN,cR 148 [.jf 9] 145 true .mN,cR 149 [.Bs 147,.Bs 148] 145 true (.bin .add),cR 150 [.Bs 146,.Bs 149] 145 true (.bin .eql),GC 151 [.Bs 145,.Bs 150,.lR (.bool false)] .pick,pX 152 151,cR 153 [.jf 14] 152 true .mN,GC 154 [.Bs 152,.Bs 153,.lR (.bool false)] .pick,pX 155 154,cR 156 [.jf 16] 155 true .mN,GC 157 [.Bs 155,.Bs 156,.lR (.bool false)] .pick,pX 158 157,cR 159 [.jf 18] 158 true .mN,GC 160 [.Bs 158,.Bs 159,.lR (.bool false)] .pick,pX 161 160,cR 162 [.jf 17] 161 true .mN,cR 163 [.jf 162] 161 true .zC,cR 164 [.jf 13] 161 true .mN,cR 165 [.jf 164] 161 true .zC,cR 166 [.jf 15] 161 true .mN,cR 167 [.jf 166] 161 true .zC,cR 168 [.Bs 165,.Bs 167] 161 true (.bin .add),cR 169 [.Bs 163,.Bs 168] 161 true (.bin .eql),GC 170 [.Bs 161,.Bs 169,.lR (.bool false)] .pick,pX 171 170,cR 172 [.jf 20] 171 true .mN,cR 173 [.Bs 172,.lR (.int .i64 0)] 171 true (.bin .eql),GC 174 [.Bs 171,.Bs 173,.lR (.bool false)] .pick,pX 175 174,cR 176 [.jf 22] 175 true .mN,cR 177 [.Bs 176,.lR (.int .i64 0)] 175 true (.bin .eql),GC 178 [.Bs 175,.Bs 177,.lR (.bool false)] .pick,pX 179 178,cR 180 [.jf 24] 179 true .mN,cR 181 [.Bs 180,.lR (.int .i64 0)] 179 true (.bin .eql),GC 182 [.Bs 179,.Bs 181,.lR (.bool false)] .pick,pX 183 182,cR 184 [.jf 23] 183 true .mN,cR 185 [.jf 184] 183 true .zC,cR 186 [.jf 19] 183 true .mN,cR 187 [.jf 186] 183 true .zC,cR 188 [.jf 21] 183 true .mN,cR 189 [.jf 188] 183 true .zC,cR 190 [.Bs 187,.Bs 189] 183 true (.bin .add),cR 191 [.Bs 185,.Bs 190] 183 true (.bin .eql),GC 192 [.Bs 183,.Bs 191,.lR (.bool false)] .pick,pX 193 192,⟨some 194,[.lR (.func 17 [] [])],some (193,true),none,.call 3⟩,GC 195 [.Bs 193,.Bs 194,.lR (.bool false)] .pick,pX 4 195] .ret)))))))))))))
theorem aeP:zD Tryz.prog Rs 14=some (ZR,196,[.tmp 4]):=by kernel_rfl
def Mp (a b:qe) (qb:qk→Option Bool):Nat→Int→qk→Option Bool
 | 0,_,_=>none
 | m+1,s1,s2 =>
   if (decide (s1<(b.2.length:Int)))=true then
    p9 (0≤s1∧s1<(b.2.length:Int)) <|
    p9 (0≤s1∧s1<(b.2.length:Int)) <|
    p9 ((s2.length+1)*16≤140737488355328) <|
    Mp a b qb m (w (s1+(1:Int))) (s2++[((w ((ix b.2 s1).1+a.1)),(w ((ix b.2 s1).2+a.1)))])
   else
    qb s2
def QE (a b:qe):Option Bool :=
 (NA a).bind fun r1 =>
 if r1=true then
  (NA b).bind fun r2 =>
  if r2=true then
   if (decide ((6:Int)<(w (a.1+b.1))))=true then
    (JC).bind fun eI =>
    some eI
   else
    if (decide ((10:Int)<(w ((a.2.length:Int)+(b.2.length:Int)))))=true then
     (JC).bind fun qR =>
     some qR
    else
     p9 ((([]:List (Int×Int)).length+a.2.length)*16≤140737488355328) <|
     Mp a b (fun yg =>
       (IY a).bind fun q6 =>
       (IY b).bind fun HH =>
       (IY ((w (a.1+b.1)),yg)).bind fun HR =>
       (IZ a).bind fun Jd =>
       (IZ b).bind fun J0 =>
       (IZ ((w (a.1+b.1)),yg)).bind fun HA =>
       (IX a).bind fun Jc =>
       (IX b).bind fun JZ =>
       (IX ((w (a.1+b.1)),yg)).bind fun KV =>
       if q6.2=true then
        if HH.2=true then
         if HR.2=true then
          if (decide (HR.1=(w (q6.1+HH.1))))=true then
           if Jd.2=true then
            if J0.2=true then
             if HA.2=true then
              if (decide ((HA.1.length:Int)=(w ((Jd.1.length:Int)+(J0.1.length:Int)))))=true then
               if (decide (Jc.2=(0:Int)))=true then
                if (decide (JZ.2=(0:Int)))=true then
                 if (decide (KV.2=(0:Int)))=true then
                  if (decide ((KV.1.length:Int)=(w ((Jc.1.length:Int)+(JZ.1.length:Int)))))=true then
                   (JC).bind fun Qc =>
                   some Qc
                  else
                   some false
                 else
                  some false
                else
                 some false
               else
                some false
              else
               some false
             else
              some false
            else
             some false
           else
            some false
          else
           some false
         else
          some false
        else
         some false
       else
        some false) p' (0:Int) (([]:List (Int×Int))++a.2)
  else
   (JC).bind fun Xi =>
   some Xi
 else
  (JC).bind fun Xj =>
  some Xj
theorem aiK {a:qe} {b:qe} {qb:qk→Option Bool} {s1:Int} {s2:qk} {v:Bool} {Q:rM}   (rI:∀ (yg:qk) (p8:List I),qb yg=some v→rn 196 [(2,(.ptr 0 0)),(3,(.ptr 1 0)),(5,(.ptr 2 0))] p8→Q (.exit 0) p8 [Hq a,Hq b,ar.cells [(hU (w (a.1+b.1))),(p6 yg (.own 2))]]) {T:List I} (bW:eX (p_ false [2,2,1,2,189]) T=Hc 196 [(2,(.ptr 0 0)),(3,(.ptr 1 0)),(5,(.ptr 2 0)),(6,(hU s1))]) (h:Mp a b qb p' s1 s2=some v) :
  dO Tryz.prog Rs 14 0 none QW T [Hq a,Hq b,ar.cells [(hU (w (a.1+b.1))),(p6 s2 (.own 2))]] Q:=by
 unfold QW;refine wp_loop bW ?_;refine .intro (fun m T H=>∃ (s1:Int) (s2:qk),T=Hc 196 [(2,(.ptr 0 0)),(3,(.ptr 1 0)),(5,(.ptr 2 0)),(6,(hU s1))]∧H=[Hq a,Hq b,ar.cells [(hU (w (a.1+b.1))),(p6 s2 (.own 2))]]∧Mp a b qb m s1 s2=some v) p' ⟨s1,s2,rfl,rfl,h⟩ ?_;clear h bW;rintro m T H ⟨s1,s2,rfl,rfl,h⟩;cases m
 ·exact ri h
 rename_i m;rw [Mp.eq_2] at h;conv=>whnf
 refine bs h (fun q_ h=>?_) fun q_ h=>?_
 ·rw [q_];conv=>whnf
  refine qs h id fun rp h=>?_;rw [q' p2 2 qy b.2 s1 rp];conv=>whnf
  refine qs h id fun qP h=>?_;rw [q' p2 2 qy b.2 s1 qP];conv=>whnf
  obtain ⟨rO,h⟩:=qB h;refine ⟨by first | rfl | (simp;done) | exact Im p2 _ qy _,by have:=rO;omega,rfl,rO,?_⟩
  erw [LW p2 s2 ((w ((ix b.2 s1).1+a.1)),(w ((ix b.2 s1).2+a.1)))];conv=>whnf
  exact ⟨m,Nat.lt_succ_self m,(w (s1+(1:Int))),(s2++[((w ((ix b.2 s1).1+a.1)),(w ((ix b.2 s1).2+a.1)))]),rfl,rfl,h⟩
 ·rw [q_];conv=>whnf
  exact rI _ _ h ⟨rfl,rfl⟩
theorem aiL {a:qe} {b:qe} {v:Bool} (h:QE a b=some v):qw 14 [(.agg [(hU a.1),(.ax (a.2.flatMap p2) a.2.length .shared)]),(.agg [(hU b.1),(.ax (b.2.flatMap p2) b.2.length .shared)])] (B v):=by
 refine q7 eo aeP rfl rfl fun Q bo=>?_;have jB:qK [.tmp 4] Q (fun v=>(B v)) v:=fun T H bH=>bo _ T H bH;unfold QE at h;unfold ZR;obtain ⟨HV,qO⟩:∃ c,QW=c:=⟨_,rfl⟩;rw [qO];conv=>whnf
 obtain ⟨r1,gD,h⟩:=qj h;refine ⟨ql.pl,_,Zc gD,?_⟩;conv=>whnf
 cases r1
 ·conv=>whnf
  replace h:=HX rfl h;obtain ⟨Xj,adn,h⟩:=qj h;refine ⟨rfl,_,OV adn,?_⟩;conv=>whnf
  exact qd h jB rfl rfl
 ·conv=>whnf
  replace h:=HY rfl h;obtain ⟨r2,gE,h⟩:=qj h;refine ⟨ql.pl,_,Zc gE,?_⟩;conv=>whnf
  cases r2
  ·(conv=>whnf);replace h:=HX rfl h;obtain ⟨Xi,adm,h⟩:=qj h;refine ⟨rfl,_,OV adm,?_⟩;(conv=>whnf);exact qd h jB rfl rfl
  ·(conv=>whnf);replace h:=HY rfl h;refine bs h (fun qo h=>?_) fun qo h=>?_
   ·rw [qo];(conv=>whnf);obtain ⟨eI,qS,h⟩:=qj h;refine ⟨rfl,_,OV qS,?_⟩;(conv=>whnf);exact qd h jB rfl rfl
   ·rw [qo];(conv=>whnf);refine bs h (fun qY h=>?_) fun qY h=>?_
    ·rw [qY];(conv=>whnf);obtain ⟨qR,rJ,h⟩:=qj h;refine ⟨rfl,_,OV rJ,?_⟩;(conv=>whnf);exact qd h jB rfl rfl
    ·rw [qY];(conv=>whnf);obtain ⟨ra,h⟩:=qB h;refine ⟨by first | rfl | (simp;done) | exact Im p2 _ qy _,by have:=ra;omega,rfl,ra,?_⟩
     erw [RA p2 ([]:List (Int×Int)) a.2];(conv=>whnf);subst qO;refine aiK ?_ (by exact rfl) h;intro yg p8 h qm;obtain ⟨rf,rfl⟩:=qm.ex;(conv=>whnf);obtain ⟨q6,rz,h⟩:=qj h;refine ⟨ql.pl,_,Uk rz,?_⟩;(conv=>whnf);obtain ⟨HH,rC,h⟩:=qj h;refine ⟨ql.pl,_,Uk rC,?_⟩;(conv=>whnf);obtain ⟨HR,r4,h⟩:=qj h;refine ⟨ql.pl,_,Uk r4,?_⟩;(conv=>whnf);obtain ⟨Jd,I8,h⟩:=qj h;refine ⟨ql.pl,_,Um I8,?_⟩;(conv=>whnf);obtain ⟨J0,Hz,h⟩:=qj h;refine ⟨ql.pl,_,Um Hz,?_⟩;(conv=>whnf);obtain ⟨HA,I9,h⟩:=qj h;refine ⟨ql.pl,_,Um I9,?_⟩;(conv=>whnf);obtain ⟨Jc,Hr,h⟩:=qj h;refine ⟨ql.pl,_,Ui Hr,?_⟩;(conv=>whnf);obtain ⟨JZ,Jv,h⟩:=qj h;refine ⟨ql.pl,_,Ui Jv,?_⟩;(conv=>whnf);obtain ⟨KV,Is,h⟩:=qj h;refine ⟨ql.pl,_,Ui Is,?_⟩;(conv=>whnf);refine bs h (fun Kd h=>?_) fun Kd h=>?_
     ·rw [Kd];(conv=>whnf);refine bs h (fun Jw h=>?_) fun Jw h=>?_
      ·rw [Jw];(conv=>whnf);refine bs h (fun IK h=>?_) fun IK h=>?_
       ·rw [IK];(conv=>whnf);refine bs h (fun JO h=>?_) fun JO h=>?_
        ·rw [JO];(conv=>whnf);refine bs h (fun JP h=>?_) fun JP h=>?_
         ·rw [JP];(conv=>whnf);refine bs h (fun IL h=>?_) fun IL h=>?_
          ·rw [IL];(conv=>whnf);refine bs h (fun KL h=>?_) fun KL h=>?_
           ·rw [KL];(conv=>whnf);refine bs h (fun Og h=>?_) fun Og h=>?_
            ·rw [Og];(conv=>whnf);refine bs h (fun Oh h=>?_) fun Oh h=>?_
             ·rw [Oh];(conv=>whnf);refine bs h (fun L7 h=>?_) fun L7 h=>?_
              ·rw [L7];(conv=>whnf);refine bs h (fun Oi h=>?_) fun Oi h=>?_
               ·rw [Oi];(conv=>whnf);refine bs h (fun Oj h=>?_) fun Oj h=>?_
                ·rw [Oj];(conv=>whnf);obtain ⟨Qc,Sc,h⟩:=qj h;refine ⟨rfl,_,OV Sc,?_⟩;(conv=>whnf);exact qd h jB rfl rfl
                ·rw [Oj];(conv=>whnf);exact qd h jB rfl rfl
               ·rw [Oi];(conv=>whnf);exact qd h jB rfl rfl
              ·rw [L7];(conv=>whnf);exact qd h jB rfl rfl
             ·rw [Oh];(conv=>whnf);exact qd h jB rfl rfl
            ·rw [Og];(conv=>whnf);exact qd h jB rfl rfl
           ·rw [KL];(conv=>whnf);exact qd h jB rfl rfl
          ·rw [IL];(conv=>whnf);exact qd h jB rfl rfl
         ·rw [JP];(conv=>whnf);exact qd h jB rfl rfl
        ·rw [JO];(conv=>whnf);exact qd h jB rfl rfl
       ·rw [IK];(conv=>whnf);exact qd h jB rfl rfl
      ·rw [Jw];(conv=>whnf);exact qd h jB rfl rfl
     ·rw [Kd];(conv=>whnf);exact qd h jB rfl rfl
end Go.Proofs.YtfakoboiahbhaaaGreat.Ab


namespace Go.Proofs.YtfakoboiahbhaaaGreat.Ab
open Go
theorem abM {α:Type} {l m n:List α} {k:Nat} (e:n=l++m) (av:k<m.length) (h:l.length+k<n.length):n[l.length+k]=m[k]:=by
 subst e;rw [List.getElem_append_right (by omega)];congr 1;omega
end Go.Proofs.YtfakoboiahbhaaaGreat.Ab


namespace Go.Proofs.YtfakoboiahbhaaaGreat.Ab
open Go
def Jg (d:Int) (s:Int×Int):Int×Int:=(s.1+d,s.2+d)
def qW (a b:p5):p5:=(a.1+b.1,a.2++b.2.map (Jg a.1))
def Jf (d:Int) (r:List Int):List Int:=r.map fun x=>x+d
section
variable {a b:p5}
theorem I3:(qW a b).2.length=a.2.length+b.2.length:=by simp [qW]
theorem Pw {i:Int} (hi:0≤i∧i<(a.2.length:Int)):ix (qW a b).2 i=ix a.2 i:=by
 obtain ⟨k,rfl⟩:∃ k:Nat,i=k:=⟨i.toNat,by omega⟩;have av:k<a.2.length:=by omega
 rw [q3 av,q3 (show k<(qW a b).2.length by rw [I3];omega)];exact List.getElem_append_left av
theorem Pv {i:Int} (hi:0≤i∧i<(b.2.length:Int)):ix (qW a b).2 (i+(a.2.length:Int))=Jg a.1 (ix b.2 i):=by
 obtain ⟨k,rfl⟩:∃ k:Nat,i=k:=⟨i.toNat,by omega⟩;have av:k<b.2.length:=by omega
 rw [show (k:Int)+(a.2.length:Int)=((k+a.2.length:Nat):Int) by omega,q3 av,q3 (show k+a.2.length<(qW a b).2.length by rw [I3];omega)];have af:a.2.length+k<(qW a b).2.length:=by rw [I3];omega
 have this:(qW a b).2[k+a.2.length]'(by rw [I3];omega)=(b.2.map (Jg a.1))[k]'(by simpa using av):=by
  rw [←abM (l:=a.2) (m:=b.2.map (Jg a.1)) (n:=(qW a b).2) rfl (by simpa using av) af];congr 1;omega
 rw [this,List.getElem_map]
theorem I5 {c:p5} (bu:qA c) {i f:Int} (hi:0≤i∧i<(c.2.length:Int)) (h:qC c i f):0≤f∧f<c.1:=by
 obtain ⟨k,rfl⟩:∃ k:Nat,i=k:=⟨i.toNat,by omega⟩;have:=J2 bu (i:=k) (by omega);rcases h with rfl | rfl <;> omega
theorem Kb {i f:Int} (hi:0≤i∧i<(a.2.length:Int)):qC (qW a b) i f↔qC a i f:=by
 unfold qC;rw [Pw hi]
theorem Ka {i f:Int} (hi:0≤i∧i<(b.2.length:Int)):qC (qW a b) (i+(a.2.length:Int)) f↔qC b i (f-a.1):=by
 unfold qC;rw [Pv hi];unfold Jg;simp only;omega
variable (aL:qA a) (p3:qA b)
include aL p3
theorem RH (bS:a.1+b.1≤6) (di:a.2.length+b.2.length≤10):qA (qW a b):=by
 refine HU.1 ?_;unfold q4;have cb:=aL.f1;have ag:=p3.f1;have ao:=I3 (a:=a) (b:=b);rw [if_neg (by show ¬ (a.1+b.1<1∨6<a.1+b.1∨_);omega),if_neg];intro h;obtain ⟨s,ai,cB⟩:=List.any_eq_true.1 h;obtain ⟨i,hi,rfl⟩:=List.getElem_of_mem ai;rw [←q3 hi] at cB;have aj:0≤(ix (qW a b).2 (i:Int)).1∧(ix (qW a b).2 (i:Int)).1<a.1+b.1∧0≤(ix (qW a b).2 (i:Int)).2∧(ix (qW a b).2 (i:Int)).2<a.1+b.1:=by
  by_cases KN:i<a.2.length
  ·rw [Pw (b:=b) ⟨by omega,by omega⟩];have:=J2 aL KN;omega
  ·(have e:(i:Int)=((i-a.2.length:Nat):Int)+(a.2.length:Int):=by omega);rw [e,Pv ⟨by omega,by omega⟩];have:=J2 p3 (i:=i-a.2.length) (by omega);unfold Jg;simp only;omega
 unfold IV at cB;simp only [Bool.or_eq_true,M8] at cB
 have:(qW a b).1=a.1+b.1:=rfl
 omega
theorem aco {S S':List Int} (cl:∀ x∈S,0≤x∧x<((qW a b).2.length:Int)) (pc:∀ i,0≤i→i<(a.2.length:Int)→i∈S→i∈S') {f g:Int} (aP:f<a.1) (h:qT (qW a b) S f g):g<a.1∧qT a S' f g:=by
 induction h with
 | refl=>exact ⟨aP,.refl⟩
 | step i _ hi aC aI a9 =>
   have aj:=cl i hi;rw [I3] at aj;by_cases KN:i<(a.2.length:Int)
   ·rw [Kb ⟨aj.1,KN⟩] at aC aI;exact ⟨(I5 aL ⟨aj.1,KN⟩ aI).2,.step i a9.2 (pc i aj.1 KN hi) aC aI⟩
   ·exfalso;(have e:i=(i-(a.2.length:Int))+(a.2.length:Int):=by omega);rw [e,Ka ⟨by omega,by omega⟩] at aC;have:=I5 p3 ⟨by omega,by omega⟩ aC;omega
theorem acn {S S':List Int} (cl:∀ x∈S,0≤x∧x<((qW a b).2.length:Int)) (pc:∀ i,0≤i→i+(a.2.length:Int)∈S→i∈S') {f g:Int} (aP:a.1≤f) (h:qT (qW a b) S f g):a.1≤g∧qT b S' (f-a.1) (g-a.1):=by
 induction h with
 | refl=>exact ⟨aP,.refl⟩
 | step i _ hi aC aI a9 =>
   have aj:=cl i hi;rw [I3] at aj;by_cases KN:i<(a.2.length:Int)
   ·exfalso;rw [Kb ⟨aj.1,KN⟩] at aC;have:=I5 aL ⟨aj.1,KN⟩ aC;omega
   ·(have e:i=(i-(a.2.length:Int))+(a.2.length:Int):=by omega);rw [e] at aC aI hi;rw [Ka ⟨by omega,by omega⟩] at aC aI;have:=I5 p3 ⟨by omega,by omega⟩ aI;exact ⟨by omega,.step _ a9.2 (pc _ (by omega) hi) aC aI⟩
omit aL p3 in
theorem VF {S S':List Int} (cl:∀ i∈S',(0≤i∧i<(a.2.length:Int))∧i∈S) {f g:Int} (h:qT a S' f g):qT (qW a b) S f g:=by
 induction h with
 | refl=>exact .refl
 | step i _ hi aC aI a9=>exact .step i a9 (cl i hi).2 ((Kb (cl i hi).1).2 aC) ((Kb (cl i hi).1).2 aI)
omit aL p3 in
theorem VE {S S':List Int} (cl:∀ i∈S',(0≤i∧i<(b.2.length:Int))∧i+(a.2.length:Int)∈S) {f g:Int} (h:qT b S' f g):qT (qW a b) S (f+a.1) (g+a.1):=by
 induction h with
 | refl=>exact .refl
 | step i _ hi aC aI a9 =>
   refine .step _ a9 (cl i hi).2 ((Ka (cl i hi).1).2 ?_) ((Ka (cl i hi).1).2 ?_)
   ·rw [u5];exact aC
   ·rw [u5];exact aI
omit aL p3 in
theorem Ja {d x:Int} {r:List Int}:x∈Jf d r↔x-d∈r:=by
 unfold Jf;rw [sk];constructor
 ·rintro ⟨y,aY,rfl⟩;rw [u5];exact aY
 ·intro h;exact ⟨_,h,by omega⟩
omit aL p3 in
theorem TY {d:Int} {r:List Int} (h:r≠[]):ix (Jf d r) 0=ix r 0+d:=by
 cases r with
 | nil=>exact absurd rfl h
 | cons x r=>rfl
theorem W_ (bS:a.1+b.1≤6) (di:a.2.length+b.2.length≤10):parts (qW a b)=parts a++(parts b).map (Jf (a.2.length:Int)):=by
 have H_:=RH aL p3 bS di;obtain ⟨_,ac7,adB⟩:=J7 H_;obtain ⟨_,KI,adz⟩:=J7 aL;obtain ⟨_,Ju,adA⟩:=J7 p3;have KP:∀ r∈parts a,∀ x∈r,0≤x∧x<(a.2.length:Int):=fun r aj x ak=>rq.1 ((KI.mem x).2 ⟨r,aj,ak⟩);have KQ:∀ r∈parts b,∀ x∈r,0≤x∧x<(b.2.length:Int):=fun r aj x ak=>rq.1 ((Ju.mem x).2 ⟨r,aj,ak⟩);have Jp:=I3 (a:=a) (b:=b);have CD:rb (qW a b) (upto (qW a b).2.length) (parts a++(parts b).map (Jf (a.2.length:Int))):=by
  refine ⟨fun r aj=>?_,fun r aj=>?_,fun x=>?_,?_,fun r aj x ak y aY f g aP aO=>?_,fun r aj q aZ x ak y aY f aP aO=>?_⟩
  ·rcases sN.1 aj with aj | aj
   ·exact KI.ne r aj
   ·obtain ⟨q,aZ,rfl⟩:=sk.1 aj;intro e;exact Ju.ne q aZ (List.map_eq_nil_iff.1 e)
  ·rcases sN.1 aj with aj | aj
   ·exact KI.so r aj
   ·obtain ⟨q,aZ,rfl⟩:=sk.1 aj;exact tW.2 ((Ju.so q aZ).imp fun h=>by omega)
  ·rw [rq,Jp];constructor
   ·rintro ⟨ad,af⟩;by_cases ak:x<(a.2.length:Int)
    ·obtain ⟨r,aj,HL⟩:=(KI.mem x).1 (rq.2 ⟨ad,ak⟩);exact ⟨r,List.mem_append_left _ aj,HL⟩
    ·obtain ⟨r,aj,HL⟩:=(Ju.mem (x-(a.2.length:Int))).1 (rq.2 ⟨by omega,by omega⟩);exact ⟨_,List.mem_append_right _ (List.mem_map_of_mem aj),Ja.2 HL⟩
   ·rintro ⟨r,aj,HL⟩;rcases sN.1 aj with aj | aj
    ·have:=KP r aj x HL;omega
    ·obtain ⟨q,aZ,rfl⟩:=sk.1 aj;have:=KQ q aZ _ (Ja.1 HL);omega
  ·refine uC.2 ⟨KI.rk,tW.2 (Ju.rk.imp fun h x ak JW=>h _ (Ja.1 ak) (Ja.1 JW)),fun r aj q aZ x ak JW=>?_⟩;obtain ⟨fQ,Dn,rfl⟩:=sk.1 aZ;have:=KP r aj x ak;have:=KQ fQ Dn _ (Ja.1 JW);omega
  ·rcases sN.1 aj with aj | aj
   ·have nQ:=KP r aj x ak;have IP:=KP r aj y aY;refine VF (fun i hi=>?_) (KI.H8 r aj x ak y aY f g ((Kb nQ).1 aP) ((Kb IP).1 aO));have:=rq.1 hi;exact ⟨this,rq.2 ⟨this.1,by rw [Jp];omega⟩⟩
   ·obtain ⟨q,aZ,rfl⟩:=sk.1 aj;have xc:=Ja.1 ak;have Wt:=Ja.1 aY;have nQ:=KQ q aZ _ xc;have IP:=KQ q aZ _ Wt;rw [show x=(x-(a.2.length:Int))+(a.2.length:Int) by omega,Ka nQ] at aP;rw [show y=(y-(a.2.length:Int))+(a.2.length:Int) by omega,Ka IP] at aO;have:=VE (a:=a) (S:=upto (qW a b).2.length) (fun i hi=>?_) (Ju.H8 q aZ _ xc _ Wt _ _ aP aO)
    ·rwa [Int.sub_add_cancel,Int.sub_add_cancel] at this
    ·have:=rq.1 hi;exact ⟨this,rq.2 ⟨by omega,by rw [Jp];omega⟩⟩
  ·rcases sN.1 aj with aj | aj
   ·have nQ:=KP r aj x ak;rw [Kb nQ] at aP;rcases sN.1 aZ with aZ | aZ
    ·have IP:=KP q aZ y aY;exact KI.sep r aj q aZ x ak y aY f aP ((Kb IP).1 aO)
    ·obtain ⟨fQ,Dn,rfl⟩:=sk.1 aZ;have IP:=KQ fQ Dn _ (Ja.1 aY);rw [show y=(y-(a.2.length:Int))+(a.2.length:Int) by omega,Ka IP] at aO;have:=I5 aL nQ aP;have:=I5 p3 IP aO;omega
   ·obtain ⟨r',nJ,rfl⟩:=sk.1 aj;have nQ:=KQ r' nJ _ (Ja.1 ak);rw [show x=(x-(a.2.length:Int))+(a.2.length:Int) by omega,Ka nQ] at aP;rcases sN.1 aZ with aZ | aZ
    ·have IP:=KP q aZ y aY;rw [Kb IP] at aO;have:=I5 aL IP aO;have:=I5 p3 nQ aP;omega
    ·obtain ⟨fQ,Dn,rfl⟩:=sk.1 aZ;have IP:=KQ fQ Dn _ (Ja.1 aY);rw [show y=(y-(a.2.length:Int))+(a.2.length:Int) by omega,Ka IP] at aO;rw [Ju.sep r' nJ fQ Dn _ (Ja.1 ak) _ (Ja.1 aY) _ aP aO]
 refine (ac7.same CD adB ?_);refine uC.2 ⟨adz,tW.2 (List.Pairwise.imp_of_mem (fun {r q} aj aZ h=>?_) adA),fun r aj q aZ=>?_⟩
 ·rw [TY (Ju.ne r aj),TY (Ju.ne q aZ)];omega
 ·obtain ⟨fQ,Dn,rfl⟩:=sk.1 aZ;rw [TY (Ju.ne fQ Dn)];have:=KP r aj _ (head_mem (KI.ne r aj));have:=KQ fQ Dn _ (head_mem (Ju.ne fQ Dn));omega
omit aL p3 in
theorem acE {S:List Int} (cl:∀ x∈S,0≤x∧x<(a.2.length:Int)) (f:Int):qQ (qW a b) S f=qQ a S f:=by
 unfold qQ;refine congrArg List.sum (tz fun x ak=>?_);rw [Pw (cl x ak)]
omit aL p3 in
theorem acD {S:List Int} (cl:∀ x∈S,0≤x∧x<(b.2.length:Int)) (f:Int):qQ (qW a b) (Jf (a.2.length:Int) S) f=qQ b S (f-a.1):=by
 unfold qQ Jf;rw [tp];refine congrArg List.sum (tz fun x ak=>?_);show Il (ix (qW a b).2 (x+(a.2.length:Int))) f=_;rw [Pv (cl x ak)];unfold Il Jg;simp only;congr 1
 ·by_cases h:(ix b.2 x).1=f-a.1
  ·rw [if_pos h,if_pos (by omega)]
  ·rw [if_neg h,if_neg (by omega)]
 ·by_cases h:(ix b.2 x).2=f-a.1
  ·rw [if_pos h,if_pos (by omega)]
  ·rw [if_neg h,if_neg (by omega)]
omit aL p3 in
theorem afz {S:List Int} (cl:∀ x∈S,0≤x∧x<(a.2.length:Int)):Iu (qW a b) S=Iu a S:=by
 unfold Iu rr;rw [wy fun f _=>by rw [acE cl]]
theorem afy (bS:a.1+b.1≤6) {S:List Int} (cl:rD b S):Iu (qW a b) (Jf (a.2.length:Int) S)=Iu b S:=by
 unfold Iu;have e:(rr (qW a b) (Jf (a.2.length:Int) S)).Perm ((rr b S).map fun f=>f+a.1):=by
  refine (List.perm_ext_iff_of_nodup ((OA _).imp fun h e=>by omega) ?_).2 fun f=>?_
  ·exact tW.2 ((OA S).imp fun h e=>by omega)
  ·rw [Kj,acD cl,sk];have gD:=aL.f1;constructor
   ·rintro ⟨ad,af⟩;refine ⟨f-a.1,Kj.2 ⟨?_,af⟩,by omega⟩
    have:∃ i∈S,qC b i (f-a.1):=Classical.byContradiction fun aN=>by
     have:=NY.2 fun i hi aP=>aN ⟨i,hi,aP⟩;omega
    obtain ⟨i,hi,aP⟩:=this;have:=I5 p3 (cl i hi) aP;omega
   ·rintro ⟨g,aO,rfl⟩;obtain ⟨ad,af⟩:=Kj.1 aO;rw [u5];refine ⟨?_,af⟩
    have:∃ i∈S,qC b i g:=Classical.byContradiction fun aN=>by
     have:=NY.2 fun i hi aP=>aN ⟨i,hi,aP⟩;omega
    obtain ⟨i,hi,aP⟩:=this;have:=I5 p3 (cl i hi) aP;omega
 rw [e.length_eq,sX]
theorem acM (bS:a.1+b.1≤6) (di:a.2.length+b.2.length≤10):JK (qW a b)=JK a+JK b:=by
 unfold JK;rw [W_ aL p3 bS di,s_,List.sum_append,tp];congr 1
 ·refine congrArg List.sum (tz fun r aj=>afz (SL aL r aj).1)
 ·refine congrArg List.sum (tz fun r aj=>afy aL p3 bS (SL p3 r aj).1)
omit aL p3 in
theorem ahY (n m:Nat):upto (n+m)=upto n++Jf (n:Int) (upto m):=by
 unfold upto Jf;rw [List.range_add,s_,tp,tp];congr 1;refine tz fun x _=>?_;show ((n+x:Nat):Int)=(x:Int)+(n:Int);omega
theorem aev (H_:qA (qW a b)) {i:Int} (hi:0≤i∧i<(a.2.length:Int)):Ic (qW a b) i=Ic a i:=by
 have Jp:=I3 (a:=a) (b:=b);have ad:=(Ow H_ (i:=i) ⟨hi.1,by rw [Jp];omega⟩).2;have af:=(Ow aL hi).2;rw [←VD] at ad af;rw [Pw hi] at ad;have aP:=I5 aL hi (.inl rfl);have key:qT (qW a b) (rest (qW a b) i) (ix a.2 i).1 (ix a.2 i).2↔qT a (rest a i) (ix a.2 i).1 (ix a.2 i).2 :=
  ⟨fun h=>(aco aL p3 (fun x ak=>Km x ak) (fun x ad af ak=>Jy.2 ⟨rq.2 ⟨ad,af⟩,(Jy.1 ak).2⟩) aP.2 h).2,
   fun h=>VF (fun x ak=>⟨Km x ak,Jy.2 ⟨rq.2 ⟨(Km x ak).1,by have:=(Km x ak).2;rw [Jp];omega⟩,(Jy.1 ak).2⟩⟩) h⟩
 rw [key] at ad;exact vR.2 (ad.trans af.symm)
theorem aeu (H_:qA (qW a b)) {i:Int} (hi:0≤i∧i<(b.2.length:Int)):Ic (qW a b) (i+(a.2.length:Int))=Ic b i:=by
 have Jp:=I3 (a:=a) (b:=b);have ad:=(Ow H_ (i:=i+(a.2.length:Int)) ⟨by omega,by rw [Jp];omega⟩).2;have af:=(Ow p3 hi).2;rw [←VD] at ad af;rw [Pv hi] at ad;have aP:=I5 p3 hi (.inl rfl);have e1:(Jg a.1 (ix b.2 i)).1=(ix b.2 i).1+a.1:=rfl;have b':(Jg a.1 (ix b.2 i)).2=(ix b.2 i).2+a.1:=rfl;rw [e1,b'] at ad;have key:qT (qW a b) (rest (qW a b) (i+(a.2.length:Int))) ((ix b.2 i).1+a.1) ((ix b.2 i).2+a.1)↔qT b (rest b i) (ix b.2 i).1 (ix b.2 i).2:=by
  constructor
  ·intro h;have:=(acn aL p3 (S':=rest b i) (fun x ak=>Km x ak) (fun x ad ak=>Jy.2 ⟨rq.2 ⟨ad,by have:=(Km _ ak).2;rw [Jp] at this;omega⟩,fun e=>(Jy.1 ak).2 (by rw [e])⟩) (by omega) h).2
   rwa [u5,u5] at this
  ·exact fun h=>VE (fun x ak=>⟨Km x ak,Jy.2 ⟨rq.2 ⟨by have:=(Km x ak).1;omega,by have:=(Km x ak).2;rw [Jp];omega⟩,fun e=>(Jy.1 ak).2 (by omega)⟩⟩) h
 rw [key] at ad;exact vR.2 (ad.trans af.symm)
theorem aex (bS:a.1+b.1≤6) (di:a.2.length+b.2.length≤10):(KR (qW a b)).length=(KR a).length+(KR b).length:=by
 have H_:=RH aL p3 bS di;unfold KR;rw [I3,ahY,List.filter_append,sr];congr 1
 ·rw [wy fun i hi=>aev aL p3 H_ (rq.1 hi)]
 ·unfold Jf;rw [List.filter_map,sX];congr 1;exact wy fun i hi=>aeu aL p3 H_ (rq.1 hi)
omit aL in
theorem Y1 (cb:0≤a.1∧a.1≤6) (adi:a.2.length≤10) {k:Row→Option Bool}:∀ (m i:Nat) (z:Int),z=i→i≤b.2.length→b.2.length-i<m →
  Mp a b k m z (a.2++(b.2.take i).map (Jg a.1))=k (qW a b).2
 | 0,_,_,_,_,h=>absurd h (by omega)
 | m+1,i,_,rfl,hi,hm=>by
   have di:=p3.len;have bS:=p3.f6;rw [Mp];by_cases h:(i:Int)<(b.2.length:Int)
   ·(have qX:i<b.2.length:=by omega);have ai:=J2 p3 qX;rw [if_pos (decide_eq_true h),qg ⟨by omega,h⟩,qg ⟨by omega,h⟩,qg (by simp;omega),rG i (by omega),HT (by omega),HT (by omega)];have e:(a.2++(b.2.take i).map (Jg a.1))++[((ix b.2 (i:Int)).1+a.1,(ix b.2 (i:Int)).2+a.1)]=a.2++(b.2.take (i+1)).map (Jg a.1):=by
     rw [List.take_succ_eq_append_getElem qX,s_,List.append_assoc,q3 qX];rfl
    rw [e];exact Y1 cb adi m (i+1) _ rfl (by omega) (by omega)
   ·rw [if_neg (by simpa using h),show i=b.2.length by omega,List.take_length];rfl
omit aL p3 in
theorem aiJ (a b:p5):QE a b=some true:=by
 rw [QE,Zb,sc];by_cases aP:(decide (a.2.length≤14) && decide (q4 a=0))=true
 case neg=>rw [if_neg aP];simp only [OW,sc]
 rw [if_pos aP,Zb,sc];by_cases aO:(decide (b.2.length≤14) && decide (q4 b=0))=true
 case neg=>rw [if_neg aO];simp only [OW,sc]
 rw [if_pos aO];simp only [Bool.and_eq_true,decide_eq_true_eq] at aP aO;have aL:=HU.1 aP.2;have p3:=HU.1 aO.2;have aj_:=aL.f1;have adf:=aL.f6;have ade:=aL.len;have gD:=p3.f1;have rJ:=p3.f6;have qP:=p3.len;rw [HT (by omega),HT (by omega)];by_cases bS:(6:Int)<a.1+b.1
 ·rw [if_pos (decide_eq_true bS)];simp only [OW,sc]
 rw [if_neg (by simpa using bS)];by_cases di:(10:Int)<(a.2.length:Int)+(b.2.length:Int)
 ·rw [if_pos (decide_eq_true di)];simp only [OW,sc]
 rw [if_neg (by simpa using di),qg (by simp;omega),List.nil_append]
 have ao:=Y1 (a:=a) p3 (k:=fun yg =>
       (IY a).bind fun q6 =>
       (IY b).bind fun HH =>
       (IY ((a.1+b.1),yg)).bind fun HR =>
       (IZ a).bind fun Jd =>
       (IZ b).bind fun J0 =>
       (IZ ((a.1+b.1),yg)).bind fun HA =>
       (IX a).bind fun Jc =>
       (IX b).bind fun JZ =>
       (IX ((a.1+b.1),yg)).bind fun KV =>
       if q6.2=true then
        if HH.2=true then
         if HR.2=true then
          if (decide (HR.1=(w (q6.1+HH.1))))=true then
           if Jd.2=true then
            if J0.2=true then
             if HA.2=true then
              if (decide ((HA.1.length:Int)=(w ((Jd.1.length:Int)+(J0.1.length:Int)))))=true then
               if (decide (Jc.2=(0:Int)))=true then
                if (decide (JZ.2=(0:Int)))=true then
                 if (decide (KV.2=(0:Int)))=true then
                  if (decide ((KV.1.length:Int)=(w ((Jc.1.length:Int)+(JZ.1.length:Int)))))=true then
                   (JC).bind fun Qc =>
                   some Qc
                  else
                   some false
                 else
                  some false
                else
                 some false
               else
                some false
              else
               some false
             else
              some false
            else
             some false
           else
            some false
          else
           some false
         else
          some false
        else
         some false
       else
        some false) ⟨by omega,adf⟩ ade p' 0 0 rfl (by omega) (rL (by omega))
 rw [List.take_zero,List.map_nil,List.append_nil] at ao;refine ao.trans ?_;have H_:=RH aL p3 (by omega) (by omega);have Jp:=I3 (a:=a) (b:=b);show ((IY a).bind fun q6=>(IY b).bind fun HH=>(IY (qW a b)).bind fun HR=>(IZ a).bind fun Jd=>(IZ b).bind fun J0=>(IZ (qW a b)).bind fun HA=>(IX a).bind fun Jc=>(IX b).bind fun JZ=>(IX (qW a b)).bind fun KV=>_)=_;rw [Uj aL,sc,Uj p3,sc,Uj H_,sc,Ul aL,sc,Ul p3,sc,Ul H_,sc,Uh (by omega),sc,Uh (by omega),sc,Uh (by omega),sc,P4 aL,P4 p3,P4 H_];dsimp only;have e1:=acM aL p3 (by omega) (by omega);have b':=congrArg List.length (W_ aL p3 (by omega) (by omega));rw [sr,sX] at b';have du:=aex aL p3 (by omega) (by omega);have f1:JK a≤10:=by rw [←(Np aL).2.len];exact ((Np aL).2.short aL).1
 have f2:JK b≤10:=by rw [←(Np p3).2.len];exact ((Np p3).2.short p3).1
 have bR:=Xa aL;have bY:=Xa p3;have dy:=WB (b:=a);have dm:=WB (b:=b);rw [HT (by omega),HT (by omega),HT (by omega),e1,b',du];rw [if_pos rfl,if_pos rfl,if_pos rfl,if_pos (by rw [decide_eq_true_eq];omega),if_pos rfl,if_pos rfl,if_pos rfl,if_pos (by rw [decide_eq_true_eq];omega),if_pos (decide_eq_true rfl),if_pos (decide_eq_true rfl),if_pos (decide_eq_true rfl),if_pos (by rw [decide_eq_true_eq];omega)];simp only [OW,sc]
omit aL p3 in
theorem afq {a b:p5}:qw 14 [.agg [hU a.1,.ax (a.2.flatMap p2) a.2.length .shared],.agg [hU b.1,.ax (b.2.flatMap p2) b.2.length .shared]] (B true):=aiL (aiJ a b)
end
end Go.Proofs.YtfakoboiahbhaaaGreat.Ab
