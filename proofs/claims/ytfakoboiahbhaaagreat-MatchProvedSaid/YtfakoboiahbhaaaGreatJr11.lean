
import Derived.Test.YtfakoboiahbhaaaGreatJr4
import Derived.Test.YtfakoboiahbhaaaGreatJr8
import Derived.KernelRfl
import Derived.Test.YtfakoboiahbhaaaGreatJr10
import Derived.Test.YtfakoboiahbhaaaGreatJr9
set_option linter.unusedSimpArgs false
set_option linter.unusedVariables false
set_option linter.unusedSectionVars false

open Bool renaming and_eq_true→sM,not_eq_true'→wF,or_eq_true→tX
open Decidable renaming not_not→uY
open Int renaming toNat_natCast→tI
open List renaming any_eq_false→uF,append_assoc→sD,append_nil→sU,append_of_mem→vm,drop_eq_getElem_cons→tf,ext_getElem→vX,filter_cons→tr,filter_nil→u5,find?_eq_none→vB,flatMap_append→vh,flatten_append→vl,flatten_cons→tG,getElem?_append→su,getElem?_eq_some_iff→ss,getElem_mem→sL,length_append→sA,length_cons→sP,length_filter_le→tO,length_map→tj,length_pos_iff→tT,length_singleton→tx,length_take→ta,map_append→ti,map_congr_left→tY,map_cons→sy,map_nil→tA,mem_append→te,mem_cons→sH,mem_filter→s_,mem_flatten→tZ,mem_map→sJ,mem_of_mem_take→uP,mem_singleton→sQ,nodup_append→uz,not_mem_nil→uc,pairwise_cons→tD,pairwise_iff_getElem→tB,perm_middle→wJ,set_set→td,sum_append→v3,sum_cons→tn,sum_nil→wM,take_append_drop→vn,take_length→tE,take_succ_eq_append_getElem→tH,take_zero→tu
open Nat renaming add_assoc→t_,le_refl→sx,le_trans→sW,lt_succ_self→sv,min_eq_left→tK,mod_lt→vJ,sub_self→ua,zero_le→sK
open Option renaming bind_some→sq
namespace Go.Proofs.YtfakoboiahbhaaaGreat.Ab
open Go
set_option maxRecDepth 20000
set_option maxHeartbeats 4000000
noncomputable def sc:eE :=
 .cond (.sl 56) (Gw [Gt 57 9,gV 58 [.hS 12] (.p2 (.str 2)),gV 59 [.hS 58] (.yg 1 2 [.int .i64 0,.int .i64 0] [0]),gV 60 [.hP 57,.hP 59] (.app 2 16),Gt 9 60]) .skip
noncomputable def Io:eE :=
 .seq (Gx [Gs 34 6,Gs 35 10,gV 36 [.iK (.func 69 [] []),.sl 34,.sl 35] (.call 3),gV 37 [.hS 36] (.un .not),Gt 38 37,cS 39 [.sl 8] 38 true .i_,cS 40 [.hP 39] 38 true .xe,cS 41 [.hS 40,.iK (.int .i64 0)] 38 true (.bin .eql),cS 42 [.hP 41] 38 true .i_,cS 43 [.sl 2] 42 false (.p2 (.str 2)),cS 44 [.sl 8] 42 false .i_,cS 45 [.sl 8] 42 false .i_,cS 46 [.hP 45] 42 false .xe,cS 47 [.hS 46,.iK (.int .i64 1)] 42 false (.bin .sub),cS 48 [.hS 44,.hS 47] 42 false (.pV 2),cS 49 [.hS 48] 42 false (.p2 (.str 2)),⟨some 50,[.iK (.func 70 [] []),.sl 43,.sl 49],some (42,false),none,.call 3⟩,cS 51 [.sl 2] 42 false (.p2 (.str 2)),cS 52 [.sl 12] 42 false (.p2 (.str 2)),⟨some 53,[.iK (.func 57 [] []),.sl 51,.sl 52],some (42,false),none,.call 3⟩,cS 54 [.hS 50,.hS 53] 42 false (.bin .eql),cS 55 [.sl 42,.iK (.bool true),.hS 54] 38 true .pick,gV 56 [.sl 38,.hS 55,.iK (.bool false)] .pick]) sc
noncomputable def rG:eE :=
 .j_ false [Gt 29 11,F3 30 29 1,Gt 11 30]
noncomputable def IM:eE :=
 .seq (.block 7 (GD [Gs 31 10,Gs 32 11,gV 33 [.hS 31,.hS 32] (.build [.int .i64 0,.int .i64 0] [(0,1),(1,1)]),gV 12 [] (.alloc [.int .i64 0,.int .i64 0]),⟨none,[.sl 12,.hP 33],none,none,.st 2⟩] Io)) rG
noncomputable def HS:eE :=
 .loop (some (ED false [1,2,2,7,87])) (.seq (GD [Gs 27 11,F4 28 27 2 .lss] (.cond (.sl 28) .skip (.exit 6))) IM)
noncomputable def Jp:eE :=
 .block 6 HS
noncomputable def IL:eE :=
 .j_ false [Gt 25 10,F3 26 25 1,Gt 10 26]
noncomputable def J4:eE :=
 .seq (.block 5 (GD [Gr 11 0] Jp)) IL
noncomputable def Jq:eE :=
 .loop (some (ED false [1,2,2,6,88])) (.seq (GD [Gs 20 10,gV 21 [.sl 2] (.oY 1),Gq 22 21,Gp 23 22,F5 24 20 23 .lss] (.cond (.sl 24) .skip (.exit 4))) J4)
noncomputable def K5:eE :=
 .block 4 Jq
noncomputable def Ju:eE :=
 .j_ false [Gt 78 7,F3 79 78 1,Gt 7 79]
noncomputable def Jt:eE :=
 .cond (.sl 66) (GD [Gs 67 1,Gs 68 7,Gs 69 1,Gp 70 69,F5 71 68 70 .rem,Gl 72 67 71 1,Gq 73 72,gV 74 [.hS 73] (.conv .i64),Gs 75 9,Gp 76 75,F5 77 74 76 .rem,Gt 13 77] Ju) .skip
noncomputable def HT:eE :=
 .j_ true [Gt 80 8,Gs 81 9,Gs 82 13,Gl 83 81 82 2,gV 84 [.hS 83] (.p2 (.str 2)),gV 85 [.hS 84] (.yg 1 2 [.int .i64 0,.int .i64 0] [0]),gV 86 [.hP 80,.hP 85] (.app 2 16),Gt 87 6,Gs 88 9,Gs 89 13,Gl 90 88 89 2,gV 91 [.hS 90] (.p2 (.str 2)),gV 92 [.hS 91] (.yg 1 2 [.int .i64 0,.int .i64 0] [0]),gV 93 [.hP 87,.hP 92] (.app 2 16),Gt 8 86,Gt 6 93]
noncomputable def Js:eE :=
 .seq (GD [Gs 64 1,Gp 65 64,F4 66 65 0 .gtr] Jt) HT
noncomputable def Jr:eE :=
 GD [Gr 13 0] Js
noncomputable def J3:eE :=
 .seq (GD [Gs 61 9,Gp 62 61,F4 63 62 0 .eql] (.cond (.sl 63) (.exit 2) .skip)) Jr
noncomputable def MN:eE :=
 .seq (GD [Gr 10 0] K5) J3
noncomputable def ML:eE :=
 .loop (some (ED false [1,2,2,4,90])) (.block 3 (GD [gV 9 [.iK (.ay [] 0 .full)] (.nil 2)] MN))
noncomputable def MM:eE :=
 .j_ false [Gt 94 5,Gt 95 8,gV 96 [.hS 95] (.yg 1 1 [.ay [] 0 .full] [0]),gV 97 [.hP 94,.hP 96] (.app 1 24),Gt 5 97]
noncomputable def Pv:eE :=
 .seq (.block 2 ML) MM
noncomputable def RD:eE :=
 .block 1 (GD [gV 8 [.iK (.ay [] 0 .full)] (.nil 2)] Pv)
noncomputable def RC:eE :=
 .loop (some (ED false [1,2,2,3,91])) (.seq (GD [Gs 14 6,Gp 15 14,gV 16 [.sl 2] (.oY 1),Gq 17 16,Gp 18 17,F5 19 15 18 .lss] (.cond (.sl 19) .skip (.exit 0))) RD)
noncomputable def V2:eE :=
 GD [Gt 98 5,Gt 4 98] .ret
noncomputable def V1:eE :=
 .seq (.block 0 RC) V2
noncomputable def V0:eE :=
 GD [Gr 7 0] V1
noncomputable def VZ:eE :=
 GD [gV 6 [.iK (.ay [] 0 .full)] (.nil 2)] V0
noncomputable def VY:eE :=
 GD [gV 5 [.iK (.ay [] 0 .full)] (.nil 1)] VZ
noncomputable def acO:eE :=
 GD [gV 2 [.hP 0] .box,gV 4 [.iK (.ay [] 0 .full)] (.nil 1)] VY
theorem ahH:zm Tryz.prog HC 50=some (acO,99,[.tmp 4]):=by kernel_rfl
def Ha (b:qk) (GC qa:p') (qg:Int) (si:p'→Option qq):Nat→p'→Int→Option qq
 | 0,_,_=>none
 | m+1,qs,qo =>
   if (decide (qo<(2:Int)))=true then
    (MB GC qg).bind fun r1 =>
    if r1=true then
     Ha b GC qa qg si m qs (w (qo+(1:Int)))
    else
     if (decide ((qa.length:Int)=(0:Int)))=true then
      qh ((qs.length+1)*16≤140737488355328) <|
      Ha b GC qa qg si m (qs++[(qg,qo)]) (w (qo+(1:Int)))
     else
      qh (0≤(w ((qa.length:Int)-(1:Int)))∧(w ((qa.length:Int)-(1:Int)))<(qa.length:Int)) <|
      (MD b (ix qa (w ((qa.length:Int)-(1:Int))))).bind fun r2 =>
      (MA b (qg,qo)).bind fun eJ =>
      if (decide (r2=eJ))=true then
       qh ((qs.length+1)*16≤140737488355328) <|
       Ha b GC qa qg si m (qs++[(qg,qo)]) (w (qo+(1:Int)))
      else
       Ha b GC qa qg si m qs (w (qo+(1:Int)))
   else
    si qs
def Im (b:qk) (GC qa:p') (ru:p'→Option qq):Nat→p'→Int→Option qq
 | 0,_,_=>none
 | m+1,rh,qg =>
   if (decide (qg<(b.2.length:Int)))=true then
    Ha b GC qa qg (fun x6 =>
      Im b GC qa ru m x6 (w (qg+(1:Int)))) qe rh (0:Int)
   else
    ru rh
def HZ (GC qa ox:p') (HP:p'→Int→p'→Option qq) (dx dq:Int):Option qq :=
 qh (0≤dq∧dq<(ox.length:Int)) <|
 qh ((qa.length+1)*16≤140737488355328) <|
 qh (0≤dq∧dq<(ox.length:Int)) <|
 qh ((GC.length+1)*16≤140737488355328) <|
 HP (GC++[(ix ox dq)]) dx (qa++[(ix ox dq)])
def I9 (b:qk) (qd:ql) (qT:p'→Int→p'→Option qq):Nat→p'→Int→p'→Option qq
 | 0,_,_,_=>none
 | m+1,GC,qn,qa =>
   Im b GC qa (fun ox =>
     if (decide ((ox.length:Int)=(0:Int)))=true then
      qT GC qn qa
     else
      if (decide ((0:Int)<(qd.length:Int)))=true then
       qh ((qd.length:Int)≠0) <|
       qh (0≤(qn.tmod (qd.length:Int))∧(qn.tmod (qd.length:Int))<(qd.length:Int)) <|
       qh ((ox.length:Int)≠0) <|
       HZ GC qa ox (fun r8 sn Hs =>
         I9 b qd qT m r8 sn Hs) (w (qn+(1:Int))) ((w (ix qd (qn.tmod (qd.length:Int)))).tmod (ox.length:Int))
      else
       HZ GC qa ox (fun r8 sn Hs =>
         I9 b qd qT m r8 sn Hs) qn (0:Int)) qe ([]:List (Int×Int)) (0:Int)
def LB (b:qk) (qd:ql) (qi:qq→Option qq):Nat→qq→p'→Int→Option qq
 | 0,_,_,_=>none
 | m+1,s1,s2,dj =>
   if (decide ((s2.length:Int)<(b.2.length:Int)))=true then
    I9 b qd (fun F0 rC rH =>
      qh ((s1.length+1)*24≤140737488355328) <|
      LB b qd qi m (s1++[rH]) F0 rC) qe s2 dj ([]:List (Int×Int))
   else
    qi s1
def Q4 (b:qk) (qd:ql):Option qq :=
 LB b qd (fun r8 =>
   some r8) qe ([]:List p') ([]:List (Int×Int)) (0:Int)
theorem aml {b:qk} {GC:p'} {qa:p'} {qg:Int} {si:p'→Option qq} {qs:p'} {qo:Int} {qd:ql} {s1:qq} {qn:Int} {v:qq} {Q:q8}  {GO:List au} {rf:iB} (JP:∀ (x6:p') (qu:List au) (p8:List I),si x6=some v→qO 99 [(1,(.ay (qd.map qQ) qd.length .shared)),(2,(.ptr 0 0)),(5,(.ay (s1.map (qv p4)) s1.length (.uniq 1))),(6,(p9 GC (.own 2))),(7,(hY qn)),(8,(p9 qa (.uniq 2))),(9,(p9 x6 (.uniq 2))),(10,(hY qg))] p8→Q (.exit 6) p8 (qI b::qu)) (Tu:∀ (x6:p') (qu:List au) (p8:List I),si x6=some v→qO 99 [(1,(.ay (qd.map qQ) qd.length .shared)),(2,(.ptr 0 0)),(5,(.ay (s1.map (qv p4)) s1.length (.uniq 1))),(6,(p9 GC (.own 2))),(7,(hY qn)),(8,(p9 qa (.own 2))),(9,(p9 x6 (.uniq 2))),(10,(hY qg))] p8→Q (.exit 6) p8 (qI b::qu)) (Ho:(rf=(.uniq 2)∨rf=(.own 2))) {T:List I} (bZ:eX (ED false [1,2,2,7,87]) T=GI 99 [(1,(.ay (qd.map qQ) qd.length .shared)),(2,(.ptr 0 0)),(5,(.ay (s1.map (qv p4)) s1.length (.uniq 1))),(6,(p9 GC (.own 2))),(7,(hY qn)),(8,(.ay (qa.flatMap p4) qa.length rf)),(9,(p9 qs (.uniq 2))),(10,(hY qg)),(11,(hY qo))]) (h:Ha b GC qa qg si qe qs qo=some v) :
  dG Tryz.prog HC 50 0 none HS T (qI b::GO) Q:=by
 unfold HS;obtain ⟨N',HM⟩:∃ c,IM=c:=⟨_,rfl⟩;rw [HM];refine wp_loop bZ ?_;refine .intro (fun m T H=>∃ (qs:p') (qo:Int) (H2:List au) (rf:iB),(rf=(.uniq 2)∨rf=(.own 2))∧T=GI 99 [(1,(.ay (qd.map qQ) qd.length .shared)),(2,(.ptr 0 0)),(5,(.ay (s1.map (qv p4)) s1.length (.uniq 1))),(6,(p9 GC (.own 2))),(7,(hY qn)),(8,(.ay (qa.flatMap p4) qa.length rf)),(9,(p9 qs (.uniq 2))),(10,(hY qg)),(11,(hY qo))]∧H=(qI b::H2)∧Ha b GC qa qg si m qs qo=some v) qe ⟨qs,qo,GO,_,Ho,rfl,rfl,h⟩ ?_;clear h bZ;rintro m T H ⟨qs,qo,H2,rf,Ho,rfl,rfl,h⟩;cases m
 ·exact q_ h
 rename_i m;rw [Ha.eq_2] at h;rcases Ho with rfl | rfl
 ·conv=>whnf
  refine bs h (fun qp h=>?_) fun qp h=>?_
  ·rw [qp];(conv=>whnf);subst HM;unfold IM;obtain ⟨LO,rr⟩:∃ c,rG=c:=⟨_,rfl⟩;rw [rr];obtain ⟨LP,Hl⟩:∃ c,Io=c:=⟨_,rfl⟩;rw [Hl];(conv=>whnf);refine D1 (x:=au.cells [(hY (0:Int)),(hY (0:Int))]) (by first | exact qz.h | rfl | (simp [su,I.settle];done)) ?_
   (conv=>whnf);rw [rE];subst Hl;unfold Io;obtain ⟨LQ,rN⟩:∃ c,sc=c:=⟨_,rfl⟩;rw [rN];(conv=>whnf);obtain ⟨r1,qC,h⟩:=qj h;refine ⟨qt.pl,_,J1 qC,Hu,?_⟩;(conv=>whnf);cases r1
   ·(conv=>whnf);replace h:=r0 rfl h;refine bs h (fun qH h=>?_) fun qH h=>?_
    ·rw [qH];(conv=>whnf);subst rN;unfold sc;(conv=>whnf);refine D1 (x:=au.cells [(hY qg),(hY qo)]) (by first | exact qz.h | rfl | (simp [su,I.settle];done)) ?_
     (conv=>whnf);obtain ⟨qW,h⟩:=qF h;refine ⟨by first | rfl | (simp;done) | exact ry p4 _ qy _,by have:=qW;omega,rfl,qW,?_⟩
     erw [rI p4 qs (qg,qo)];(conv=>whnf);subst rr;unfold rG;(conv=>whnf);exact ⟨m,sv m,(qs++[(qg,qo)]),(w (qo+(1:Int))),_,_,(.inr rfl),rfl,rfl,h⟩
    ·rw [qH];(conv=>whnf);refine qw h id fun qU h=>?_;rw [qY p4 2 qy qa (w ((qa.length:Int)-(1:Int))) qU];(conv=>whnf);obtain ⟨r2,qX,h⟩:=qj h;refine ⟨qt.pl,_,Kx qX,HB rfl,?_⟩;(conv=>whnf);refine D1 (x:=au.cells [(hY qg),(hY qo)]) (by first | exact qz.h | rfl | (simp [su,I.settle];done)) ?_
     (conv=>whnf);obtain ⟨eJ,ra,h⟩:=qj h;refine ⟨qt.pl,_,Kv ra,HB rfl,?_⟩;(conv=>whnf);subst rN;unfold sc;(conv=>whnf);refine bs h (fun qL h=>?_) fun qL h=>?_
     ·rw [qL];(conv=>whnf);refine D1 (x:=au.cells [(hY qg),(hY qo)]) (by first | exact qz.h | rfl | (simp [su,I.settle];done)) ?_
      (conv=>whnf);obtain ⟨q9,h⟩:=qF h;refine ⟨by first | rfl | (simp;done) | exact ry p4 _ qy _,by have:=q9;omega,rfl,q9,?_⟩
      erw [rI p4 qs (qg,qo)];(conv=>whnf);subst rr;unfold rG;(conv=>whnf);exact ⟨m,sv m,(qs++[(qg,qo)]),(w (qo+(1:Int))),_,_,(.inr rfl),rfl,rfl,h⟩
     ·rw [qL];(conv=>whnf);subst rr;unfold rG;(conv=>whnf);exact ⟨m,sv m,qs,(w (qo+(1:Int))),_,_,(.inr rfl),rfl,rfl,h⟩
   ·(conv=>whnf);replace h:=rZ rfl h;subst rN;unfold sc;(conv=>whnf);subst rr;unfold rG;(conv=>whnf);exact ⟨m,sv m,qs,(w (qo+(1:Int))),_,_,(.inl rfl),rfl,rfl,h⟩
  ·rw [qp];(conv=>whnf);exact JP _ _ _ h ⟨rfl,rfl⟩
 ·conv=>whnf
  refine bs h (fun qp h=>?_) fun qp h=>?_
  ·rw [qp];(conv=>whnf);subst HM;unfold IM;obtain ⟨LO,rr⟩:∃ c,rG=c:=⟨_,rfl⟩;rw [rr];obtain ⟨LP,Hl⟩:∃ c,Io=c:=⟨_,rfl⟩;rw [Hl];(conv=>whnf);refine D1 (x:=au.cells [(hY (0:Int)),(hY (0:Int))]) (by first | exact qz.h | rfl | (simp [su,I.settle];done)) ?_
   (conv=>whnf);rw [rE];subst Hl;unfold Io;obtain ⟨LQ,rN⟩:∃ c,sc=c:=⟨_,rfl⟩;rw [rN];(conv=>whnf);obtain ⟨r1,qC,h⟩:=qj h;refine ⟨qt.pl,_,J1 qC,Hu,?_⟩;(conv=>whnf);cases r1
   ·(conv=>whnf);replace h:=r0 rfl h;refine bs h (fun qH h=>?_) fun qH h=>?_
    ·rw [qH];(conv=>whnf);subst rN;unfold sc;(conv=>whnf);refine D1 (x:=au.cells [(hY qg),(hY qo)]) (by first | exact qz.h | rfl | (simp [su,I.settle];done)) ?_
     (conv=>whnf);obtain ⟨qW,h⟩:=qF h;refine ⟨by first | rfl | (simp;done) | exact ry p4 _ qy _,by have:=qW;omega,rfl,qW,?_⟩
     erw [rI p4 qs (qg,qo)];(conv=>whnf);subst rr;unfold rG;(conv=>whnf);exact ⟨m,sv m,(qs++[(qg,qo)]),(w (qo+(1:Int))),_,_,(.inr rfl),rfl,rfl,h⟩
    ·rw [qH];(conv=>whnf);refine qw h id fun qU h=>?_;rw [qY p4 2 qy qa (w ((qa.length:Int)-(1:Int))) qU];(conv=>whnf);obtain ⟨r2,qX,h⟩:=qj h;refine ⟨qt.pl,_,Kx qX,HB rfl,?_⟩;(conv=>whnf);refine D1 (x:=au.cells [(hY qg),(hY qo)]) (by first | exact qz.h | rfl | (simp [su,I.settle];done)) ?_
     (conv=>whnf);obtain ⟨eJ,ra,h⟩:=qj h;refine ⟨qt.pl,_,Kv ra,HB rfl,?_⟩;(conv=>whnf);subst rN;unfold sc;(conv=>whnf);refine bs h (fun qL h=>?_) fun qL h=>?_
     ·rw [qL];(conv=>whnf);refine D1 (x:=au.cells [(hY qg),(hY qo)]) (by first | exact qz.h | rfl | (simp [su,I.settle];done)) ?_
      (conv=>whnf);obtain ⟨q9,h⟩:=qF h;refine ⟨by first | rfl | (simp;done) | exact ry p4 _ qy _,by have:=q9;omega,rfl,q9,?_⟩
      erw [rI p4 qs (qg,qo)];(conv=>whnf);subst rr;unfold rG;(conv=>whnf);exact ⟨m,sv m,(qs++[(qg,qo)]),(w (qo+(1:Int))),_,_,(.inr rfl),rfl,rfl,h⟩
     ·rw [qL];(conv=>whnf);subst rr;unfold rG;(conv=>whnf);exact ⟨m,sv m,qs,(w (qo+(1:Int))),_,_,(.inr rfl),rfl,rfl,h⟩
   ·(conv=>whnf);replace h:=rZ rfl h;subst rN;unfold sc;(conv=>whnf);subst rr;unfold rG;(conv=>whnf);exact ⟨m,sv m,qs,(w (qo+(1:Int))),_,_,(.inr rfl),rfl,rfl,h⟩
  ·rw [qp];(conv=>whnf);exact Tu _ _ _ h ⟨rfl,rfl⟩
theorem amq {b:qk} {GC:p'} {qa:p'} {qg:Int} {si:p'→Option qq} {qs:p'} {qo:Int} {qd:ql} {s1:qq} {qn:Int} {v:qq} {Q:q8}  {GO:List au} (JP:∀ (x6:p') (qu:List au) (p8:List I),si x6=some v→qO 99 [(1,(.ay (qd.map qQ) qd.length .shared)),(2,(.ptr 0 0)),(5,(.ay (s1.map (qv p4)) s1.length (.uniq 1))),(6,(p9 GC (.own 2))),(7,(hY qn)),(8,(p9 qa (.own 2))),(9,(p9 x6 (.uniq 2))),(10,(hY qg))] p8→Q (.exit 6) p8 (qI b::qu)) {T:List I} (bZ:eX (ED false [1,2,2,7,87]) T=GI 99 [(1,(.ay (qd.map qQ) qd.length .shared)),(2,(.ptr 0 0)),(5,(.ay (s1.map (qv p4)) s1.length (.uniq 1))),(6,(p9 GC (.own 2))),(7,(hY qn)),(8,(p9 qa (.own 2))),(9,(p9 qs (.uniq 2))),(10,(hY qg)),(11,(hY qo))]) (h:Ha b GC qa qg si qe qs qo=some v) :
  dG Tryz.prog HC 50 0 none HS T (qI b::GO) Q:=by
 unfold HS;obtain ⟨N',HM⟩:∃ c,IM=c:=⟨_,rfl⟩;rw [HM];refine wp_loop bZ ?_;refine .intro (fun m T H=>∃ (qs:p') (qo:Int) (H2:List au),T=GI 99 [(1,(.ay (qd.map qQ) qd.length .shared)),(2,(.ptr 0 0)),(5,(.ay (s1.map (qv p4)) s1.length (.uniq 1))),(6,(p9 GC (.own 2))),(7,(hY qn)),(8,(p9 qa (.own 2))),(9,(p9 qs (.uniq 2))),(10,(hY qg)),(11,(hY qo))]∧H=(qI b::H2)∧Ha b GC qa qg si m qs qo=some v) qe ⟨qs,qo,GO,rfl,rfl,h⟩ ?_;clear h bZ;rintro m T H ⟨qs,qo,H2,rfl,rfl,h⟩;cases m
 ·exact q_ h
 rename_i m;rw [Ha.eq_2] at h;conv=>whnf
 refine bs h (fun qp h=>?_) fun qp h=>?_
 ·rw [qp];conv=>whnf
  subst HM;unfold IM;obtain ⟨LO,rr⟩:∃ c,rG=c:=⟨_,rfl⟩;rw [rr];obtain ⟨LP,Hl⟩:∃ c,Io=c:=⟨_,rfl⟩;rw [Hl];conv=>whnf
  refine D1 (x:=au.cells [(hY (0:Int)),(hY (0:Int))]) (by first | exact qz.h | rfl | (simp [su,I.settle];done)) ?_
  conv=>whnf
  rw [rE];subst Hl;unfold Io;obtain ⟨LQ,rN⟩:∃ c,sc=c:=⟨_,rfl⟩;rw [rN];conv=>whnf
  obtain ⟨r1,qC,h⟩:=qj h;refine ⟨qt.pl,_,J1 qC,Hu,?_⟩;conv=>whnf
  cases r1
  ·(conv=>whnf);replace h:=r0 rfl h;refine bs h (fun qH h=>?_) fun qH h=>?_
   ·rw [qH];(conv=>whnf);subst rN;unfold sc;(conv=>whnf);refine D1 (x:=au.cells [(hY qg),(hY qo)]) (by first | exact qz.h | rfl | (simp [su,I.settle];done)) ?_
    (conv=>whnf);obtain ⟨qW,h⟩:=qF h;refine ⟨by first | rfl | (simp;done) | exact ry p4 _ qy _,by have:=qW;omega,rfl,qW,?_⟩
    erw [rI p4 qs (qg,qo)];(conv=>whnf);subst rr;unfold rG;(conv=>whnf);exact ⟨m,sv m,(qs++[(qg,qo)]),(w (qo+(1:Int))),_,rfl,rfl,h⟩
   ·rw [qH];(conv=>whnf);refine qw h id fun qU h=>?_;rw [qY p4 2 qy qa (w ((qa.length:Int)-(1:Int))) qU];(conv=>whnf);obtain ⟨r2,qX,h⟩:=qj h;refine ⟨qt.pl,_,Kx qX,HB rfl,?_⟩;(conv=>whnf);refine D1 (x:=au.cells [(hY qg),(hY qo)]) (by first | exact qz.h | rfl | (simp [su,I.settle];done)) ?_
    (conv=>whnf);obtain ⟨eJ,ra,h⟩:=qj h;refine ⟨qt.pl,_,Kv ra,HB rfl,?_⟩;(conv=>whnf);subst rN;unfold sc;(conv=>whnf);refine bs h (fun qL h=>?_) fun qL h=>?_
    ·rw [qL];(conv=>whnf);refine D1 (x:=au.cells [(hY qg),(hY qo)]) (by first | exact qz.h | rfl | (simp [su,I.settle];done)) ?_
     (conv=>whnf);obtain ⟨q9,h⟩:=qF h;refine ⟨by first | rfl | (simp;done) | exact ry p4 _ qy _,by have:=q9;omega,rfl,q9,?_⟩
     erw [rI p4 qs (qg,qo)];(conv=>whnf);subst rr;unfold rG;(conv=>whnf);exact ⟨m,sv m,(qs++[(qg,qo)]),(w (qo+(1:Int))),_,rfl,rfl,h⟩
    ·rw [qL];(conv=>whnf);subst rr;unfold rG;(conv=>whnf);exact ⟨m,sv m,qs,(w (qo+(1:Int))),_,rfl,rfl,h⟩
  ·(conv=>whnf);replace h:=rZ rfl h;subst rN;unfold sc;(conv=>whnf);subst rr;unfold rG;(conv=>whnf);exact ⟨m,sv m,qs,(w (qo+(1:Int))),_,rfl,rfl,h⟩
 ·rw [qp];conv=>whnf
  exact JP _ _ _ h ⟨rfl,rfl⟩
theorem amh {b:qk} {GC:p'} {qa:p'} {ru:p'→Option qq} {rh:p'} {qg:Int} {qd:ql} {s1:qq} {qn:Int} {v:qq} {Q:q8}  {H3:List au} {rf:iB} (IG:∀ (ox:p') (qu:List au) (p8:List I),ru ox=some v→qO 99 [(1,(.ay (qd.map qQ) qd.length .shared)),(2,(.ptr 0 0)),(5,(.ay (s1.map (qv p4)) s1.length (.uniq 1))),(6,(p9 GC (.own 2))),(7,(hY qn)),(8,(p9 qa (.uniq 2))),(9,(p9 ox (.uniq 2)))] p8→Q (.exit 4) p8 (qI b::qu)) (OG:∀ (ox:p') (qu:List au) (p8:List I),ru ox=some v→qO 99 [(1,(.ay (qd.map qQ) qd.length .shared)),(2,(.ptr 0 0)),(5,(.ay (s1.map (qv p4)) s1.length (.uniq 1))),(6,(p9 GC (.own 2))),(7,(hY qn)),(8,(p9 qa (.own 2))),(9,(p9 ox (.uniq 2)))] p8→Q (.exit 4) p8 (qI b::qu)) (Ho:(rf=(.uniq 2)∨rf=(.own 2))) {T:List I} (bZ:eX (ED false [1,2,2,6,88]) T=GI 99 [(1,(.ay (qd.map qQ) qd.length .shared)),(2,(.ptr 0 0)),(5,(.ay (s1.map (qv p4)) s1.length (.uniq 1))),(6,(p9 GC (.own 2))),(7,(hY qn)),(8,(.ay (qa.flatMap p4) qa.length rf)),(9,(p9 rh (.uniq 2))),(10,(hY qg))]) (h:Im b GC qa ru qe rh qg=some v) :
  dG Tryz.prog HC 50 0 none Jq T (qI b::H3) Q:=by
 unfold Jq;obtain ⟨Sq,Jg⟩:∃ c,J4=c:=⟨_,rfl⟩;rw [Jg];refine wp_loop bZ ?_;refine .intro (fun m T H=>∃ (rh:p') (qg:Int) (GO:List au) (rf:iB),(rf=(.uniq 2)∨rf=(.own 2))∧T=GI 99 [(1,(.ay (qd.map qQ) qd.length .shared)),(2,(.ptr 0 0)),(5,(.ay (s1.map (qv p4)) s1.length (.uniq 1))),(6,(p9 GC (.own 2))),(7,(hY qn)),(8,(.ay (qa.flatMap p4) qa.length rf)),(9,(p9 rh (.uniq 2))),(10,(hY qg))]∧H=(qI b::GO)∧Im b GC qa ru m rh qg=some v) qe ⟨rh,qg,H3,_,Ho,rfl,rfl,h⟩ ?_;clear h bZ;rintro m T H ⟨rh,qg,GO,rf,Ho,rfl,rfl,h⟩;cases m
 ·exact q_ h
 rename_i m;rw [Im.eq_2] at h;rcases Ho with rfl | rfl
 ·conv=>whnf
  refine bs h (fun fs h=>?_) fun fs h=>?_
  ·rw [fs];(conv=>whnf);subst Jg;unfold J4;obtain ⟨N9,HL⟩:∃ c,IL=c:=⟨_,rfl⟩;rw [HL];obtain ⟨N_,H8⟩:∃ c,Jp=c:=⟨_,rfl⟩;rw [H8];(conv=>whnf);subst H8;unfold Jp;obtain ⟨Oa,H9⟩:∃ c,HS=c:=⟨_,rfl⟩;rw [H9];(conv=>whnf);subst H9;refine aml ?_ ?_ (.inl rfl) (by exact rfl) h
   ·intro x6 qu p8 h qf;obtain ⟨qJ,rfl⟩:=qf.ex;(conv=>whnf);subst HL;unfold IL;(conv=>whnf);exact ⟨m,sv m,x6,(w (qg+(1:Int))),_,_,(.inl rfl),rfl,rfl,h⟩
   ·intro x6 qu p8 h qf;obtain ⟨qJ,rfl⟩:=qf.ex;(conv=>whnf);subst HL;unfold IL;(conv=>whnf);exact ⟨m,sv m,x6,(w (qg+(1:Int))),_,_,(.inr rfl),rfl,rfl,h⟩
  ·rw [fs];(conv=>whnf);exact IG _ _ _ h ⟨rfl,rfl⟩
 ·conv=>whnf
  refine bs h (fun fs h=>?_) fun fs h=>?_
  ·rw [fs];(conv=>whnf);subst Jg;unfold J4;obtain ⟨N9,HL⟩:∃ c,IL=c:=⟨_,rfl⟩;rw [HL];obtain ⟨N_,H8⟩:∃ c,Jp=c:=⟨_,rfl⟩;rw [H8];(conv=>whnf);subst H8;unfold Jp;obtain ⟨Oa,H9⟩:∃ c,HS=c:=⟨_,rfl⟩;rw [H9];(conv=>whnf);subst H9;refine amq ?_ (by exact rfl) h;intro x6 qu p8 h qf;obtain ⟨qJ,rfl⟩:=qf.ex;(conv=>whnf);subst HL;unfold IL;(conv=>whnf);exact ⟨m,sv m,x6,(w (qg+(1:Int))),_,_,(.inr rfl),rfl,rfl,h⟩
  ·rw [fs];(conv=>whnf);exact OG _ _ _ h ⟨rfl,rfl⟩
theorem abH {GC:p'} {qa:p'} {ox:p'} {HP:p'→Int→p'→Option qq} {dx:Int} {dq:Int} {b:qk} {qd:ql} {s1:qq} {v:qq} {Q:q8} {qu:List au} {p8:List I}  (JO:∀ (r8:p') (sn:Int) (Hs:p') (qu:List au) (p8:List I),HP r8 sn Hs=some v→qO 99 [(1,(.ay (qd.map qQ) qd.length .shared)),(2,(.ptr 0 0)),(5,(.ay (s1.map (qv p4)) s1.length (.uniq 1))),(6,(p9 r8 (.own 2))),(7,(hY sn)),(8,(p9 Hs (.uniq 2)))] p8→Q .normal p8 (qI b::qu)) (qf:qO 99 [(1,(.ay (qd.map qQ) qd.length .shared)),(2,(.ptr 0 0)),(5,(.ay (s1.map (qv p4)) s1.length (.uniq 1))),(6,(p9 GC (.own 2))),(7,(hY dx)),(8,(p9 qa (.uniq 2))),(9,(p9 ox (.own 2))),(13,(hY dq))] p8) (h:HZ GC qa ox HP dx dq=some v) :
  dG Tryz.prog HC 50 0 none HT p8 (qI b::qu) Q:=by
 obtain ⟨qJ,rfl⟩:=qf.ex;unfold HZ at h;unfold HT;conv=>whnf
 refine qw h id fun G_ h=>?_;rw [qY p4 2 qy ox dq G_];conv=>whnf
 obtain ⟨rT,h⟩:=qF h;refine ⟨by first | rfl | (simp;done) | exact ry p4 _ qy _,by have:=rT;omega,rfl,rT,?_⟩
 erw [rI p4 qa (ix ox dq)];conv=>whnf
 refine qw h id fun Hn h=>?_;rw [qY p4 2 qy ox dq Hn];conv=>whnf
 obtain ⟨rX,h⟩:=qF h;refine ⟨by first | rfl | (simp;done) | exact ry p4 _ qy _,by have:=rX;omega,rfl,rX,?_⟩
 erw [rI p4 GC (ix ox dq)];conv=>whnf
 exact JO _ _ _ _ _ h ⟨rfl,rfl⟩
theorem abM {GC:p'} {qa:p'} {ox:p'} {HP:p'→Int→p'→Option qq} {mu:Int} {mv:Int} {b:qk} {qd:ql} {s1:qq} {v:qq} {Q:q8} {qu:List au} {p8:List I}  (JO:∀ (Jv:p') (Ip:Int) (HA:p') (qu:List au) (p8:List I),HP Jv Ip HA=some v→qO 99 [(1,(.ay (qd.map qQ) qd.length .shared)),(2,(.ptr 0 0)),(5,(.ay (s1.map (qv p4)) s1.length (.uniq 1))),(6,(p9 Jv (.own 2))),(7,(hY Ip)),(8,(p9 HA (.own 2)))] p8→Q .normal p8 (qI b::qu)) (qf:qO 99 [(1,(.ay (qd.map qQ) qd.length .shared)),(2,(.ptr 0 0)),(5,(.ay (s1.map (qv p4)) s1.length (.uniq 1))),(6,(p9 GC (.own 2))),(7,(hY mu)),(8,(p9 qa (.own 2))),(9,(p9 ox (.own 2))),(13,(hY mv))] p8) (h:HZ GC qa ox HP mu mv=some v) :
  dG Tryz.prog HC 50 0 none HT p8 (qI b::qu) Q:=by
 obtain ⟨qJ,rfl⟩:=qf.ex;unfold HZ at h;unfold HT;conv=>whnf
 refine qw h id fun HO h=>?_;rw [qY p4 2 qy ox mv HO];conv=>whnf
 obtain ⟨It,h⟩:=qF h;refine ⟨by first | rfl | (simp;done) | exact ry p4 _ qy _,by have:=It;omega,rfl,It,?_⟩
 erw [rI p4 qa (ix ox mv)];conv=>whnf
 refine qw h id fun KM h=>?_;rw [qY p4 2 qy ox mv KM];conv=>whnf
 obtain ⟨KN,h⟩:=qF h;refine ⟨by first | rfl | (simp;done) | exact ry p4 _ qy _,by have:=KN;omega,rfl,KN,?_⟩
 erw [rI p4 GC (ix ox mv)];conv=>whnf
 exact JO _ _ _ _ _ h ⟨rfl,rfl⟩
theorem amp {b:qk} {GC:p'} {qa:p'} {qg:Int} {si:p'→Option qq} {qs:p'} {qo:Int} {qd:ql} {s1:qq} {qn:Int} {v:qq} {Q:q8}  {GO:List au} (JP:∀ (x6:p') (qu:List au) (p8:List I),si x6=some v→qO 99 [(1,(.ay (qd.map qQ) qd.length .shared)),(2,(.ptr 0 0)),(5,(.ay (s1.map (qv p4)) s1.length (.uniq 1))),(6,(p9 GC (.own 2))),(7,(hY qn)),(8,(p9 qa (.own 2))),(9,(p9 x6 (.uniq 2))),(10,(hY qg))] p8→Q (.exit 6) p8 (qI b::qu)) {T:List I} (bZ:eX (ED false [1,2,2,7,87]) T=GI 99 [(1,(.ay (qd.map qQ) qd.length .shared)),(2,(.ptr 0 0)),(5,(.ay (s1.map (qv p4)) s1.length (.uniq 1))),(6,(p9 GC (.own 2))),(7,(hY qn)),(8,(p9 qa (.own 2))),(9,(p9 qs (.uniq 2))),(10,(hY qg)),(11,(hY qo))]) (h:Ha b GC qa qg si qe qs qo=some v) :
  dG Tryz.prog HC 50 0 none HS T (qI b::GO) Q:=by
 unfold HS;obtain ⟨N',HM⟩:∃ c,IM=c:=⟨_,rfl⟩;rw [HM];refine wp_loop bZ ?_;refine .intro (fun m T H=>∃ (qs:p') (qo:Int) (H2:List au),T=GI 99 [(1,(.ay (qd.map qQ) qd.length .shared)),(2,(.ptr 0 0)),(5,(.ay (s1.map (qv p4)) s1.length (.uniq 1))),(6,(p9 GC (.own 2))),(7,(hY qn)),(8,(p9 qa (.own 2))),(9,(p9 qs (.uniq 2))),(10,(hY qg)),(11,(hY qo))]∧H=(qI b::H2)∧Ha b GC qa qg si m qs qo=some v) qe ⟨qs,qo,GO,rfl,rfl,h⟩ ?_;clear h bZ;rintro m T H ⟨qs,qo,H2,rfl,rfl,h⟩;cases m
 ·exact q_ h
 rename_i m;rw [Ha.eq_2] at h;conv=>whnf
 refine bs h (fun qp h=>?_) fun qp h=>?_
 ·rw [qp];conv=>whnf
  subst HM;unfold IM;obtain ⟨LO,rr⟩:∃ c,rG=c:=⟨_,rfl⟩;rw [rr];obtain ⟨LP,Hl⟩:∃ c,Io=c:=⟨_,rfl⟩;rw [Hl];conv=>whnf
  refine D1 (x:=au.cells [(hY (0:Int)),(hY (0:Int))]) (by first | exact qz.h | rfl | (simp [su,I.settle];done)) ?_
  conv=>whnf
  rw [rE];subst Hl;unfold Io;obtain ⟨LQ,rN⟩:∃ c,sc=c:=⟨_,rfl⟩;rw [rN];conv=>whnf
  obtain ⟨r1,qC,h⟩:=qj h;refine ⟨qt.pl,_,J1 qC,Hu,?_⟩;conv=>whnf
  cases r1
  ·(conv=>whnf);replace h:=r0 rfl h;refine bs h (fun qH h=>?_) fun qH h=>?_
   ·rw [qH];(conv=>whnf);subst rN;unfold sc;(conv=>whnf);refine D1 (x:=au.cells [(hY qg),(hY qo)]) (by first | exact qz.h | rfl | (simp [su,I.settle];done)) ?_
    (conv=>whnf);obtain ⟨qW,h⟩:=qF h;refine ⟨by first | rfl | (simp;done) | exact ry p4 _ qy _,by have:=qW;omega,rfl,qW,?_⟩
    erw [rI p4 qs (qg,qo)];(conv=>whnf);subst rr;unfold rG;(conv=>whnf);exact ⟨m,sv m,(qs++[(qg,qo)]),(w (qo+(1:Int))),_,rfl,rfl,h⟩
   ·rw [qH];(conv=>whnf);refine qw h id fun qU h=>?_;rw [qY p4 2 qy qa (w ((qa.length:Int)-(1:Int))) qU];(conv=>whnf);obtain ⟨r2,qX,h⟩:=qj h;refine ⟨qt.pl,_,Kx qX,HB rfl,?_⟩;(conv=>whnf);refine D1 (x:=au.cells [(hY qg),(hY qo)]) (by first | exact qz.h | rfl | (simp [su,I.settle];done)) ?_
    (conv=>whnf);obtain ⟨eJ,ra,h⟩:=qj h;refine ⟨qt.pl,_,Kv ra,HB rfl,?_⟩;(conv=>whnf);subst rN;unfold sc;(conv=>whnf);refine bs h (fun qL h=>?_) fun qL h=>?_
    ·rw [qL];(conv=>whnf);refine D1 (x:=au.cells [(hY qg),(hY qo)]) (by first | exact qz.h | rfl | (simp [su,I.settle];done)) ?_
     (conv=>whnf);obtain ⟨q9,h⟩:=qF h;refine ⟨by first | rfl | (simp;done) | exact ry p4 _ qy _,by have:=q9;omega,rfl,q9,?_⟩
     erw [rI p4 qs (qg,qo)];(conv=>whnf);subst rr;unfold rG;(conv=>whnf);exact ⟨m,sv m,(qs++[(qg,qo)]),(w (qo+(1:Int))),_,rfl,rfl,h⟩
    ·rw [qL];(conv=>whnf);subst rr;unfold rG;(conv=>whnf);exact ⟨m,sv m,qs,(w (qo+(1:Int))),_,rfl,rfl,h⟩
  ·(conv=>whnf);replace h:=rZ rfl h;subst rN;unfold sc;(conv=>whnf);subst rr;unfold rG;(conv=>whnf);exact ⟨m,sv m,qs,(w (qo+(1:Int))),_,rfl,rfl,h⟩
 ·rw [qp];conv=>whnf
  exact JP _ _ _ h ⟨rfl,rfl⟩
theorem amk {b:qk} {GC:p'} {qa:p'} {ru:p'→Option qq} {rh:p'} {qg:Int} {qd:ql} {s1:qq} {qn:Int} {v:qq} {Q:q8}  {H3:List au} (IG:∀ (ox:p') (qu:List au) (p8:List I),ru ox=some v→qO 99 [(1,(.ay (qd.map qQ) qd.length .shared)),(2,(.ptr 0 0)),(5,(.ay (s1.map (qv p4)) s1.length (.uniq 1))),(6,(p9 GC (.own 2))),(7,(hY qn)),(8,(p9 qa (.own 2))),(9,(p9 ox (.uniq 2)))] p8→Q (.exit 4) p8 (qI b::qu)) {T:List I} (bZ:eX (ED false [1,2,2,6,88]) T=GI 99 [(1,(.ay (qd.map qQ) qd.length .shared)),(2,(.ptr 0 0)),(5,(.ay (s1.map (qv p4)) s1.length (.uniq 1))),(6,(p9 GC (.own 2))),(7,(hY qn)),(8,(p9 qa (.own 2))),(9,(p9 rh (.uniq 2))),(10,(hY qg))]) (h:Im b GC qa ru qe rh qg=some v) :
  dG Tryz.prog HC 50 0 none Jq T (qI b::H3) Q:=by
 unfold Jq;obtain ⟨Sq,Jg⟩:∃ c,J4=c:=⟨_,rfl⟩;rw [Jg];refine wp_loop bZ ?_;refine .intro (fun m T H=>∃ (rh:p') (qg:Int) (GO:List au),T=GI 99 [(1,(.ay (qd.map qQ) qd.length .shared)),(2,(.ptr 0 0)),(5,(.ay (s1.map (qv p4)) s1.length (.uniq 1))),(6,(p9 GC (.own 2))),(7,(hY qn)),(8,(p9 qa (.own 2))),(9,(p9 rh (.uniq 2))),(10,(hY qg))]∧H=(qI b::GO)∧Im b GC qa ru m rh qg=some v) qe ⟨rh,qg,H3,rfl,rfl,h⟩ ?_;clear h bZ;rintro m T H ⟨rh,qg,GO,rfl,rfl,h⟩;cases m
 ·exact q_ h
 rename_i m;rw [Im.eq_2] at h;conv=>whnf
 refine bs h (fun fs h=>?_) fun fs h=>?_
 ·rw [fs];conv=>whnf
  subst Jg;unfold J4;obtain ⟨N9,HL⟩:∃ c,IL=c:=⟨_,rfl⟩;rw [HL];obtain ⟨N_,H8⟩:∃ c,Jp=c:=⟨_,rfl⟩;rw [H8];conv=>whnf
  subst H8;unfold Jp;obtain ⟨Oa,H9⟩:∃ c,HS=c:=⟨_,rfl⟩;rw [H9];conv=>whnf
  subst H9;refine amp ?_ (by exact rfl) h;intro x6 qu p8 h qf;obtain ⟨qJ,rfl⟩:=qf.ex;conv=>whnf
  subst HL;unfold IL;conv=>whnf
  exact ⟨m,sv m,x6,(w (qg+(1:Int))),_,rfl,rfl,h⟩
 ·rw [fs];conv=>whnf
  exact IG _ _ _ h ⟨rfl,rfl⟩
theorem abL {GC:p'} {qa:p'} {ox:p'} {HP:p'→Int→p'→Option qq} {dx:Int} {dq:Int} {b:qk} {qd:ql} {s1:qq} {v:qq} {Q:q8} {qu:List au} {p8:List I}  (JO:∀ (F0:p') (rC:Int) (rH:p') (qu:List au) (p8:List I),HP F0 rC rH=some v→qO 99 [(1,(.ay (qd.map qQ) qd.length .shared)),(2,(.ptr 0 0)),(5,(.ay (s1.map (qv p4)) s1.length (.uniq 1))),(6,(p9 F0 (.own 2))),(7,(hY rC)),(8,(p9 rH (.own 2)))] p8→Q .normal p8 (qI b::qu)) (qf:qO 99 [(1,(.ay (qd.map qQ) qd.length .shared)),(2,(.ptr 0 0)),(5,(.ay (s1.map (qv p4)) s1.length (.uniq 1))),(6,(p9 GC (.own 2))),(7,(hY dx)),(8,(p9 qa (.own 2))),(9,(p9 ox (.own 2))),(13,(hY dq))] p8) (h:HZ GC qa ox HP dx dq=some v) :
  dG Tryz.prog HC 50 0 none HT p8 (qI b::qu) Q:=by
 obtain ⟨qJ,rfl⟩:=qf.ex;unfold HZ at h;unfold HT;conv=>whnf
 refine qw h id fun G_ h=>?_;rw [qY p4 2 qy ox dq G_];conv=>whnf
 obtain ⟨rT,h⟩:=qF h;refine ⟨by first | rfl | (simp;done) | exact ry p4 _ qy _,by have:=rT;omega,rfl,rT,?_⟩
 erw [rI p4 qa (ix ox dq)];conv=>whnf
 refine qw h id fun Hn h=>?_;rw [qY p4 2 qy ox dq Hn];conv=>whnf
 obtain ⟨rX,h⟩:=qF h;refine ⟨by first | rfl | (simp;done) | exact ry p4 _ qy _,by have:=rX;omega,rfl,rX,?_⟩
 erw [rI p4 GC (ix ox dq)];conv=>whnf
 exact JO _ _ _ _ _ h ⟨rfl,rfl⟩
theorem amf {b:qk} {qd:ql} {qT:p'→Int→p'→Option qq} {GC:p'} {qn:Int} {qa:p'} {s1:qq} {v:qq} {Q:q8}  {La:List au} {rf:iB} (HX:∀ (F0:p') (rC:Int) (rH:p') (qu:List au) (p8:List I),qT F0 rC rH=some v→qO 99 [(1,(.ay (qd.map qQ) qd.length .shared)),(2,(.ptr 0 0)),(5,(.ay (s1.map (qv p4)) s1.length (.uniq 1))),(6,(p9 F0 (.own 2))),(7,(hY rC)),(8,(p9 rH (.uniq 2)))] p8→Q (.exit 2) p8 (qI b::qu)) (L4:∀ (F0:p') (rC:Int) (rH:p') (qu:List au) (p8:List I),qT F0 rC rH=some v→qO 99 [(1,(.ay (qd.map qQ) qd.length .shared)),(2,(.ptr 0 0)),(5,(.ay (s1.map (qv p4)) s1.length (.uniq 1))),(6,(p9 F0 (.own 2))),(7,(hY rC)),(8,(p9 rH (.own 2)))] p8→Q (.exit 2) p8 (qI b::qu)) (Ho:(rf=(.uniq 2)∨rf=(.own 2))) {T:List I} (bZ:eX (ED false [1,2,2,4,90]) T=GI 99 [(1,(.ay (qd.map qQ) qd.length .shared)),(2,(.ptr 0 0)),(5,(.ay (s1.map (qv p4)) s1.length (.uniq 1))),(6,(p9 GC (.own 2))),(7,(hY qn)),(8,(.ay (qa.flatMap p4) qa.length rf))]) (h:I9 b qd qT qe GC qn qa=some v) :
  dG Tryz.prog HC 50 0 none ML T (qI b::La) Q:=by
 unfold ML;obtain ⟨aeA,LX⟩:∃ c,MN=c:=⟨_,rfl⟩;rw [LX];refine wp_loop bZ ?_;refine .intro (fun m T H=>∃ (GC:p') (qn:Int) (qa:p') (H3:List au) (rf:iB),(rf=(.uniq 2)∨rf=(.own 2))∧T=GI 99 [(1,(.ay (qd.map qQ) qd.length .shared)),(2,(.ptr 0 0)),(5,(.ay (s1.map (qv p4)) s1.length (.uniq 1))),(6,(p9 GC (.own 2))),(7,(hY qn)),(8,(.ay (qa.flatMap p4) qa.length rf))]∧H=(qI b::H3)∧I9 b qd qT m GC qn qa=some v) qe ⟨GC,qn,qa,La,_,Ho,rfl,rfl,h⟩ ?_;clear h bZ;rintro m T H ⟨GC,qn,qa,H3,rf,Ho,rfl,rfl,h⟩;cases m
 ·exact q_ h
 rename_i m;rw [I9.eq_2] at h;rcases Ho with rfl | rfl
 ·conv=>whnf
  subst LX;unfold MN;obtain ⟨So,Jf⟩:∃ c,J3=c:=⟨_,rfl⟩;rw [Jf];obtain ⟨Sp,JK⟩:∃ c,K5=c:=⟨_,rfl⟩;rw [JK];conv=>whnf
  subst JK;unfold K5;obtain ⟨Sr,JL⟩:∃ c,Jq=c:=⟨_,rfl⟩;rw [JL];conv=>whnf
  subst JL;refine amh ?_ ?_ (.inl rfl) (by exact rfl) h
  ·intro ox qu p8 h qf;obtain ⟨qJ,rfl⟩:=qf.ex;(conv=>whnf);subst Jf;unfold J3;obtain ⟨Ob,H_⟩:∃ c,Jr=c:=⟨_,rfl⟩;rw [H_];(conv=>whnf);refine bs h (fun rn h=>?_) fun rn h=>?_
   ·rw [rn];(conv=>whnf);exact HX _ _ _ _ _ h ⟨rfl,rfl⟩
   ·rw [rn];(conv=>whnf);subst H_;unfold Jr;obtain ⟨Oc,Ia⟩:∃ c,Js=c:=⟨_,rfl⟩;rw [Ia];(conv=>whnf);subst Ia;unfold Js;obtain ⟨Od,Ib⟩:∃ c,Jt=c:=⟨_,rfl⟩;rw [Ib];obtain ⟨Og,Hm⟩:∃ c,HT=c:=⟨_,rfl⟩;rw [Hm];(conv=>whnf);subst Ib;unfold Jt;obtain ⟨Oe,Ic⟩:∃ c,Ju=c:=⟨_,rfl⟩;rw [Ic];(conv=>whnf);refine bs h (fun rb h=>?_) fun rb h=>?_
    ·rw [rb];(conv=>whnf);refine qw h id fun rY h=>?_;(conv=>whnf);refine qw h id fun GY h=>?_;rw [rS qQ qd (qn.tmod (qd.length:Int)) GY];(conv=>whnf);refine qw h id fun sa h=>?_;(conv=>whnf);subst Ic;unfold Ju;(conv=>whnf);subst Hm;refine abH ?_ (by exact ⟨rfl,rfl⟩) h;intro r8 sn Hs qu p8 h qf;obtain ⟨qJ,rfl⟩:=qf.ex;(conv=>whnf);exact ⟨m,sv m,r8,sn,Hs,_,_,(.inl rfl),rfl,rfl,h⟩
    ·rw [rb];(conv=>whnf);subst Hm;refine abH ?_ (by exact ⟨rfl,rfl⟩) h;intro r8 sn Hs qu p8 h qf;obtain ⟨qJ,rfl⟩:=qf.ex;(conv=>whnf);exact ⟨m,sv m,r8,sn,Hs,_,_,(.inl rfl),rfl,rfl,h⟩
  ·intro ox qu p8 h qf;obtain ⟨qJ,rfl⟩:=qf.ex;(conv=>whnf);subst Jf;unfold J3;obtain ⟨Ob,H_⟩:∃ c,Jr=c:=⟨_,rfl⟩;rw [H_];(conv=>whnf);refine bs h (fun Hd h=>?_) fun Hd h=>?_
   ·rw [Hd];(conv=>whnf);exact L4 _ _ _ _ _ h ⟨rfl,rfl⟩
   ·rw [Hd];(conv=>whnf);subst H_;unfold Jr;obtain ⟨Oc,Ia⟩:∃ c,Js=c:=⟨_,rfl⟩;rw [Ia];(conv=>whnf);subst Ia;unfold Js;obtain ⟨Od,Ib⟩:∃ c,Jt=c:=⟨_,rfl⟩;rw [Ib];obtain ⟨Og,Hm⟩:∃ c,HT=c:=⟨_,rfl⟩;rw [Hm];(conv=>whnf);subst Ib;unfold Jt;obtain ⟨Oe,Ic⟩:∃ c,Ju=c:=⟨_,rfl⟩;rw [Ic];(conv=>whnf);refine bs h (fun sf h=>?_) fun sf h=>?_
    ·rw [sf];(conv=>whnf);refine qw h id fun HV h=>?_;(conv=>whnf);refine qw h id fun HW h=>?_;rw [rS qQ qd (qn.tmod (qd.length:Int)) HW];(conv=>whnf);refine qw h id fun Is h=>?_;(conv=>whnf);subst Ic;unfold Ju;(conv=>whnf);subst Hm;refine abM ?_ (by exact ⟨rfl,rfl⟩) h;intro Jv Ip HA qu p8 h qf;obtain ⟨qJ,rfl⟩:=qf.ex;(conv=>whnf);exact ⟨m,sv m,Jv,Ip,HA,_,_,(.inr rfl),rfl,rfl,h⟩
    ·rw [sf];(conv=>whnf);subst Hm;refine abM ?_ (by exact ⟨rfl,rfl⟩) h;intro Jv Ip HA qu p8 h qf;obtain ⟨qJ,rfl⟩:=qf.ex;(conv=>whnf);exact ⟨m,sv m,Jv,Ip,HA,_,_,(.inr rfl),rfl,rfl,h⟩
 ·conv=>whnf
  subst LX;unfold MN;obtain ⟨So,Jf⟩:∃ c,J3=c:=⟨_,rfl⟩;rw [Jf];obtain ⟨Sp,JK⟩:∃ c,K5=c:=⟨_,rfl⟩;rw [JK];conv=>whnf
  subst JK;unfold K5;obtain ⟨Sr,JL⟩:∃ c,Jq=c:=⟨_,rfl⟩;rw [JL];conv=>whnf
  subst JL;refine amk ?_ (by exact rfl) h;intro ox qu p8 h qf;obtain ⟨qJ,rfl⟩:=qf.ex;conv=>whnf
  subst Jf;unfold J3;obtain ⟨Ob,H_⟩:∃ c,Jr=c:=⟨_,rfl⟩;rw [H_];conv=>whnf
  refine bs h (fun rn h=>?_) fun rn h=>?_
  ·rw [rn];(conv=>whnf);exact L4 _ _ _ _ _ h ⟨rfl,rfl⟩
  ·rw [rn];(conv=>whnf);subst H_;unfold Jr;obtain ⟨Oc,Ia⟩:∃ c,Js=c:=⟨_,rfl⟩;rw [Ia];(conv=>whnf);subst Ia;unfold Js;obtain ⟨Od,Ib⟩:∃ c,Jt=c:=⟨_,rfl⟩;rw [Ib];obtain ⟨Og,Hm⟩:∃ c,HT=c:=⟨_,rfl⟩;rw [Hm];(conv=>whnf);subst Ib;unfold Jt;obtain ⟨Oe,Ic⟩:∃ c,Ju=c:=⟨_,rfl⟩;rw [Ic];(conv=>whnf);refine bs h (fun rb h=>?_) fun rb h=>?_
   ·rw [rb];(conv=>whnf);refine qw h id fun rY h=>?_;(conv=>whnf);refine qw h id fun GY h=>?_;rw [rS qQ qd (qn.tmod (qd.length:Int)) GY];(conv=>whnf);refine qw h id fun sa h=>?_;(conv=>whnf);subst Ic;unfold Ju;(conv=>whnf);subst Hm;refine abL ?_ (by exact ⟨rfl,rfl⟩) h;intro F0 rC rH qu p8 h qf;obtain ⟨qJ,rfl⟩:=qf.ex;(conv=>whnf);exact ⟨m,sv m,F0,rC,rH,_,_,(.inr rfl),rfl,rfl,h⟩
   ·rw [rb];(conv=>whnf);subst Hm;refine abL ?_ (by exact ⟨rfl,rfl⟩) h;intro F0 rC rH qu p8 h qf;obtain ⟨qJ,rfl⟩:=qf.ex;(conv=>whnf);exact ⟨m,sv m,F0,rC,rH,_,_,(.inr rfl),rfl,rfl,h⟩
theorem amm {b:qk} {GC:p'} {qa:p'} {qg:Int} {si:p'→Option qq} {qs:p'} {qo:Int} {qd:ql} {s1:qq} {qn:Int} {v:qq} {Q:q8}  {GO:List au} {rf:iB} (JP:∀ (x6:p') (qu:List au) (p8:List I),si x6=some v→qO 99 [(1,(.ay (qd.map qQ) qd.length .shared)),(2,(.ptr 0 0)),(5,(.ay (s1.map (qv p4)) s1.length (.uniq 1))),(6,(p9 GC (.own 2))),(7,(hY qn)),(8,(p9 qa (.uniq 2))),(9,(p9 x6 (.uniq 2))),(10,(hY qg))] p8→Q (.exit 6) p8 (qI b::qu)) (Tu:∀ (x6:p') (qu:List au) (p8:List I),si x6=some v→qO 99 [(1,(.ay (qd.map qQ) qd.length .shared)),(2,(.ptr 0 0)),(5,(.ay (s1.map (qv p4)) s1.length (.uniq 1))),(6,(p9 GC (.own 2))),(7,(hY qn)),(8,(p9 qa (.own 2))),(9,(p9 x6 (.uniq 2))),(10,(hY qg))] p8→Q (.exit 6) p8 (qI b::qu)) (Ho:(rf=(.uniq 2)∨rf=(.own 2))) {T:List I} (bZ:eX (ED false [1,2,2,7,87]) T=GI 99 [(1,(.ay (qd.map qQ) qd.length .shared)),(2,(.ptr 0 0)),(5,(.ay (s1.map (qv p4)) s1.length (.uniq 1))),(6,(p9 GC (.own 2))),(7,(hY qn)),(8,(.ay (qa.flatMap p4) qa.length rf)),(9,(p9 qs (.uniq 2))),(10,(hY qg)),(11,(hY qo))]) (h:Ha b GC qa qg si qe qs qo=some v) :
  dG Tryz.prog HC 50 0 none HS T (qI b::GO) Q:=by
 unfold HS;obtain ⟨N',HM⟩:∃ c,IM=c:=⟨_,rfl⟩;rw [HM];refine wp_loop bZ ?_;refine .intro (fun m T H=>∃ (qs:p') (qo:Int) (H2:List au) (rf:iB),(rf=(.uniq 2)∨rf=(.own 2))∧T=GI 99 [(1,(.ay (qd.map qQ) qd.length .shared)),(2,(.ptr 0 0)),(5,(.ay (s1.map (qv p4)) s1.length (.uniq 1))),(6,(p9 GC (.own 2))),(7,(hY qn)),(8,(.ay (qa.flatMap p4) qa.length rf)),(9,(p9 qs (.uniq 2))),(10,(hY qg)),(11,(hY qo))]∧H=(qI b::H2)∧Ha b GC qa qg si m qs qo=some v) qe ⟨qs,qo,GO,_,Ho,rfl,rfl,h⟩ ?_;clear h bZ;rintro m T H ⟨qs,qo,H2,rf,Ho,rfl,rfl,h⟩;cases m
 ·exact q_ h
 rename_i m;rw [Ha.eq_2] at h;rcases Ho with rfl | rfl
 ·conv=>whnf
  refine bs h (fun qp h=>?_) fun qp h=>?_
  ·rw [qp];(conv=>whnf);subst HM;unfold IM;obtain ⟨LO,rr⟩:∃ c,rG=c:=⟨_,rfl⟩;rw [rr];obtain ⟨LP,Hl⟩:∃ c,Io=c:=⟨_,rfl⟩;rw [Hl];(conv=>whnf);refine D1 (x:=au.cells [(hY (0:Int)),(hY (0:Int))]) (by first | exact qz.h | rfl | (simp [su,I.settle];done)) ?_
   (conv=>whnf);rw [rE];subst Hl;unfold Io;obtain ⟨LQ,rN⟩:∃ c,sc=c:=⟨_,rfl⟩;rw [rN];(conv=>whnf);obtain ⟨r1,qC,h⟩:=qj h;refine ⟨qt.pl,_,J1 qC,Hu,?_⟩;(conv=>whnf);cases r1
   ·(conv=>whnf);replace h:=r0 rfl h;refine bs h (fun qH h=>?_) fun qH h=>?_
    ·rw [qH];(conv=>whnf);subst rN;unfold sc;(conv=>whnf);refine D1 (x:=au.cells [(hY qg),(hY qo)]) (by first | exact qz.h | rfl | (simp [su,I.settle];done)) ?_
     (conv=>whnf);obtain ⟨qW,h⟩:=qF h;refine ⟨by first | rfl | (simp;done) | exact ry p4 _ qy _,by have:=qW;omega,rfl,qW,?_⟩
     erw [rI p4 qs (qg,qo)];(conv=>whnf);subst rr;unfold rG;(conv=>whnf);exact ⟨m,sv m,(qs++[(qg,qo)]),(w (qo+(1:Int))),_,_,(.inr rfl),rfl,rfl,h⟩
    ·rw [qH];(conv=>whnf);refine qw h id fun qU h=>?_;rw [qY p4 2 qy qa (w ((qa.length:Int)-(1:Int))) qU];(conv=>whnf);obtain ⟨r2,qX,h⟩:=qj h;refine ⟨qt.pl,_,Kx qX,HB rfl,?_⟩;(conv=>whnf);refine D1 (x:=au.cells [(hY qg),(hY qo)]) (by first | exact qz.h | rfl | (simp [su,I.settle];done)) ?_
     (conv=>whnf);obtain ⟨eJ,ra,h⟩:=qj h;refine ⟨qt.pl,_,Kv ra,HB rfl,?_⟩;(conv=>whnf);subst rN;unfold sc;(conv=>whnf);refine bs h (fun qL h=>?_) fun qL h=>?_
     ·rw [qL];(conv=>whnf);refine D1 (x:=au.cells [(hY qg),(hY qo)]) (by first | exact qz.h | rfl | (simp [su,I.settle];done)) ?_
      (conv=>whnf);obtain ⟨q9,h⟩:=qF h;refine ⟨by first | rfl | (simp;done) | exact ry p4 _ qy _,by have:=q9;omega,rfl,q9,?_⟩
      erw [rI p4 qs (qg,qo)];(conv=>whnf);subst rr;unfold rG;(conv=>whnf);exact ⟨m,sv m,(qs++[(qg,qo)]),(w (qo+(1:Int))),_,_,(.inr rfl),rfl,rfl,h⟩
     ·rw [qL];(conv=>whnf);subst rr;unfold rG;(conv=>whnf);exact ⟨m,sv m,qs,(w (qo+(1:Int))),_,_,(.inr rfl),rfl,rfl,h⟩
   ·(conv=>whnf);replace h:=rZ rfl h;subst rN;unfold sc;(conv=>whnf);subst rr;unfold rG;(conv=>whnf);exact ⟨m,sv m,qs,(w (qo+(1:Int))),_,_,(.inl rfl),rfl,rfl,h⟩
  ·rw [qp];(conv=>whnf);exact JP _ _ _ h ⟨rfl,rfl⟩
 ·conv=>whnf
  refine bs h (fun qp h=>?_) fun qp h=>?_
  ·rw [qp];(conv=>whnf);subst HM;unfold IM;obtain ⟨LO,rr⟩:∃ c,rG=c:=⟨_,rfl⟩;rw [rr];obtain ⟨LP,Hl⟩:∃ c,Io=c:=⟨_,rfl⟩;rw [Hl];(conv=>whnf);refine D1 (x:=au.cells [(hY (0:Int)),(hY (0:Int))]) (by first | exact qz.h | rfl | (simp [su,I.settle];done)) ?_
   (conv=>whnf);rw [rE];subst Hl;unfold Io;obtain ⟨LQ,rN⟩:∃ c,sc=c:=⟨_,rfl⟩;rw [rN];(conv=>whnf);obtain ⟨r1,qC,h⟩:=qj h;refine ⟨qt.pl,_,J1 qC,Hu,?_⟩;(conv=>whnf);cases r1
   ·(conv=>whnf);replace h:=r0 rfl h;refine bs h (fun qH h=>?_) fun qH h=>?_
    ·rw [qH];(conv=>whnf);subst rN;unfold sc;(conv=>whnf);refine D1 (x:=au.cells [(hY qg),(hY qo)]) (by first | exact qz.h | rfl | (simp [su,I.settle];done)) ?_
     (conv=>whnf);obtain ⟨qW,h⟩:=qF h;refine ⟨by first | rfl | (simp;done) | exact ry p4 _ qy _,by have:=qW;omega,rfl,qW,?_⟩
     erw [rI p4 qs (qg,qo)];(conv=>whnf);subst rr;unfold rG;(conv=>whnf);exact ⟨m,sv m,(qs++[(qg,qo)]),(w (qo+(1:Int))),_,_,(.inr rfl),rfl,rfl,h⟩
    ·rw [qH];(conv=>whnf);refine qw h id fun qU h=>?_;rw [qY p4 2 qy qa (w ((qa.length:Int)-(1:Int))) qU];(conv=>whnf);obtain ⟨r2,qX,h⟩:=qj h;refine ⟨qt.pl,_,Kx qX,HB rfl,?_⟩;(conv=>whnf);refine D1 (x:=au.cells [(hY qg),(hY qo)]) (by first | exact qz.h | rfl | (simp [su,I.settle];done)) ?_
     (conv=>whnf);obtain ⟨eJ,ra,h⟩:=qj h;refine ⟨qt.pl,_,Kv ra,HB rfl,?_⟩;(conv=>whnf);subst rN;unfold sc;(conv=>whnf);refine bs h (fun qL h=>?_) fun qL h=>?_
     ·rw [qL];(conv=>whnf);refine D1 (x:=au.cells [(hY qg),(hY qo)]) (by first | exact qz.h | rfl | (simp [su,I.settle];done)) ?_
      (conv=>whnf);obtain ⟨q9,h⟩:=qF h;refine ⟨by first | rfl | (simp;done) | exact ry p4 _ qy _,by have:=q9;omega,rfl,q9,?_⟩
      erw [rI p4 qs (qg,qo)];(conv=>whnf);subst rr;unfold rG;(conv=>whnf);exact ⟨m,sv m,(qs++[(qg,qo)]),(w (qo+(1:Int))),_,_,(.inr rfl),rfl,rfl,h⟩
     ·rw [qL];(conv=>whnf);subst rr;unfold rG;(conv=>whnf);exact ⟨m,sv m,qs,(w (qo+(1:Int))),_,_,(.inr rfl),rfl,rfl,h⟩
   ·(conv=>whnf);replace h:=rZ rfl h;subst rN;unfold sc;(conv=>whnf);subst rr;unfold rG;(conv=>whnf);exact ⟨m,sv m,qs,(w (qo+(1:Int))),_,_,(.inr rfl),rfl,rfl,h⟩
  ·rw [qp];(conv=>whnf);exact Tu _ _ _ h ⟨rfl,rfl⟩
theorem amo {b:qk} {GC:p'} {qa:p'} {qg:Int} {si:p'→Option qq} {qs:p'} {qo:Int} {qd:ql} {s1:qq} {qn:Int} {v:qq} {Q:q8}  {GO:List au} (JP:∀ (x6:p') (qu:List au) (p8:List I),si x6=some v→qO 99 [(1,(.ay (qd.map qQ) qd.length .shared)),(2,(.ptr 0 0)),(5,(.ay (s1.map (qv p4)) s1.length (.uniq 1))),(6,(p9 GC (.own 2))),(7,(hY qn)),(8,(p9 qa (.own 2))),(9,(p9 x6 (.uniq 2))),(10,(hY qg))] p8→Q (.exit 6) p8 (qI b::qu)) {T:List I} (bZ:eX (ED false [1,2,2,7,87]) T=GI 99 [(1,(.ay (qd.map qQ) qd.length .shared)),(2,(.ptr 0 0)),(5,(.ay (s1.map (qv p4)) s1.length (.uniq 1))),(6,(p9 GC (.own 2))),(7,(hY qn)),(8,(p9 qa (.own 2))),(9,(p9 qs (.uniq 2))),(10,(hY qg)),(11,(hY qo))]) (h:Ha b GC qa qg si qe qs qo=some v) :
  dG Tryz.prog HC 50 0 none HS T (qI b::GO) Q:=by
 unfold HS;obtain ⟨N',HM⟩:∃ c,IM=c:=⟨_,rfl⟩;rw [HM];refine wp_loop bZ ?_;refine .intro (fun m T H=>∃ (qs:p') (qo:Int) (H2:List au),T=GI 99 [(1,(.ay (qd.map qQ) qd.length .shared)),(2,(.ptr 0 0)),(5,(.ay (s1.map (qv p4)) s1.length (.uniq 1))),(6,(p9 GC (.own 2))),(7,(hY qn)),(8,(p9 qa (.own 2))),(9,(p9 qs (.uniq 2))),(10,(hY qg)),(11,(hY qo))]∧H=(qI b::H2)∧Ha b GC qa qg si m qs qo=some v) qe ⟨qs,qo,GO,rfl,rfl,h⟩ ?_;clear h bZ;rintro m T H ⟨qs,qo,H2,rfl,rfl,h⟩;cases m
 ·exact q_ h
 rename_i m;rw [Ha.eq_2] at h;conv=>whnf
 refine bs h (fun qp h=>?_) fun qp h=>?_
 ·rw [qp];conv=>whnf
  subst HM;unfold IM;obtain ⟨LO,rr⟩:∃ c,rG=c:=⟨_,rfl⟩;rw [rr];obtain ⟨LP,Hl⟩:∃ c,Io=c:=⟨_,rfl⟩;rw [Hl];conv=>whnf
  refine D1 (x:=au.cells [(hY (0:Int)),(hY (0:Int))]) (by first | exact qz.h | rfl | (simp [su,I.settle];done)) ?_
  conv=>whnf
  rw [rE];subst Hl;unfold Io;obtain ⟨LQ,rN⟩:∃ c,sc=c:=⟨_,rfl⟩;rw [rN];conv=>whnf
  obtain ⟨r1,qC,h⟩:=qj h;refine ⟨qt.pl,_,J1 qC,Hu,?_⟩;conv=>whnf
  cases r1
  ·(conv=>whnf);replace h:=r0 rfl h;refine bs h (fun qH h=>?_) fun qH h=>?_
   ·rw [qH];(conv=>whnf);subst rN;unfold sc;(conv=>whnf);refine D1 (x:=au.cells [(hY qg),(hY qo)]) (by first | exact qz.h | rfl | (simp [su,I.settle];done)) ?_
    (conv=>whnf);obtain ⟨qW,h⟩:=qF h;refine ⟨by first | rfl | (simp;done) | exact ry p4 _ qy _,by have:=qW;omega,rfl,qW,?_⟩
    erw [rI p4 qs (qg,qo)];(conv=>whnf);subst rr;unfold rG;(conv=>whnf);exact ⟨m,sv m,(qs++[(qg,qo)]),(w (qo+(1:Int))),_,rfl,rfl,h⟩
   ·rw [qH];(conv=>whnf);refine qw h id fun qU h=>?_;rw [qY p4 2 qy qa (w ((qa.length:Int)-(1:Int))) qU];(conv=>whnf);obtain ⟨r2,qX,h⟩:=qj h;refine ⟨qt.pl,_,Kx qX,HB rfl,?_⟩;(conv=>whnf);refine D1 (x:=au.cells [(hY qg),(hY qo)]) (by first | exact qz.h | rfl | (simp [su,I.settle];done)) ?_
    (conv=>whnf);obtain ⟨eJ,ra,h⟩:=qj h;refine ⟨qt.pl,_,Kv ra,HB rfl,?_⟩;(conv=>whnf);subst rN;unfold sc;(conv=>whnf);refine bs h (fun qL h=>?_) fun qL h=>?_
    ·rw [qL];(conv=>whnf);refine D1 (x:=au.cells [(hY qg),(hY qo)]) (by first | exact qz.h | rfl | (simp [su,I.settle];done)) ?_
     (conv=>whnf);obtain ⟨q9,h⟩:=qF h;refine ⟨by first | rfl | (simp;done) | exact ry p4 _ qy _,by have:=q9;omega,rfl,q9,?_⟩
     erw [rI p4 qs (qg,qo)];(conv=>whnf);subst rr;unfold rG;(conv=>whnf);exact ⟨m,sv m,(qs++[(qg,qo)]),(w (qo+(1:Int))),_,rfl,rfl,h⟩
    ·rw [qL];(conv=>whnf);subst rr;unfold rG;(conv=>whnf);exact ⟨m,sv m,qs,(w (qo+(1:Int))),_,rfl,rfl,h⟩
  ·(conv=>whnf);replace h:=rZ rfl h;subst rN;unfold sc;(conv=>whnf);subst rr;unfold rG;(conv=>whnf);exact ⟨m,sv m,qs,(w (qo+(1:Int))),_,rfl,rfl,h⟩
 ·rw [qp];conv=>whnf
  exact JP _ _ _ h ⟨rfl,rfl⟩
theorem ami {b:qk} {GC:p'} {qa:p'} {ru:p'→Option qq} {rh:p'} {qg:Int} {qd:ql} {s1:qq} {qn:Int} {v:qq} {Q:q8}  {H3:List au} {rf:iB} (IG:∀ (ox:p') (qu:List au) (p8:List I),ru ox=some v→qO 99 [(1,(.ay (qd.map qQ) qd.length .shared)),(2,(.ptr 0 0)),(5,(.ay (s1.map (qv p4)) s1.length (.uniq 1))),(6,(p9 GC (.own 2))),(7,(hY qn)),(8,(p9 qa (.uniq 2))),(9,(p9 ox (.uniq 2)))] p8→Q (.exit 4) p8 (qI b::qu)) (OG:∀ (ox:p') (qu:List au) (p8:List I),ru ox=some v→qO 99 [(1,(.ay (qd.map qQ) qd.length .shared)),(2,(.ptr 0 0)),(5,(.ay (s1.map (qv p4)) s1.length (.uniq 1))),(6,(p9 GC (.own 2))),(7,(hY qn)),(8,(p9 qa (.own 2))),(9,(p9 ox (.uniq 2)))] p8→Q (.exit 4) p8 (qI b::qu)) (Ho:(rf=(.uniq 2)∨rf=(.own 2))) {T:List I} (bZ:eX (ED false [1,2,2,6,88]) T=GI 99 [(1,(.ay (qd.map qQ) qd.length .shared)),(2,(.ptr 0 0)),(5,(.ay (s1.map (qv p4)) s1.length (.uniq 1))),(6,(p9 GC (.own 2))),(7,(hY qn)),(8,(.ay (qa.flatMap p4) qa.length rf)),(9,(p9 rh (.uniq 2))),(10,(hY qg))]) (h:Im b GC qa ru qe rh qg=some v) :
  dG Tryz.prog HC 50 0 none Jq T (qI b::H3) Q:=by
 unfold Jq;obtain ⟨Sq,Jg⟩:∃ c,J4=c:=⟨_,rfl⟩;rw [Jg];refine wp_loop bZ ?_;refine .intro (fun m T H=>∃ (rh:p') (qg:Int) (GO:List au) (rf:iB),(rf=(.uniq 2)∨rf=(.own 2))∧T=GI 99 [(1,(.ay (qd.map qQ) qd.length .shared)),(2,(.ptr 0 0)),(5,(.ay (s1.map (qv p4)) s1.length (.uniq 1))),(6,(p9 GC (.own 2))),(7,(hY qn)),(8,(.ay (qa.flatMap p4) qa.length rf)),(9,(p9 rh (.uniq 2))),(10,(hY qg))]∧H=(qI b::GO)∧Im b GC qa ru m rh qg=some v) qe ⟨rh,qg,H3,_,Ho,rfl,rfl,h⟩ ?_;clear h bZ;rintro m T H ⟨rh,qg,GO,rf,Ho,rfl,rfl,h⟩;cases m
 ·exact q_ h
 rename_i m;rw [Im.eq_2] at h;rcases Ho with rfl | rfl
 ·conv=>whnf
  refine bs h (fun fs h=>?_) fun fs h=>?_
  ·rw [fs];(conv=>whnf);subst Jg;unfold J4;obtain ⟨N9,HL⟩:∃ c,IL=c:=⟨_,rfl⟩;rw [HL];obtain ⟨N_,H8⟩:∃ c,Jp=c:=⟨_,rfl⟩;rw [H8];(conv=>whnf);subst H8;unfold Jp;obtain ⟨Oa,H9⟩:∃ c,HS=c:=⟨_,rfl⟩;rw [H9];(conv=>whnf);subst H9;refine amm ?_ ?_ (.inl rfl) (by exact rfl) h
   ·intro x6 qu p8 h qf;obtain ⟨qJ,rfl⟩:=qf.ex;(conv=>whnf);subst HL;unfold IL;(conv=>whnf);exact ⟨m,sv m,x6,(w (qg+(1:Int))),_,_,(.inl rfl),rfl,rfl,h⟩
   ·intro x6 qu p8 h qf;obtain ⟨qJ,rfl⟩:=qf.ex;(conv=>whnf);subst HL;unfold IL;(conv=>whnf);exact ⟨m,sv m,x6,(w (qg+(1:Int))),_,_,(.inr rfl),rfl,rfl,h⟩
  ·rw [fs];(conv=>whnf);exact IG _ _ _ h ⟨rfl,rfl⟩
 ·conv=>whnf
  refine bs h (fun fs h=>?_) fun fs h=>?_
  ·rw [fs];(conv=>whnf);subst Jg;unfold J4;obtain ⟨N9,HL⟩:∃ c,IL=c:=⟨_,rfl⟩;rw [HL];obtain ⟨N_,H8⟩:∃ c,Jp=c:=⟨_,rfl⟩;rw [H8];(conv=>whnf);subst H8;unfold Jp;obtain ⟨Oa,H9⟩:∃ c,HS=c:=⟨_,rfl⟩;rw [H9];(conv=>whnf);subst H9;refine amo ?_ (by exact rfl) h;intro x6 qu p8 h qf;obtain ⟨qJ,rfl⟩:=qf.ex;(conv=>whnf);subst HL;unfold IL;(conv=>whnf);exact ⟨m,sv m,x6,(w (qg+(1:Int))),_,_,(.inr rfl),rfl,rfl,h⟩
  ·rw [fs];(conv=>whnf);exact OG _ _ _ h ⟨rfl,rfl⟩
theorem abI {GC:p'} {qa:p'} {ox:p'} {HP:p'→Int→p'→Option qq} {dx:Int} {dq:Int} {b:qk} {qd:ql} {s1:qq} {v:qq} {Q:q8} {qu:List au} {p8:List I}  (JO:∀ (r8:p') (sn:Int) (Hs:p') (qu:List au) (p8:List I),HP r8 sn Hs=some v→qO 99 [(1,(.ay (qd.map qQ) qd.length .shared)),(2,(.ptr 0 0)),(5,(.ay (s1.map (qv p4)) s1.length (.uniq 1))),(6,(p9 r8 (.own 2))),(7,(hY sn)),(8,(p9 Hs (.uniq 2)))] p8→Q .normal p8 (qI b::qu)) (qf:qO 99 [(1,(.ay (qd.map qQ) qd.length .shared)),(2,(.ptr 0 0)),(5,(.ay (s1.map (qv p4)) s1.length (.uniq 1))),(6,(p9 GC (.own 2))),(7,(hY dx)),(8,(p9 qa (.uniq 2))),(9,(p9 ox (.own 2))),(13,(hY dq))] p8) (h:HZ GC qa ox HP dx dq=some v) :
  dG Tryz.prog HC 50 0 none HT p8 (qI b::qu) Q:=by
 obtain ⟨qJ,rfl⟩:=qf.ex;unfold HZ at h;unfold HT;conv=>whnf
 refine qw h id fun G_ h=>?_;rw [qY p4 2 qy ox dq G_];conv=>whnf
 obtain ⟨rT,h⟩:=qF h;refine ⟨by first | rfl | (simp;done) | exact ry p4 _ qy _,by have:=rT;omega,rfl,rT,?_⟩
 erw [rI p4 qa (ix ox dq)];conv=>whnf
 refine qw h id fun Hn h=>?_;rw [qY p4 2 qy ox dq Hn];conv=>whnf
 obtain ⟨rX,h⟩:=qF h;refine ⟨by first | rfl | (simp;done) | exact ry p4 _ qy _,by have:=rX;omega,rfl,rX,?_⟩
 erw [rI p4 GC (ix ox dq)];conv=>whnf
 exact JO _ _ _ _ _ h ⟨rfl,rfl⟩
theorem abK {GC:p'} {qa:p'} {ox:p'} {HP:p'→Int→p'→Option qq} {mu:Int} {mv:Int} {b:qk} {qd:ql} {s1:qq} {v:qq} {Q:q8} {qu:List au} {p8:List I}  (JO:∀ (Jv:p') (Ip:Int) (HA:p') (qu:List au) (p8:List I),HP Jv Ip HA=some v→qO 99 [(1,(.ay (qd.map qQ) qd.length .shared)),(2,(.ptr 0 0)),(5,(.ay (s1.map (qv p4)) s1.length (.uniq 1))),(6,(p9 Jv (.own 2))),(7,(hY Ip)),(8,(p9 HA (.own 2)))] p8→Q .normal p8 (qI b::qu)) (qf:qO 99 [(1,(.ay (qd.map qQ) qd.length .shared)),(2,(.ptr 0 0)),(5,(.ay (s1.map (qv p4)) s1.length (.uniq 1))),(6,(p9 GC (.own 2))),(7,(hY mu)),(8,(p9 qa (.own 2))),(9,(p9 ox (.own 2))),(13,(hY mv))] p8) (h:HZ GC qa ox HP mu mv=some v) :
  dG Tryz.prog HC 50 0 none HT p8 (qI b::qu) Q:=by
 obtain ⟨qJ,rfl⟩:=qf.ex;unfold HZ at h;unfold HT;conv=>whnf
 refine qw h id fun HO h=>?_;rw [qY p4 2 qy ox mv HO];conv=>whnf
 obtain ⟨It,h⟩:=qF h;refine ⟨by first | rfl | (simp;done) | exact ry p4 _ qy _,by have:=It;omega,rfl,It,?_⟩
 erw [rI p4 qa (ix ox mv)];conv=>whnf
 refine qw h id fun KM h=>?_;rw [qY p4 2 qy ox mv KM];conv=>whnf
 obtain ⟨KN,h⟩:=qF h;refine ⟨by first | rfl | (simp;done) | exact ry p4 _ qy _,by have:=KN;omega,rfl,KN,?_⟩
 erw [rI p4 GC (ix ox mv)];conv=>whnf
 exact JO _ _ _ _ _ h ⟨rfl,rfl⟩
theorem amn {b:qk} {GC:p'} {qa:p'} {qg:Int} {si:p'→Option qq} {qs:p'} {qo:Int} {qd:ql} {s1:qq} {qn:Int} {v:qq} {Q:q8}  {GO:List au} (JP:∀ (x6:p') (qu:List au) (p8:List I),si x6=some v→qO 99 [(1,(.ay (qd.map qQ) qd.length .shared)),(2,(.ptr 0 0)),(5,(.ay (s1.map (qv p4)) s1.length (.uniq 1))),(6,(p9 GC (.own 2))),(7,(hY qn)),(8,(p9 qa (.own 2))),(9,(p9 x6 (.uniq 2))),(10,(hY qg))] p8→Q (.exit 6) p8 (qI b::qu)) {T:List I} (bZ:eX (ED false [1,2,2,7,87]) T=GI 99 [(1,(.ay (qd.map qQ) qd.length .shared)),(2,(.ptr 0 0)),(5,(.ay (s1.map (qv p4)) s1.length (.uniq 1))),(6,(p9 GC (.own 2))),(7,(hY qn)),(8,(p9 qa (.own 2))),(9,(p9 qs (.uniq 2))),(10,(hY qg)),(11,(hY qo))]) (h:Ha b GC qa qg si qe qs qo=some v) :
  dG Tryz.prog HC 50 0 none HS T (qI b::GO) Q:=by
 unfold HS;obtain ⟨N',HM⟩:∃ c,IM=c:=⟨_,rfl⟩;rw [HM];refine wp_loop bZ ?_;refine .intro (fun m T H=>∃ (qs:p') (qo:Int) (H2:List au),T=GI 99 [(1,(.ay (qd.map qQ) qd.length .shared)),(2,(.ptr 0 0)),(5,(.ay (s1.map (qv p4)) s1.length (.uniq 1))),(6,(p9 GC (.own 2))),(7,(hY qn)),(8,(p9 qa (.own 2))),(9,(p9 qs (.uniq 2))),(10,(hY qg)),(11,(hY qo))]∧H=(qI b::H2)∧Ha b GC qa qg si m qs qo=some v) qe ⟨qs,qo,GO,rfl,rfl,h⟩ ?_;clear h bZ;rintro m T H ⟨qs,qo,H2,rfl,rfl,h⟩;cases m
 ·exact q_ h
 rename_i m;rw [Ha.eq_2] at h;conv=>whnf
 refine bs h (fun qp h=>?_) fun qp h=>?_
 ·rw [qp];conv=>whnf
  subst HM;unfold IM;obtain ⟨LO,rr⟩:∃ c,rG=c:=⟨_,rfl⟩;rw [rr];obtain ⟨LP,Hl⟩:∃ c,Io=c:=⟨_,rfl⟩;rw [Hl];conv=>whnf
  refine D1 (x:=au.cells [(hY (0:Int)),(hY (0:Int))]) (by first | exact qz.h | rfl | (simp [su,I.settle];done)) ?_
  conv=>whnf
  rw [rE];subst Hl;unfold Io;obtain ⟨LQ,rN⟩:∃ c,sc=c:=⟨_,rfl⟩;rw [rN];conv=>whnf
  obtain ⟨r1,qC,h⟩:=qj h;refine ⟨qt.pl,_,J1 qC,Hu,?_⟩;conv=>whnf
  cases r1
  ·(conv=>whnf);replace h:=r0 rfl h;refine bs h (fun qH h=>?_) fun qH h=>?_
   ·rw [qH];(conv=>whnf);subst rN;unfold sc;(conv=>whnf);refine D1 (x:=au.cells [(hY qg),(hY qo)]) (by first | exact qz.h | rfl | (simp [su,I.settle];done)) ?_
    (conv=>whnf);obtain ⟨qW,h⟩:=qF h;refine ⟨by first | rfl | (simp;done) | exact ry p4 _ qy _,by have:=qW;omega,rfl,qW,?_⟩
    erw [rI p4 qs (qg,qo)];(conv=>whnf);subst rr;unfold rG;(conv=>whnf);exact ⟨m,sv m,(qs++[(qg,qo)]),(w (qo+(1:Int))),_,rfl,rfl,h⟩
   ·rw [qH];(conv=>whnf);refine qw h id fun qU h=>?_;rw [qY p4 2 qy qa (w ((qa.length:Int)-(1:Int))) qU];(conv=>whnf);obtain ⟨r2,qX,h⟩:=qj h;refine ⟨qt.pl,_,Kx qX,HB rfl,?_⟩;(conv=>whnf);refine D1 (x:=au.cells [(hY qg),(hY qo)]) (by first | exact qz.h | rfl | (simp [su,I.settle];done)) ?_
    (conv=>whnf);obtain ⟨eJ,ra,h⟩:=qj h;refine ⟨qt.pl,_,Kv ra,HB rfl,?_⟩;(conv=>whnf);subst rN;unfold sc;(conv=>whnf);refine bs h (fun qL h=>?_) fun qL h=>?_
    ·rw [qL];(conv=>whnf);refine D1 (x:=au.cells [(hY qg),(hY qo)]) (by first | exact qz.h | rfl | (simp [su,I.settle];done)) ?_
     (conv=>whnf);obtain ⟨q9,h⟩:=qF h;refine ⟨by first | rfl | (simp;done) | exact ry p4 _ qy _,by have:=q9;omega,rfl,q9,?_⟩
     erw [rI p4 qs (qg,qo)];(conv=>whnf);subst rr;unfold rG;(conv=>whnf);exact ⟨m,sv m,(qs++[(qg,qo)]),(w (qo+(1:Int))),_,rfl,rfl,h⟩
    ·rw [qL];(conv=>whnf);subst rr;unfold rG;(conv=>whnf);exact ⟨m,sv m,qs,(w (qo+(1:Int))),_,rfl,rfl,h⟩
  ·(conv=>whnf);replace h:=rZ rfl h;subst rN;unfold sc;(conv=>whnf);subst rr;unfold rG;(conv=>whnf);exact ⟨m,sv m,qs,(w (qo+(1:Int))),_,rfl,rfl,h⟩
 ·rw [qp];conv=>whnf
  exact JP _ _ _ h ⟨rfl,rfl⟩
theorem amj {b:qk} {GC:p'} {qa:p'} {ru:p'→Option qq} {rh:p'} {qg:Int} {qd:ql} {s1:qq} {qn:Int} {v:qq} {Q:q8}  {H3:List au} (IG:∀ (ox:p') (qu:List au) (p8:List I),ru ox=some v→qO 99 [(1,(.ay (qd.map qQ) qd.length .shared)),(2,(.ptr 0 0)),(5,(.ay (s1.map (qv p4)) s1.length (.uniq 1))),(6,(p9 GC (.own 2))),(7,(hY qn)),(8,(p9 qa (.own 2))),(9,(p9 ox (.uniq 2)))] p8→Q (.exit 4) p8 (qI b::qu)) {T:List I} (bZ:eX (ED false [1,2,2,6,88]) T=GI 99 [(1,(.ay (qd.map qQ) qd.length .shared)),(2,(.ptr 0 0)),(5,(.ay (s1.map (qv p4)) s1.length (.uniq 1))),(6,(p9 GC (.own 2))),(7,(hY qn)),(8,(p9 qa (.own 2))),(9,(p9 rh (.uniq 2))),(10,(hY qg))]) (h:Im b GC qa ru qe rh qg=some v) :
  dG Tryz.prog HC 50 0 none Jq T (qI b::H3) Q:=by
 unfold Jq;obtain ⟨Sq,Jg⟩:∃ c,J4=c:=⟨_,rfl⟩;rw [Jg];refine wp_loop bZ ?_;refine .intro (fun m T H=>∃ (rh:p') (qg:Int) (GO:List au),T=GI 99 [(1,(.ay (qd.map qQ) qd.length .shared)),(2,(.ptr 0 0)),(5,(.ay (s1.map (qv p4)) s1.length (.uniq 1))),(6,(p9 GC (.own 2))),(7,(hY qn)),(8,(p9 qa (.own 2))),(9,(p9 rh (.uniq 2))),(10,(hY qg))]∧H=(qI b::GO)∧Im b GC qa ru m rh qg=some v) qe ⟨rh,qg,H3,rfl,rfl,h⟩ ?_;clear h bZ;rintro m T H ⟨rh,qg,GO,rfl,rfl,h⟩;cases m
 ·exact q_ h
 rename_i m;rw [Im.eq_2] at h;conv=>whnf
 refine bs h (fun fs h=>?_) fun fs h=>?_
 ·rw [fs];conv=>whnf
  subst Jg;unfold J4;obtain ⟨N9,HL⟩:∃ c,IL=c:=⟨_,rfl⟩;rw [HL];obtain ⟨N_,H8⟩:∃ c,Jp=c:=⟨_,rfl⟩;rw [H8];conv=>whnf
  subst H8;unfold Jp;obtain ⟨Oa,H9⟩:∃ c,HS=c:=⟨_,rfl⟩;rw [H9];conv=>whnf
  subst H9;refine amn ?_ (by exact rfl) h;intro x6 qu p8 h qf;obtain ⟨qJ,rfl⟩:=qf.ex;conv=>whnf
  subst HL;unfold IL;conv=>whnf
  exact ⟨m,sv m,x6,(w (qg+(1:Int))),_,rfl,rfl,h⟩
 ·rw [fs];conv=>whnf
  exact IG _ _ _ h ⟨rfl,rfl⟩
theorem abJ {GC:p'} {qa:p'} {ox:p'} {HP:p'→Int→p'→Option qq} {dx:Int} {dq:Int} {b:qk} {qd:ql} {s1:qq} {v:qq} {Q:q8} {qu:List au} {p8:List I}  (JO:∀ (F0:p') (rC:Int) (rH:p') (qu:List au) (p8:List I),HP F0 rC rH=some v→qO 99 [(1,(.ay (qd.map qQ) qd.length .shared)),(2,(.ptr 0 0)),(5,(.ay (s1.map (qv p4)) s1.length (.uniq 1))),(6,(p9 F0 (.own 2))),(7,(hY rC)),(8,(p9 rH (.own 2)))] p8→Q .normal p8 (qI b::qu)) (qf:qO 99 [(1,(.ay (qd.map qQ) qd.length .shared)),(2,(.ptr 0 0)),(5,(.ay (s1.map (qv p4)) s1.length (.uniq 1))),(6,(p9 GC (.own 2))),(7,(hY dx)),(8,(p9 qa (.own 2))),(9,(p9 ox (.own 2))),(13,(hY dq))] p8) (h:HZ GC qa ox HP dx dq=some v) :
  dG Tryz.prog HC 50 0 none HT p8 (qI b::qu) Q:=by
 obtain ⟨qJ,rfl⟩:=qf.ex;unfold HZ at h;unfold HT;conv=>whnf
 refine qw h id fun G_ h=>?_;rw [qY p4 2 qy ox dq G_];conv=>whnf
 obtain ⟨rT,h⟩:=qF h;refine ⟨by first | rfl | (simp;done) | exact ry p4 _ qy _,by have:=rT;omega,rfl,rT,?_⟩
 erw [rI p4 qa (ix ox dq)];conv=>whnf
 refine qw h id fun Hn h=>?_;rw [qY p4 2 qy ox dq Hn];conv=>whnf
 obtain ⟨rX,h⟩:=qF h;refine ⟨by first | rfl | (simp;done) | exact ry p4 _ qy _,by have:=rX;omega,rfl,rX,?_⟩
 erw [rI p4 GC (ix ox dq)];conv=>whnf
 exact JO _ _ _ _ _ h ⟨rfl,rfl⟩
theorem amg {b:qk} {qd:ql} {qT:p'→Int→p'→Option qq} {GC:p'} {qn:Int} {qa:p'} {s1:qq} {v:qq} {Q:q8}  {La:List au} {rf:iB} (HX:∀ (F0:p') (rC:Int) (rH:p') (qu:List au) (p8:List I),qT F0 rC rH=some v→qO 99 [(1,(.ay (qd.map qQ) qd.length .shared)),(2,(.ptr 0 0)),(5,(.ay (s1.map (qv p4)) s1.length (.uniq 1))),(6,(p9 F0 (.own 2))),(7,(hY rC)),(8,(p9 rH (.uniq 2)))] p8→Q (.exit 2) p8 (qI b::qu)) (L4:∀ (F0:p') (rC:Int) (rH:p') (qu:List au) (p8:List I),qT F0 rC rH=some v→qO 99 [(1,(.ay (qd.map qQ) qd.length .shared)),(2,(.ptr 0 0)),(5,(.ay (s1.map (qv p4)) s1.length (.uniq 1))),(6,(p9 F0 (.own 2))),(7,(hY rC)),(8,(p9 rH (.own 2)))] p8→Q (.exit 2) p8 (qI b::qu)) (Ho:(rf=(.uniq 2)∨rf=(.own 2))) {T:List I} (bZ:eX (ED false [1,2,2,4,90]) T=GI 99 [(1,(.ay (qd.map qQ) qd.length .shared)),(2,(.ptr 0 0)),(5,(.ay (s1.map (qv p4)) s1.length (.uniq 1))),(6,(p9 GC (.own 2))),(7,(hY qn)),(8,(.ay (qa.flatMap p4) qa.length rf))]) (h:I9 b qd qT qe GC qn qa=some v) :
  dG Tryz.prog HC 50 0 none ML T (qI b::La) Q:=by
 unfold ML;obtain ⟨aeA,LX⟩:∃ c,MN=c:=⟨_,rfl⟩;rw [LX];refine wp_loop bZ ?_;refine .intro (fun m T H=>∃ (GC:p') (qn:Int) (qa:p') (H3:List au) (rf:iB),(rf=(.uniq 2)∨rf=(.own 2))∧T=GI 99 [(1,(.ay (qd.map qQ) qd.length .shared)),(2,(.ptr 0 0)),(5,(.ay (s1.map (qv p4)) s1.length (.uniq 1))),(6,(p9 GC (.own 2))),(7,(hY qn)),(8,(.ay (qa.flatMap p4) qa.length rf))]∧H=(qI b::H3)∧I9 b qd qT m GC qn qa=some v) qe ⟨GC,qn,qa,La,_,Ho,rfl,rfl,h⟩ ?_;clear h bZ;rintro m T H ⟨GC,qn,qa,H3,rf,Ho,rfl,rfl,h⟩;cases m
 ·exact q_ h
 rename_i m;rw [I9.eq_2] at h;rcases Ho with rfl | rfl
 ·conv=>whnf
  subst LX;unfold MN;obtain ⟨So,Jf⟩:∃ c,J3=c:=⟨_,rfl⟩;rw [Jf];obtain ⟨Sp,JK⟩:∃ c,K5=c:=⟨_,rfl⟩;rw [JK];conv=>whnf
  subst JK;unfold K5;obtain ⟨Sr,JL⟩:∃ c,Jq=c:=⟨_,rfl⟩;rw [JL];conv=>whnf
  subst JL;refine ami ?_ ?_ (.inl rfl) (by exact rfl) h
  ·intro ox qu p8 h qf;obtain ⟨qJ,rfl⟩:=qf.ex;(conv=>whnf);subst Jf;unfold J3;obtain ⟨Ob,H_⟩:∃ c,Jr=c:=⟨_,rfl⟩;rw [H_];(conv=>whnf);refine bs h (fun rn h=>?_) fun rn h=>?_
   ·rw [rn];(conv=>whnf);exact HX _ _ _ _ _ h ⟨rfl,rfl⟩
   ·rw [rn];(conv=>whnf);subst H_;unfold Jr;obtain ⟨Oc,Ia⟩:∃ c,Js=c:=⟨_,rfl⟩;rw [Ia];(conv=>whnf);subst Ia;unfold Js;obtain ⟨Od,Ib⟩:∃ c,Jt=c:=⟨_,rfl⟩;rw [Ib];obtain ⟨Og,Hm⟩:∃ c,HT=c:=⟨_,rfl⟩;rw [Hm];(conv=>whnf);subst Ib;unfold Jt;obtain ⟨Oe,Ic⟩:∃ c,Ju=c:=⟨_,rfl⟩;rw [Ic];(conv=>whnf);refine bs h (fun rb h=>?_) fun rb h=>?_
    ·rw [rb];(conv=>whnf);refine qw h id fun rY h=>?_;(conv=>whnf);refine qw h id fun GY h=>?_;rw [rS qQ qd (qn.tmod (qd.length:Int)) GY];(conv=>whnf);refine qw h id fun sa h=>?_;(conv=>whnf);subst Ic;unfold Ju;(conv=>whnf);subst Hm;refine abI ?_ (by exact ⟨rfl,rfl⟩) h;intro r8 sn Hs qu p8 h qf;obtain ⟨qJ,rfl⟩:=qf.ex;(conv=>whnf);exact ⟨m,sv m,r8,sn,Hs,_,_,(.inl rfl),rfl,rfl,h⟩
    ·rw [rb];(conv=>whnf);subst Hm;refine abI ?_ (by exact ⟨rfl,rfl⟩) h;intro r8 sn Hs qu p8 h qf;obtain ⟨qJ,rfl⟩:=qf.ex;(conv=>whnf);exact ⟨m,sv m,r8,sn,Hs,_,_,(.inl rfl),rfl,rfl,h⟩
  ·intro ox qu p8 h qf;obtain ⟨qJ,rfl⟩:=qf.ex;(conv=>whnf);subst Jf;unfold J3;obtain ⟨Ob,H_⟩:∃ c,Jr=c:=⟨_,rfl⟩;rw [H_];(conv=>whnf);refine bs h (fun Hd h=>?_) fun Hd h=>?_
   ·rw [Hd];(conv=>whnf);exact L4 _ _ _ _ _ h ⟨rfl,rfl⟩
   ·rw [Hd];(conv=>whnf);subst H_;unfold Jr;obtain ⟨Oc,Ia⟩:∃ c,Js=c:=⟨_,rfl⟩;rw [Ia];(conv=>whnf);subst Ia;unfold Js;obtain ⟨Od,Ib⟩:∃ c,Jt=c:=⟨_,rfl⟩;rw [Ib];obtain ⟨Og,Hm⟩:∃ c,HT=c:=⟨_,rfl⟩;rw [Hm];(conv=>whnf);subst Ib;unfold Jt;obtain ⟨Oe,Ic⟩:∃ c,Ju=c:=⟨_,rfl⟩;rw [Ic];(conv=>whnf);refine bs h (fun sf h=>?_) fun sf h=>?_
    ·rw [sf];(conv=>whnf);refine qw h id fun HV h=>?_;(conv=>whnf);refine qw h id fun HW h=>?_;rw [rS qQ qd (qn.tmod (qd.length:Int)) HW];(conv=>whnf);refine qw h id fun Is h=>?_;(conv=>whnf);subst Ic;unfold Ju;(conv=>whnf);subst Hm;refine abK ?_ (by exact ⟨rfl,rfl⟩) h;intro Jv Ip HA qu p8 h qf;obtain ⟨qJ,rfl⟩:=qf.ex;(conv=>whnf);exact ⟨m,sv m,Jv,Ip,HA,_,_,(.inr rfl),rfl,rfl,h⟩
    ·rw [sf];(conv=>whnf);subst Hm;refine abK ?_ (by exact ⟨rfl,rfl⟩) h;intro Jv Ip HA qu p8 h qf;obtain ⟨qJ,rfl⟩:=qf.ex;(conv=>whnf);exact ⟨m,sv m,Jv,Ip,HA,_,_,(.inr rfl),rfl,rfl,h⟩
 ·conv=>whnf
  subst LX;unfold MN;obtain ⟨So,Jf⟩:∃ c,J3=c:=⟨_,rfl⟩;rw [Jf];obtain ⟨Sp,JK⟩:∃ c,K5=c:=⟨_,rfl⟩;rw [JK];conv=>whnf
  subst JK;unfold K5;obtain ⟨Sr,JL⟩:∃ c,Jq=c:=⟨_,rfl⟩;rw [JL];conv=>whnf
  subst JL;refine amj ?_ (by exact rfl) h;intro ox qu p8 h qf;obtain ⟨qJ,rfl⟩:=qf.ex;conv=>whnf
  subst Jf;unfold J3;obtain ⟨Ob,H_⟩:∃ c,Jr=c:=⟨_,rfl⟩;rw [H_];conv=>whnf
  refine bs h (fun rn h=>?_) fun rn h=>?_
  ·rw [rn];(conv=>whnf);exact L4 _ _ _ _ _ h ⟨rfl,rfl⟩
  ·rw [rn];(conv=>whnf);subst H_;unfold Jr;obtain ⟨Oc,Ia⟩:∃ c,Js=c:=⟨_,rfl⟩;rw [Ia];(conv=>whnf);subst Ia;unfold Js;obtain ⟨Od,Ib⟩:∃ c,Jt=c:=⟨_,rfl⟩;rw [Ib];obtain ⟨Og,Hm⟩:∃ c,HT=c:=⟨_,rfl⟩;rw [Hm];(conv=>whnf);subst Ib;unfold Jt;obtain ⟨Oe,Ic⟩:∃ c,Ju=c:=⟨_,rfl⟩;rw [Ic];(conv=>whnf);refine bs h (fun rb h=>?_) fun rb h=>?_
   ·rw [rb];(conv=>whnf);refine qw h id fun rY h=>?_;(conv=>whnf);refine qw h id fun GY h=>?_;rw [rS qQ qd (qn.tmod (qd.length:Int)) GY];(conv=>whnf);refine qw h id fun sa h=>?_;(conv=>whnf);subst Ic;unfold Ju;(conv=>whnf);subst Hm;refine abJ ?_ (by exact ⟨rfl,rfl⟩) h;intro F0 rC rH qu p8 h qf;obtain ⟨qJ,rfl⟩:=qf.ex;(conv=>whnf);exact ⟨m,sv m,F0,rC,rH,_,_,(.inr rfl),rfl,rfl,h⟩
   ·rw [rb];(conv=>whnf);subst Hm;refine abJ ?_ (by exact ⟨rfl,rfl⟩) h;intro F0 rC rH qu p8 h qf;obtain ⟨qJ,rfl⟩:=qf.ex;(conv=>whnf);exact ⟨m,sv m,F0,rC,rH,_,_,(.inr rfl),rfl,rfl,h⟩
theorem ame {b:qk} {qd:ql} {qi:qq→Option qq} {s1:qq} {s2:p'} {dj:Int} {v:qq} {Q:q8}   {H4:iB} (rD:∀ (r8:qq) (bD:au) (qu:List au) (p8:List I),qi r8=some v→qO 99 [(5,(.ay (r8.map (qv p4)) r8.length (.uniq 1)))] p8→Q (.exit 0) p8 (bD::qu)) (LZ:(H4=(.uniq 2)∨H4=(.own 2))) {T:List I} (bZ:eX (ED false [1,2,2,3,91]) T=GI 99 [(1,(.ay (qd.map qQ) qd.length .shared)),(2,(.ptr 0 0)),(5,(.ay (s1.map (qv p4)) s1.length (.uniq 1))),(6,(.ay (s2.flatMap p4) s2.length H4)),(7,(hY dj))]) (h:LB b qd qi qe s1 s2 dj=some v) :
  dG Tryz.prog HC 50 0 none RC T [qI b] Q:=by
 unfold RC;obtain ⟨anm,SO⟩:∃ c,RD=c:=⟨_,rfl⟩;rw [SO];refine wp_loop bZ ?_;refine .intro (fun m T H=>∃ (s1:qq) (s2:p') (dj:Int) (La:List au) (H4:iB),(H4=(.uniq 2)∨H4=(.own 2))∧T=GI 99 [(1,(.ay (qd.map qQ) qd.length .shared)),(2,(.ptr 0 0)),(5,(.ay (s1.map (qv p4)) s1.length (.uniq 1))),(6,(.ay (s2.flatMap p4) s2.length H4)),(7,(hY dj))]∧H=(qI b::La)∧LB b qd qi m s1 s2 dj=some v) qe ⟨s1,s2,dj,[],_,LZ,rfl,rfl,h⟩ ?_;clear h bZ;rintro m T H ⟨s1,s2,dj,La,H4,LZ,rfl,rfl,h⟩;cases m
 ·exact q_ h
 rename_i m;rw [LB.eq_2] at h;rcases LZ with rfl | rfl
 ·conv=>whnf
  refine bs h (fun e0 h=>?_) fun e0 h=>?_
  ·rw [e0];(conv=>whnf);subst SO;unfold RD;obtain ⟨aey,Ot⟩:∃ c,Pv=c:=⟨_,rfl⟩;rw [Ot];(conv=>whnf);subst Ot;unfold Pv;obtain ⟨aez,LW⟩:∃ c,MM=c:=⟨_,rfl⟩;rw [LW];obtain ⟨aev,Oo⟩:∃ c,ML=c:=⟨_,rfl⟩;rw [Oo];(conv=>whnf);subst Oo;refine amf ?_ ?_ (.inl rfl) (by exact rfl) h
   ·intro F0 rC rH qu p8 h qf;obtain ⟨qJ,rfl⟩:=qf.ex;(conv=>whnf);subst LW;unfold MM;(conv=>whnf);obtain ⟨Hd,h⟩:=qF h;refine ⟨by first | rfl | simp,by have:=Hd;omega,rfl,Hd,?_⟩
    erw [J_ (qv p4) s1 rH];(conv=>whnf);exact ⟨m,sv m,(s1++[rH]),F0,rC,_,_,(.inr rfl),rfl,rfl,h⟩
   ·intro F0 rC rH qu p8 h qf;obtain ⟨qJ,rfl⟩:=qf.ex;(conv=>whnf);subst LW;unfold MM;(conv=>whnf);obtain ⟨sf,h⟩:=qF h;refine ⟨by first | rfl | simp,by have:=sf;omega,rfl,sf,?_⟩
    erw [J_ (qv p4) s1 rH];(conv=>whnf);exact ⟨m,sv m,(s1++[rH]),F0,rC,_,_,(.inr rfl),rfl,rfl,h⟩
  ·rw [e0];(conv=>whnf);exact rD _ _ _ _ h ⟨rfl,rfl⟩
 ·conv=>whnf
  refine bs h (fun e0 h=>?_) fun e0 h=>?_
  ·rw [e0];(conv=>whnf);subst SO;unfold RD;obtain ⟨aey,Ot⟩:∃ c,Pv=c:=⟨_,rfl⟩;rw [Ot];(conv=>whnf);subst Ot;unfold Pv;obtain ⟨aez,LW⟩:∃ c,MM=c:=⟨_,rfl⟩;rw [LW];obtain ⟨aev,Oo⟩:∃ c,ML=c:=⟨_,rfl⟩;rw [Oo];(conv=>whnf);subst Oo;refine amg ?_ ?_ (.inl rfl) (by exact rfl) h
   ·intro F0 rC rH qu p8 h qf;obtain ⟨qJ,rfl⟩:=qf.ex;(conv=>whnf);subst LW;unfold MM;(conv=>whnf);obtain ⟨Hd,h⟩:=qF h;refine ⟨by first | rfl | simp,by have:=Hd;omega,rfl,Hd,?_⟩
    erw [J_ (qv p4) s1 rH];(conv=>whnf);exact ⟨m,sv m,(s1++[rH]),F0,rC,_,_,(.inr rfl),rfl,rfl,h⟩
   ·intro F0 rC rH qu p8 h qf;obtain ⟨qJ,rfl⟩:=qf.ex;(conv=>whnf);subst LW;unfold MM;(conv=>whnf);obtain ⟨sf,h⟩:=qF h;refine ⟨by first | rfl | simp,by have:=sf;omega,rfl,sf,?_⟩
    erw [J_ (qv p4) s1 rH];(conv=>whnf);exact ⟨m,sv m,(s1++[rH]),F0,rC,_,_,(.inr rfl),rfl,rfl,h⟩
  ·rw [e0];(conv=>whnf);exact rD _ _ _ _ h ⟨rfl,rfl⟩
theorem amr {b:qk} {qd:ql} {v:qq} (h:Q4 b qd=some v):qD 50 [(.agg [(hY b.1),(.ay (b.2.flatMap p4) b.2.length .shared)]),(.ay (qd.map qQ) qd.length .shared)] (.ay (v.map (qv p4)) v.length .shared):=by
 refine qZ dM ahH rfl (rO (fun _=>(q7 (fun _=>(p5 rfl (p5 rfl rfl))) _ _ _)) _ _ _) fun Q bo=>?_;have jG:qK [.tmp 4] Q (fun v=>(.ay (v.map (qv p4)) v.length .shared)) v:=fun T H bK=>bo _ T H bK;unfold Q4 at h;unfold acO;obtain ⟨HD,qS⟩:∃ c,VY=c:=⟨_,rfl⟩;rw [qS];conv=>whnf
 subst qS;unfold VY;obtain ⟨Lc,sk⟩:∃ c,VZ=c:=⟨_,rfl⟩;rw [sk];conv=>whnf
 subst sk;unfold VZ;obtain ⟨Ss,IT⟩:∃ c,V0=c:=⟨_,rfl⟩;rw [IT];conv=>whnf
 subst IT;unfold V0;obtain ⟨aew,Kc⟩:∃ c,V1=c:=⟨_,rfl⟩;rw [Kc];conv=>whnf
 subst Kc;unfold V1;obtain ⟨aex,Oq⟩:∃ c,V2=c:=⟨_,rfl⟩;rw [Oq];obtain ⟨anl,XU⟩:∃ c,RC=c:=⟨_,rfl⟩;rw [XU];conv=>whnf
 subst XU;refine ame ?_ (.inl rfl) (by exact rfl) h;intro r8 bD qu p8 h qf;obtain ⟨qJ,rfl⟩:=qf.ex;conv=>whnf
 subst Oq;unfold V2;conv=>whnf
 exact qc h jG rfl rfl
end Go.Proofs.YtfakoboiahbhaaaGreat.Ab


namespace Go.Proofs.YtfakoboiahbhaaaGreat.Ab
open Go
section
variable {b:qb}
def Jn (n:Nat) (S:List Int):List Int:=(upto n).map fun x=>if x∈S then 1 else 0
theorem Ny (n:Nat) (S:List Int):(Jn n S).length=n:=by rw [Jn,tj,se]
theorem aj0 {n:Nat} {S:List Int} {x:Int} (h:0≤x∧x<(n:Int)):ix (Jn n S) x=if x∈S then 1 else 0:=by
 obtain ⟨i,rfl⟩:∃ i:Nat,x=i:=⟨x.toNat,by omega⟩;have hi:i<n:=by omega
 rw [rm (by rw [Ny];exact hi)];simp [Jn,upto]
theorem aj1 (n:Nat):List.replicate n (0:Int)=Jn n []:=by
 refine vX (by rw [Ny];simp) fun i ad af=>?_;simp [Jn]
theorem aj2 {n:Nat} {S:List Int} {x:Int} (h:0≤x∧x<(n:Int)):(Jn n S).set x.toNat 1=Jn n (S++[x]):=by
 refine vX (by simp [Ny]) fun i ad af=>?_;rw [List.getElem_set];have hi:i<n:=by rw [Ny] at af;exact af
 simp only [Jn,upto,List.getElem_map,List.getElem_range,te,sQ];by_cases e:x.toNat=i
 ·rw [if_pos e,if_pos (.inr (by omega))]
 ·rw [if_neg e];by_cases aG:(i:Int)∈S
  ·rw [if_pos aG,if_pos (.inl aG)]
  ·rw [if_neg aG,if_neg (by rintro (a8 | a8);exact aG a8;omega)]
theorem abF {r1:List (List Int)×Int} {s2:Int} (ai:0≤s2∧s2<(r1.1.length:Int)) {r D:List Int} (aj:ix r1.1 s2=r) (aN:(D++r).Nodup) (g6:rL b r) (ag:b.2.length≤1000) (rk:D.length≤1000) (C6:r.length≤1000) {k:Int→List Int→Option (List (List Int)×Bool)} :
  ∀ (m i:Nat) (z y:Int),z=((D.length+i:Nat):Int)→y=(i:Int)→i≤r.length→r.length-i<m→Mx b r1 s2 k m z y (Jn b.2.length (D++r.take i))=k ((D.length+r.length:Nat):Int) (Jn b.2.length (D++r))
 | 0,_,_,_,_,_,_,h=>absurd h (by omega)
 | m+1,i,_,_,rfl,rfl,hi,hm=>by
   rw [Mx,qx ai,aj];by_cases h:(i:Int)<(r.length:Int)
   ·(have q':i<r.length:=by omega);have al:=g6 _ (sL q');have agr:r[i] ∉ D++r.take i:=fun hm=>by
     rw [←vn i r,tf q',←sD] at aN;exact (uz.1 aN).2.2 _ hm _ (List.mem_cons_self ..) rfl
    rw [if_pos (decide_eq_true h),qx ai,qx ⟨by omega,h⟩,rm q',if_neg (by simpa using al.1),if_neg (by simpa using al.2),qx ⟨al.1,by simpa using al.2,by rw [Ny];simp⟩,aj0 al,if_neg agr,if_neg (by simp),qx ⟨al.1,by simpa using al.2,by rw [Ny];simp⟩,aj2 al,sD,←tH q',r4 i (by omega),r4 (D.length+i) (by omega)];exact abF ai aj aN g6 ag rk C6 m (i+1) _ _ rfl rfl (by omega) (by omega)
   ·rw [if_neg (by simpa using h),show i=r.length by omega,tE]
theorem abE {r1:List (List Int)×Int} {P:List (List Int)} (Cb:r1.1=P) (aN:P.flatten.Nodup) (g6:∀ r∈P,rL b r) (bO:∀ r∈P,r≠[]) (ag:b.2.length≤1000) (ak:P.length≤1000) {k:Int→List Int→Option (List (List Int)×Bool)} :
  ∀ (m i:Nat) (z y:Int),z=(((P.take i).flatten.length:Nat):Int)→y=(i:Int)→i≤P.length→P.length-i<m→LA b r1 k m z y (Jn b.2.length (P.take i).flatten)=k ((P.flatten.length:Nat):Int) (Jn b.2.length P.flatten)
 | 0,_,_,_,_,_,_,h=>absurd h (by omega)
 | m+1,i,_,_,rfl,rfl,hi,hm=>by
   rw [LA,Cb];have L7:∀ l:List (List Int),(∀ r∈l,rL b r)→rL b l.flatten:=fun l ak x al=>by
    obtain ⟨r,aj,al⟩:=tZ.1 al;exact ak r aj x al
   by_cases h:(i:Int)<(P.length:Int)
   ·(have q':i<P.length:=by omega);have kF:=sL q';(have e:(P.take (i+1)).flatten=(P.take i).flatten++P[i]:=by rw [tH q',vl];simp);have jQ:((P.take i).flatten++P[i]).Nodup:=by
     rw [←e];refine List.Nodup.sublist ?_ aN;(conv=>rhs;rw [←vn (i+1) P,vl]);exact List.sublist_append_left _ _
    have rk:(P.take i).flatten.length≤1000:=sW (Lq (uz.1 jQ).1 (L7 _ fun r aj=>g6 r (uP aj))) ag;have aj:(P[i]).length≤1000:=sW (Lq (uz.1 jQ).2.1 (g6 _ kF)) ag;rw [if_pos (decide_eq_true h)];have key:=abF (b:=b) (r1:=r1) (s2:=(i:Int)) (D:=(P.take i).flatten) (r:=P[i]) (by rw [Cb];exact ⟨by omega,h⟩) (by rw [Cb,rm q']) jQ (g6 _ kF) ag rk aj
     (k:=fun x6 ox=>qh (0≤(i:Int)∧(i:Int)<(r1.1.length:Int)) <| if (decide (((ix r1.1 (i:Int)).length:Int)=(0:Int)))=true then some ([],false) else LA b r1 k m x6 (w ((i:Int)+(1:Int))) ox) qe 0 ((P.take i).flatten.length:Int) 0 (by simp) rfl (by omega) (rR (by omega))
    rw [tu,sU,Cb] at key;rw [key,qx ⟨by omega,h⟩,rm q',if_neg (by simpa using bO _ kF),r4 i (by omega),←e];exact abE Cb aN g6 bO ag ak m (i+1) _ _ (by rw [e,sA]) rfl (by omega) (by omega)
   ·rw [if_neg (by simpa using h),show i=P.length by omega,tE]
theorem Qn (p7:qM b):(parts b).flatten.Perm (upto b.2.length):=(K3 p7).2.1.flat (IJ _)
theorem abD (p7:qM b):NS b=some (parts b,true):=by
 have hlen:=p7.len;have OE:=(K3 p7).2.1.Kb I7;have aC:=Qn p7;have ak:=aC.length_eq;rw [se] at ak;rw [NS,al4 (by omega),sq,Y6 p7,if_neg (by simp),if_neg (by simp;exact OE),qx ⟨by omega,by omega,by omega⟩];have key:=abE (b:=b) (r1:=(parts b,0)) (P:=parts b) rfl (aC.nodup_iff.2 (IJ _)) (fun r aj=>(Y9 p7 r aj).1) (K3 p7).2.1.ne (by omega) (by omega)
  (k:=fun F0 rC=>some (parts b,(decide (F0=(((b.2.length:Int).toNat:Nat):Int))))) qe 0 0 0 (by simp) rfl (by omega) (rR (by omega))
 rw [tu,List.flatten_nil,←aj1] at key;rw [tI];refine key.trans ?_;rw [ak,tI,decide_eq_true rfl]
def HY (b:qb) (done own:Row) (p:Int×Int):Bool:=!(done.any fun q=>decide (q.1=p.1)) && (decide (own=[]) || decide (fin b (own.getD (own.length-1) default)=qP b p))
def JS (b:qb) (done own:Row) (i:Int):Row:=[(i,0),(i,1)].filter (HY b done own)
def IW (b:qb) (done own:Row):Row:=(upto b.2.length).flatMap (JS b done own)
theorem aia {done own:Row} {i:Int}:(JS b done own i).length≤2:=tO _ _
theorem TP {done own:Row}:∀ n:Nat,((upto n).flatMap (JS b done own)).length≤2*n
 | 0=>by simp [upto]
 | n+1=>by
   have:=TP (done:=done) (own:=own) n;have af:=aia (b:=b) (done:=done) (own:=own) (i:=(n:Int));rw [KZ,vh,sA];simp only [List.flatMap_cons,List.flatMap_nil,sU];omega
theorem YL {done own:Row} {p:Int×Int}:p∈IW b done own↔HI b p∧HY b done own p=true:=by
 unfold IW JS;rw [List.mem_flatMap];constructor
 ·rintro ⟨i,hi,aC⟩;rw [s_] at aC;have:=Hq.1 hi;simp only [sH,uc,or_false] at aC;rcases aC with ⟨rfl | rfl,h⟩
  ·exact ⟨⟨this.1,this.2,by simp,by simp⟩,h⟩
  ·exact ⟨⟨this.1,this.2,by simp,by simp⟩,h⟩
 ·rintro ⟨⟨ad,af,aG,a8⟩,h⟩;refine ⟨p.1,Hq.2 ⟨ad,af⟩,s_.2 ⟨?_,h⟩⟩;obtain ⟨x,y⟩:=p;have anq:0≤y:=aG;have anr:y≤1:=a8;rcases (show y=0∨y=1 by omega) with rfl | rfl <;> simp
theorem abQ (p7:qM b) {done own acc:Row} {i:Nat} (hi:i<b.2.length) (a1:done.length≤1000) (aq:own.length≤1000) (bQ:∀ p∈own,HI b p) (cg:acc.length≤1000) {k:Row→Option (List Row)} :
  ∀ (m e:Nat) (z:Int),z=e→e≤2→2-e<m→Ha b done own (i:Int) k m (acc++([((i:Int),(0:Int)),((i:Int),1)].take e).filter (HY b done own)) z=k (acc++JS b done own i)
 | 0,_,_,_,_,h=>absurd h (by omega)
 | m+1,e,_,rfl,he,hm=>by
   rw [Ha];by_cases h:(e:Int)<(2:Int)
   ·have aC:G7 b ((i:Int),(e:Int))=false:=Lw.2 ⟨by simp,by simp;omega,by simp,by simp;omega⟩;have bb:=abQ (k:=k) (acc:=acc) p7 hi a1 aq bQ cg m (e+1) _ rfl (by omega) (by omega);have cM:([((i:Int),(0:Int)),((i:Int),1)].take (e+1)).filter (HY b done own)=([((i:Int),(0:Int)),((i:Int),1)].take e).filter (HY b done own)++if HY b done own ((i:Int),(e:Int))=true then [((i:Int),(e:Int))] else []:=by
     rcases (show e=0∨e=1 by omega) with rfl | rfl
     ·simp [tr]
     ·simp only [List.take_succ_cons,tu,tr,u5];split <;> simp
    have pk:(([((i:Int),(0:Int)),((i:Int),1)].take e).filter (HY b done own)).length≤2:=by
     have:=tO (HY b done own) ([((i:Int),(0:Int)),((i:Int),1)].take e);rw [ta] at this;simp at this;omega
    rw [if_pos (decide_eq_true h),VO done _ a1,sq,r4 e (by omega)];rw [cM] at bb;cases ai:done.any fun q=>decide (q.1=(i:Int)) with
    | true =>
      (have a5:HY b done own ((i:Int),(e:Int))=false:=by unfold HY;simp only [ai];rfl);rw [a5,if_neg (by decide),sU] at bb;rw [if_pos rfl];exact bb
    | false =>
      rw [if_neg (by decide)];by_cases aS:own=[]
      ·(have a5:HY b done own ((i:Int),(e:Int))=true:=by unfold HY;simp only [ai,aS];rfl);rw [a5,if_pos rfl,←sD] at bb;rw [if_pos (by simp [aS]),qx (by rw [sA];omega)];exact bb
      ·have Lh:0<own.length:=tT.2 aS;(have hw:w ((own.length:Int)-1)=((own.length-1:Nat):Int):=by rw [HF (by omega)];omega);(have aU:own.length-1<own.length:=by omega);(have Lm:own.getD (own.length-1) default=own[own.length-1]:=by simp [aU]);have agk:=bQ _ (sL aU);rw [if_neg (by simpa using aS),hw,qx ⟨by omega,by omega⟩,rm aU,VP (Lw.2 agk),sq,VN aC,sq];by_cases M7:fin b own[own.length-1]=qP b ((i:Int),(e:Int))
       ·(have a5:HY b done own ((i:Int),(e:Int))=true:=by unfold HY;simp only [ai,Lm,M7];simp);rw [a5,if_pos rfl,←sD] at bb;rw [if_pos (decide_eq_true M7),qx (by rw [sA];omega)];exact bb
       ·(have a5:HY b done own ((i:Int),(e:Int))=false:=by unfold HY;simp only [ai,Lm];simp [M7,aS]);rw [a5,if_neg (by decide),sU] at bb;rw [if_neg (by simpa using M7)];exact bb
   ·rw [if_neg (by simpa using h),show e=2 by omega];rfl
theorem abP (p7:qM b) {done own:Row} (a1:done.length≤1000) (aq:own.length≤1000) (bQ:∀ p∈own,HI b p) {k:Row→Option (List Row)} :
  ∀ (m i:Nat) (z:Int),z=i→i≤b.2.length→b.2.length-i<m→Im b done own k m ((upto i).flatMap (JS b done own)) z=k (IW b done own)
 | 0,_,_,_,_,h=>absurd h (by omega)
 | m+1,i,_,rfl,hi,hm=>by
   rw [Im];have dD:=p7.len;by_cases h:(i:Int)<(b.2.length:Int)
   ·have ak:=TP (b:=b) (done:=done) (own:=own) i;rw [if_pos (decide_eq_true h)];have key:=abQ (b:=b) (done:=done) (own:=own) (acc:=(upto i).flatMap (JS b done own)) p7 (i:=i) (by omega) a1 aq bQ (by omega) (k:=fun x6=>Im b done own k m x6 (w ((i:Int)+(1:Int)))) qe 0 0 rfl (by omega) (rR (by omega));rw [tu,u5,sU] at key;rw [key,r4 i (by omega)];(have e:(upto i).flatMap (JS b done own)++JS b done own i=(upto (i+1)).flatMap (JS b done own):=by rw [KZ,vh];simp);rw [e];exact abP p7 a1 aq bQ m (i+1) _ rfl (by omega) (by omega)
   ·rw [if_neg (by simpa using h),show i=b.2.length by omega];rfl
structure J8 (b:qb) (D own:Row):Prop where
 ok:∀ p∈D++own,HI b p
 GQ:((D++own).map (·.1)).Nodup
 go:own=[]∨∃ a,qV b a own=some (fin b (own.getD (own.length-1) default))
theorem J8.len {D own:Row} (h:J8 b D own):D.length+own.length≤b.2.length:=by
 have:=Lq h.GQ (n:=b.2.length) fun x al=>by
  obtain ⟨p,aC,rfl⟩:=sJ.1 al;exact ⟨(h.ok p aC).1,(h.ok p aC).2.1⟩
 simpa using this
theorem J8.next {D own:Row} (h:J8 b D own) {p:Int×Int} (aC:p∈IW b (D++own) own):J8 b D (own++[p]):=by
 obtain ⟨bQ,aN⟩:=YL.1 aC;unfold HY at aN;simp only [sM,tX,wF,decide_eq_true_eq] at aN;refine ⟨fun q a5=>?_,?_,.inr ?_⟩
 ·rw [←sD] at a5;rcases te.1 a5 with a5 | a5
  ·exact h.ok q a5
  ·rw [sQ.1 a5];exact bQ
 ·rw [←sD,ti,uz];refine ⟨h.GQ,by simp,fun x al y a2 e=>?_⟩;simp only [sy,tA,sQ] at a2;subst a2;subst e;obtain ⟨q,a5,e⟩:=sJ.1 al;have:=uF.1 aN.1 q a5;simp [e] at this
 ·have Lm:(own++[p]).getD ((own++[p]).length-1) default=p:=by simp
  rw [Lm];rcases aN.2 with aS | aS
  ·subst aS;exact ⟨qP b p,Ks.2 ⟨rfl,rfl⟩⟩
  ·by_cases ad:own=[]
   ·subst ad;exact ⟨qP b p,Ks.2 ⟨rfl,rfl⟩⟩
   ·rcases h.go with af | ⟨a,af⟩
    ·exact absurd af ad
    ·refine ⟨a,?_⟩;rw [JE,af,sq];exact Ks.2 ⟨aS.symm,rfl⟩
theorem aib {D:Row} (h:J8 b D []) (ak:D.length<b.2.length):IW b (D++[]) []≠[]:=fun he=>by
 have db:∀ x∈upto b.2.length,x∈D.map (·.1):=fun x al=>by
  refine Classical.byContradiction fun aN=>?_;have hm:=Hq.1 al
  have:((x,0):Int×Int)∈IW b (D++[]) []:=YL.2 ⟨⟨hm.1,hm.2,by simp,by simp⟩,by
   unfold HY;simp only [sU,sM,wF,decide_true,Bool.true_or,and_true];rw [uF];intro q a5 e
   exact aN (sJ.2 ⟨q,a5,by simpa using e⟩)⟩
  rw [he] at this;simp at this
 have:=QU _ _ (IJ b.2.length) db;rw [se,tj] at this;omega
section
variable {by_:List Int} (yH:by_.length≤1000) (Ll:∀ x∈by_,0≤x∧x≤255)
include yH Ll
theorem abO (p7:qM b) {D:Row} {k:Row→Int→Row→Option (List Row)}:∀ (m:Nat) (own:Row) (at_:Nat),J8 b D own→at_≤D.length+own.length→b.2.length-(D.length+own.length)<m→(own≠[]∨D.length<b.2.length) →
  ∃ Iv LM,J8 b D Iv∧Iv≠[]∧LM≤D.length+Iv.length∧I9 b by_ k m (D++own) at_ own=k (D++Iv) ((LM:Nat):Int) Iv
 | 0,_,_,_,_,h,_=>absurd h (by omega)
 | m+1,own,at_,kv,cg,hm,bO=>by
   have dD:=p7.len;have hlen:=kv.len;have c2:(IW b (D++own) own).length≤2*b.2.length:=TP (b:=b) (done:=D++own) (own:=own) b.2.length;have step:∀ (x PD:Nat),PD≤at_+1→(al:x<(IW b (D++own) own).length) →
     ∃ Iv LM,J8 b D Iv∧Iv≠[]∧LM≤D.length+Iv.length∧HZ (D++own) own (IW b (D++own) own) (fun r8 sn Hs=>I9 b by_ k m r8 sn Hs) (PD:Int) ((x:Nat):Int)=k (D++Iv) ((LM:Nat):Int) Iv:=fun x PD af al=>by
    (have X1:=kv.next (sL al));have agj:=X1.len;rw [sA,tx] at agj;obtain ⟨o,t,cd,b_,eb,hy⟩:=abO p7 (k:=k) m (own++[(IW b (D++own) own)[x]]) PD X1 (by rw [sA,tx];omega) (by rw [sA,tx];omega) (.inl (by simp));refine ⟨o,t,cd,b_,eb,?_⟩;rw [HZ,qx ⟨by omega,by omega⟩,qx (by omega),qx ⟨by omega,by omega⟩,qx (by rw [sA];omega),rm al,sD];exact hy
   rw [I9];have key:=abP (b:=b) (done:=D++own) (own:=own) p7 (by rw [sA];omega) (by omega) (fun p aC=>kv.ok p (List.mem_append_right _ aC))
    (k:=fun ox =>
     if (decide ((ox.length:Int)=(0:Int)))=true then
      k (D++own) (at_:Int) own
     else
      if (decide ((0:Int)<(by_.length:Int)))=true then
       qh ((by_.length:Int)≠0) <|
       qh (0≤((at_:Int).tmod (by_.length:Int))∧((at_:Int).tmod (by_.length:Int))<(by_.length:Int)) <|
       qh ((ox.length:Int)≠0) <|
       HZ (D++own) own ox (fun r8 sn Hs =>
         I9 b by_ k m r8 sn Hs) (w ((at_:Int)+(1:Int))) ((w (ix by_ ((at_:Int).tmod (by_.length:Int)))).tmod (ox.length:Int))
      else
       HZ (D++own) own ox (fun r8 sn Hs =>
         I9 b by_ k m r8 sn Hs) (at_:Int) (0:Int)) qe 0 0 rfl (by omega) (rR (by omega))
   rw [show (upto 0).flatMap (JS b (D++own) own)=[] from rfl] at key;rw [key];by_cases aS:IW b (D++own) own=[]
   ·have ny:own≠[]:=by
     rcases bO with h | h
     ·exact h
     ·rintro rfl;exact aib kv h aS
    exact ⟨own,at_,kv,ny,cg,by rw [if_pos (by simp [aS])]⟩
   ·have Lh:0<(IW b (D++own) own).length:=tT.2 aS;rw [if_neg (by simpa using aS)];by_cases iO:0<by_.length
    ·have Tv:(at_:Int).tmod (by_.length:Int)=((at_ % by_.length:Nat):Int):=rfl;have pA:at_ % by_.length<by_.length:=vJ _ iO;have ae:=Ll _ (sL pA);(have hw:w by_[at_ % by_.length]=((by_[at_ % by_.length].toNat:Nat):Int):=by rw [HF (by omega)];omega);rw [if_pos (decide_eq_true (by omega)),qx (by omega),Tv,qx ⟨by omega,by omega⟩,qx (by omega),rm pA,hw,r4 at_ (by omega)];have yQ:((by_[at_ % by_.length].toNat:Nat):Int).tmod ((IW b (D++own) own).length:Int)=((by_[at_ % by_.length].toNat % (IW b (D++own) own).length:Nat):Int):=rfl;rw [yQ];exact step _ (at_+1) (sx _) (vJ _ Lh)
    ·rw [if_neg (by rw [decide_eq_true_eq];omega)];exact step 0 at_ (by omega) Lh
theorem abN (p7:qM b):∀ (m:Nat) (R:List Row) (at_:Nat),J8 b R.flatten []→(∀ r∈R,r≠[]∧∃ a c,qV b a r=some c)→at_≤R.flatten.length→b.2.length-R.flatten.length<m →
  ∃ JH,LB b by_ (fun z=>some z) m R R.flatten (at_:Int)=some JH∧RowsOf b (upto b.2.length) JH∧∀ r∈JH,r≠[]
 | 0,_,_,_,_,_,h=>absurd h (by omega)
 | m+1,R,at_,kv,jG,cg,hm=>by
   have dD:=p7.len;have hlen:=kv.len;rw [LB];by_cases h:(R.flatten.length:Int)<(b.2.length:Int)
   ·rw [if_pos (decide_eq_true h)];have OE:R.length≤R.flatten.length:=by
     clear kv cg hm hlen h
     induction R with
     | nil=>simp
     | cons r R bb =>
       have:=tT.2 (jG r (by simp)).1;have:=bb fun q a5=>jG q (by simp [a5]);rw [tG,sA,sP];omega
    obtain ⟨Iv,LM,cd,b_,eb,hy⟩:=abO yH Ll p7 (D:=R.flatten) (k:=fun F0 rC rH=>qh ((R.length+1)*24≤140737488355328) <| LB b by_ (fun z=>some z) m (R++[rH]) F0 rC) qe [] at_ kv (by simpa using cg) (by simp;exact rR (by omega)) (.inr (by omega));rw [sU] at hy;have anG:=cd.len;have ad:0<Iv.length:=tT.2 b_;(have e:(R++[Iv]).flatten=R.flatten++Iv:=by simp);rw [hy,qx (by omega)];rw [←e];refine abN p7 m (R++[Iv]) LM ?_ (fun r aj=>?_) ?_ ?_
    ·rw [e];refine ⟨by simpa using cd.ok,by simpa using cd.GQ,.inl rfl⟩
    ·rcases te.1 aj with aj | aj
     ·exact jG r aj
     ·obtain rfl:=sQ.1 aj;rcases cd.go with h | ⟨a,h⟩
      ·exact absurd h b_
      ·exact ⟨b_,a,_,h⟩
    ·rw [e,sA];exact eb
    ·rw [e,sA];omega
   ·rw [if_neg (by simpa using h)];refine ⟨R,rfl,⟨fun r aj p aC=>?_,fun r aj=>(jG r aj).2,?_⟩,fun r aj=>(jG r aj).1⟩
    ·exact kv.ok p (by rw [sU];exact tZ.2 ⟨r,aj,aC⟩)
    ·(have jQ:(R.flatten.map (·.1)).Nodup:=by simpa using kv.GQ);have g6:∀ x∈R.flatten.map (·.1),x∈upto b.2.length:=fun x al=>by
      obtain ⟨p,aC,rfl⟩:=sJ.1 al;have:=kv.ok p (by rw [sU];exact aC);exact Hq.2 ⟨this.1,this.2.1⟩
     refine (List.perm_ext_iff_of_nodup jQ (IJ _)).2 fun x=>⟨g6 x,fun al=>?_⟩;refine Classical.byContradiction fun aN=>?_;have:=QU (x::R.flatten.map (·.1)) (upto b.2.length) (List.nodup_cons.2 ⟨aN,jQ⟩) fun y a2=>by
      rcases sH.1 a2 with rfl | a2
      ·exact al
      ·exact g6 y a2
     rw [se,sP,tj] at this;omega
theorem amd (p7:qM b):∃ R,Q4 b by_=some R∧RowsOf b (upto b.2.length) R∧∀ r∈R,r≠[]:=by
 have dD:=p7.len;have:=abN yH Ll p7 qe [] 0 ⟨by simp,by simp,.inl rfl⟩ (by simp) (by simp) (rR (by omega));exact this
end
end
end Go.Proofs.YtfakoboiahbhaaaGreat.Ab


namespace Go.Proofs.YtfakoboiahbhaaaGreat.Ab
open Go
set_option maxRecDepth 20000
set_option maxHeartbeats 4000000
def rA (l:List Int):Nat→List Int
 | 0=>[]
 | k+1=>if 0<k∧l.getD k 0=l.getD (k-1) 0 then rA l k else rA l k++[l.getD k 0]
theorem Sy (l:List Int):∀ k,(rA l k).length≤k
 | 0=>sx _
 | k+1=>by
   have:=Sy l k;simp only [rA];split
   ·omega
   ·simp;omega
theorem aeN (lo id off len:Nat) (H:List au) (l:List I) (bG:lo≤id) (ah:H[id]?=some (.cells l)) (h:off+len=l.length) :
  k1 Go.Proofs.Tryz.prog lo #[38] H [.ref id off len none 1]=some (.tuple [],H.set id (.cells (l.take off++List.replicate len (hY 0)))):=by
 rw [Sx lo id off len H l bG ah (by omega),List.drop_eq_nil_of_le (by omega),sU]
theorem Sk (l:List Int) (k x:Nat) (h:(rA l k).length≤x) (al:x<l.length):((rA l k++l.drop (rA l k).length).map hY)[x]?=some (hY (l.getD x 0)):=by
 rw [List.getElem?_map,List.getElem?_append_right h,List.getElem?_drop,show (rA l k).length+(x-(rA l k).length)=x by omega,List.getElem?_eq_getElem al];simp [al]
theorem aj5 (l:List Int) (A:List Int) (v:Int) (h:A.length<l.length):((A++l.drop A.length).map hY).set A.length (hY v)=((A++[v])++l.drop (A++[v]).length).map hY:=by
 rw [ti,List.set_append_right _ _ (by simp),tj,ua,tf h,sy,List.set_cons_zero];simp
theorem Ys (l:List Int) (x:Nat) (al:x<l.length):(l.map hY)[x]?=some (hY (l.getD x 0)):=by simp [al]
section
variable {H:List au} {id lo:Nat}
theorem aeW (bG:lo≤id) (l:List Int) (aS:0<l.length) (ak:l.length≤1000) (ah:H[id]?=some (.cells (l.map hY))) {Q:cE→List I→List au→Prop}
  (bo:∀ T RZ,c8 T 2=.ref id 0 (rA l l.length).length none 1→RZ=H.set id (.cells ((rA l l.length++List.replicate (l.length-(rA l l.length).length) 0).map hY))→Q .ret T RZ) :
  dG Go.Proofs.Tryz.prog Se 74 lo none Nt (GI 61 [(0,.ref id 0 l.length none 1),(2,.ay [] 0 (.uniq 1))]) H Q:=by
 have aE:=(ss.1 ah).1;have Cf:Nat.ble lo id=true:=Nat.ble_eq_true_of_le bG;have gs:∀ c:au,(H.set id c)[id]?=some c:=fun c=>by rw [List.getElem?_set_self aE]
 have IU:∀ c e:au,((H.set id c).set id e)[id]?=some e:=fun c e=>by rw [td,gs]
 have same:H.set id (.cells (l.map hY))=H:=by
  obtain ⟨ad,af⟩:=ss.1 ah;rw [←af,List.set_getElem_self]
 unfold Nt;obtain ⟨m_,G0⟩:∃ c,O5=c:=⟨_,rfl⟩;rw [G0];conv=>whnf
 have fin:∀ T,c8 T 2=.ref id 0 l.length none 1→rA l l.length=l→Q .ret T H:=fun T bZ e=>bo _ _ (by rw [bZ,e]) (by rw [e,ua,List.replicate_zero,sU,same]);by_cases af:((l.length:Nat):Int)<2
 ·rw [decide_eq_true af];conv=>whnf
  have:l.length=1:=by omega
  refine fin _ rfl ?_
  match l,this with
  | [x],_=>rfl
 rw [decide_eq_false af];conv=>whnf
 refine .intro (fun m T H'=>∃ k,1≤k∧k≤l.length∧m=l.length-k∧rA l k=l.take k∧T=GI 61 [(0,.ref id 0 l.length none 1),(3,hY (k:Nat))]∧H=H') (l.length-1) ⟨1,by omega,by omega,rfl,?_,rfl,rfl⟩ ?_
 ·match l,aS with
  | x::r,_=>rfl
 rintro m T H' ⟨k,CH,px,rfl,he,rfl,rfl⟩;subst G0;unfold O5 Zq;obtain ⟨fW,GX⟩:∃ c,UO=c:=⟨_,rfl⟩;rw [GX];conv=>whnf
 by_cases av:(k:Int)<(l.length:Int)
 ·rw [decide_eq_true av];conv=>whnf
  refine ⟨by omega,?_⟩;conv=>whnf
  refine D1 ah ?_;conv=>whnf
  refine D1 (x:=hY (l.getD k 0)) (by rw [show 0+(k:Int).toNat*1=k by simp];exact Ys l k (by omega)) ?_;conv=>whnf
  rw [show IntKind.i64.wrap ((k:Int)-1)=((k-1:Nat):Int) by rw [I8 _ (by omega) (by omega)];omega];refine ⟨by omega,?_⟩;conv=>whnf
  refine D1 ah ?_;conv=>whnf
  refine D1 (x:=hY (l.getD (k-1) 0)) (by rw [show 0+(((k-1:Nat)):Int).toNat*1=k-1 by simp];exact Ys l (k-1) (by omega)) ?_;conv=>whnf
  by_cases a1:l.getD k 0=l.getD (k-1) 0
  ·rw [decide_eq_true a1];(conv=>whnf);(have OD:rA l (k+1)=l.take k:=by simp only [rA];rw [if_pos ⟨by omega,a1⟩,he]);subst GX;unfold UO;obtain ⟨bu,eb⟩:∃ c,UM=c:=⟨_,rfl⟩;obtain ⟨d',B4⟩:∃ c,UN=c:=⟨_,rfl⟩;rw [eb,B4];(conv=>whnf);refine ⟨rfl,by omega,fun _=>?_,fun h=>by omega⟩;(conv=>whnf);refine .intro (fun m T H'=>∃ q,1≤q∧k+q≤l.length∧m=l.length-q∧(rA l (k+q)).length+1≤k+q∧T=GI 61 [(0,.ref id 0 l.length none 1),(3,hY (rA l (k+q)).length),(4,.ref id (0+(k:Int).toNat*1) (l.length-(k:Int).toNat) none 1),(5,hY (q:Nat))]∧H'=H.set id (.cells ((rA l (k+q)++l.drop (rA l (k+q)).length).map hY))) (l.length-1) ⟨1,sx _,by omega,rfl,by rw [OD];simp;omega,?_,?_⟩ ?_
   ·rw [OD,ta,tK (by omega)];rfl
   ·rw [OD,ta,tK (by omega),vn];exact same.symm
   rintro m T H' ⟨q,agw,CZ,rfl,hw,rfl,rfl⟩;subst eb;unfold UM Zo;obtain ⟨bc,cd⟩:∃ c,UL=c:=⟨_,rfl⟩;rw [cd];(conv=>whnf);by_cases a5:(q:Int)<((l.length-k:Nat):Int)
   ·rw [show decide ((q:Int)<((l.length-(k:Int).toNat:Nat):Int))=true from decide_eq_true a5];(conv=>whnf);refine ⟨by simp;omega,?_⟩;(conv=>whnf);refine D1 (gs _) ?_;(conv=>whnf);refine D1 (x:=hY (l.getD (k+q) 0)) (by rw [show 0+(k:Int).toNat*1+(q:Int).toNat*1=k+q by simp];exact Sk l (k+q) (k+q) (by omega) (by omega)) ?_;(conv=>whnf);rw [show IntKind.i64.wrap ((q:Int)-1)=((q-1:Nat):Int) by rw [I8 _ (by omega) (by omega)];omega];refine ⟨by simp;omega,?_⟩;(conv=>whnf);refine D1 (gs _) ?_;(conv=>whnf);refine D1 (x:=hY (l.getD (k+q-1) 0)) (by rw [show 0+(k:Int).toNat*1+(((q-1:Nat)):Int).toNat*1=k+q-1 by simp;omega];exact Sk l (k+q) (k+q-1) (by omega) (by omega)) ?_;(conv=>whnf);by_cases al:l.getD (k+q) 0=l.getD (k+q-1) 0
    ·rw [decide_eq_false (not_not_intro al)];(conv=>whnf);(have e:rA l (k+(q+1))=rA l (k+q):=by rw [←t_];simp only [rA];rw [if_pos ⟨by omega,al⟩]);refine ⟨l.length-(q+1),by omega,q+1,by omega,by omega,rfl,by rw [e];omega,?_,by rw [e]⟩;rw [e,←rJ q (by omega)];rfl
    ·rw [decide_eq_true al];(conv=>whnf);(have e:rA l (k+(q+1))=rA l (k+q)++[l.getD (k+q) 0]:=by rw [←t_];simp only [rA];rw [if_neg fun h=>al h.2]);subst cd;refine IK fun m2 Hc=>?_;unfold UL;(conv=>whnf);refine ⟨by simp;omega,?_⟩;(conv=>whnf);refine D1 (gs _) ?_;(conv=>whnf);refine D1 (x:=hY (l.getD (k+q) 0)) (by rw [show 0+(k:Int).toNat*1+(q:Int).toNat*1=k+q by simp];exact Sk l (k+q) (k+q) (by omega) (by omega)) ?_;(conv=>whnf);refine ⟨by omega,?_⟩;(conv=>whnf);rw [Cf];(conv=>whnf);refine D1 (gs _) ?_;(conv=>whnf);refine FO (by simp;omega) ?_;(conv=>whnf);refine Hc _ _ _ ?_;(conv=>whnf);refine ⟨l.length-(q+1),by omega,q+1,by omega,by omega,rfl,by rw [e,sA,tx];omega,?_,?_⟩
     ·rw [e,sA,tx,←rJ q (by omega),←rJ (rA l (k+q)).length (by omega)];rfl
     ·rw [td,e,show 0+((rA l (k+q)).length:Int).toNat*1=(rA l (k+q)).length by simp,aj5 l (rA l (k+q)) _ (by omega)]
   ·rw [show decide ((q:Int)<((l.length-(k:Int).toNat:Nat):Int))=false from decide_eq_false a5];(conv=>whnf);(obtain rfl:q=l.length-k:=by omega);rw [show k+(l.length-k)=l.length by omega] at hw ⊢;subst B4;unfold UN Zp;(conv=>whnf);refine ⟨rfl,by omega,fun _=>?_,fun h=>by omega⟩;(conv=>whnf);refine ⟨_,_,fun C=>(aeN lo id _ _ _ _ bG (gs _) (by simp)),?_⟩;(conv=>whnf);refine ⟨rfl,by omega,?_⟩;(conv=>whnf);refine bo _ _ rfl ?_;rw [td];have e:(List.take (0+((rA l l.length).length:Int).toNat*1) ((rA l l.length++l.drop (rA l l.length).length).map hY)++List.replicate (l.length-((rA l l.length).length:Int).toNat) (hY 0))=(rA l l.length++List.replicate (l.length-(rA l l.length).length) 0).map hY:=by
     simp
    rw [←e]
  ·rw [decide_eq_false a1];(conv=>whnf);refine ⟨l.length-(k+1),by omega,k+1,by omega,by omega,rfl,?_,by rw [←rJ k (by omega)];rfl,rfl⟩;simp only [rA];rw [if_neg fun h=>a1 h.2,he,tH (by omega)];simp [show k<l.length by omega]
 ·rw [decide_eq_false av];conv=>whnf
  obtain rfl:k=l.length:=by omega
  exact fin _ rfl (by rw [he,tE])
theorem aeV (l:List Int) (aS:0<l.length) (ak:l.length≤1000) (bG:lo≤H.length) :
  Sem Go.Proofs.Tryz.prog (.fn 74) [.ay (l.map hY) l.length (.uniq 1)] H lo (.ref H.length 0 (rA l l.length).length none 1) (H++[.cells ((rA l l.length++List.replicate (l.length-(rA l l.length).length) 0).map hY)]):=by
 refine Hj dM YD rfl ⟨by simp,fun j ad af=>by rw [List.getElem?_append_left af]⟩ fun Q bo=>?_;unfold UK;obtain ⟨BL,Jy⟩:∃ c,Nt=c:=⟨_,rfl⟩;rw [Jy];conv=>whnf
 subst Jy;have h:=aeW (H:=H++[.cells (l.map hY)]) (id:=H.length) bG l aS ak (by simp) (Q:=Q) fun T RZ bZ al=>bo _ _ _ ⟨.inr rfl,by rw [al,rE];exact ⟨rfl,fun j o aw=>.inr aw⟩,by simp only [j9,bZ,Option.map_some,hk]⟩;unfold Nt at h ⊢;obtain ⟨m_,G0⟩:∃ c,O5=c:=⟨_,rfl⟩;rw [G0] at h ⊢;conv=>whnf
 refine .inl ⟨by omega,?_⟩;conv=>whnf
 conv at h=>whnf
 exact h
end

def Wa (n:Nat):Prop:=∀ (l:List Int),l.length≤n→∀ (H:List au) (id lo:Nat),lo≤id→H[id]?=some (.cells (l.map hY)) →
 Sem Tryz.prog (.fn 73) [.ref id 0 l.length none 1] H lo (.tuple []) (H.set id (.cells ((G6 l).map hY)))
theorem akb:Wa 12:=fun l h H id lo bG ah=>ZT l bG h rfl ah
section
variable {H:List au} {lo:Nat}
theorem agT:Sem Go.Proofs.Tryz.prog (.fn 115) [.ay [] 0 (.own 1),hY 0,hY 0] H lo (.tuple []) H:=by
 refine Hj dM Yy rfl (bd.refl _ _) fun Q bo=>?_;unfold Us;conv=>whnf
 refine .intro (fun m T H'=>T=GI 49 [(0,.ay [] 0 (.own 1)),(1,hY 0),(2,hY 0),(6,hY 1)]∧H=H') 0 ⟨rfl,rfl⟩ ?_;rintro m T H' ⟨rfl,rfl⟩;conv=>whnf
 exact bo _ _ _ ⟨.inl rfl,⟨by simp,fun j o aw=>.inr aw⟩,rfl⟩
theorem aiF {JR:Int}:Sem Go.Proofs.Tryz.prog (.fn 96) [.ay [] 0 (.own 1),hY 0,hY 0,hY JR] H lo (.tuple []) H:=by
 refine Hj dM YF rfl (bd.refl _ _) fun Q bo=>?_;unfold Va;obtain ⟨Sm,JJ⟩:∃ c,O7=c:=⟨_,rfl⟩;rw [JJ];conv=>whnf
 refine .intro (fun m T H'=>T=GI 134 [(0,.ay [] 0 (.own 1)),(1,hY 0),(2,hY 0),(3,hY JR),(8,B true),(9,B true)]∧H'=H) 0 ⟨rfl,rfl⟩ ?_;rintro m T H' ⟨rfl,rfl⟩;subst JJ;unfold O7;obtain ⟨bc,cd⟩:∃ c,O6=c:=⟨_,rfl⟩;obtain ⟨Sl,LV⟩:∃ c,Vb=c:=⟨_,rfl⟩;rw [cd,LV];conv=>whnf
 subst cd;unfold O6;conv=>whnf
 refine ⟨_,_,Hv agT,?_⟩;conv=>whnf
 exact bo _ _ _ ⟨.inr rfl,⟨rfl,fun j o aw=>.inr aw⟩,rfl⟩
theorem aj9:Sem Go.Proofs.Tryz.prog (.fn 73) [.ay [] 0 (.uniq 1)] H lo (.tuple []) H:=by
 refine Hj dM YC rfl (bd.refl _ _) fun Q bo=>?_;unfold UJ;conv=>whnf
 refine ⟨by first | rfl | simp only [List.all_cons,List.all_nil,Ni,Nq,Nj,Nl,Nk,Nm,Ns,Nr,KW,Nn,No,Np,Bool.and_true,Bool.and_self],_,PF 0 (by decide),?_⟩
 conv=>whnf
 refine ⟨_,_,Hv aiF,?_⟩;conv=>whnf
 exact bo _ _ _ ⟨.inl rfl,⟨by simp,fun j o aw=>.inr aw⟩,rfl⟩
theorem aeQ:Sem Go.Proofs.Tryz.prog (.fn 75) [.ay [] 0 .shared] H lo (.ay [] 0 (.uniq 1)) H:=by
 refine Hj dM YE rfl (bd.refl _ _) fun Q bo=>?_;unfold UP UQ;conv=>whnf
 refine ⟨.du,H,fun C=>by kernel_rfl,?_⟩;conv=>whnf
 refine ⟨?_,?_⟩
 ·conv=>whnf
  exact bo _ _ _ ⟨.inr rfl,⟨rfl,fun j o aw=>.inr aw⟩,rfl⟩
 ·conv=>whnf
  refine ⟨rfl,by omega,rfl,by omega,?_⟩;conv=>whnf
  exact bo _ _ _ ⟨.inr rfl,⟨rfl,fun j o aw=>.inr aw⟩,rfl⟩
theorem aeU:Sem Go.Proofs.Tryz.prog (.fn 74) [.ay [] 0 (.uniq 1)] H lo (.ay [] 0 .shared) H:=by
 refine Hj dM YD rfl (bd.refl _ _) fun Q bo=>?_;unfold UK Nt;obtain ⟨m_,G0⟩:∃ c,O5=c:=⟨_,rfl⟩;rw [G0];conv=>whnf
 refine .inr ⟨rfl,?_⟩;conv=>whnf
 exact bo _ _ _ ⟨.inr rfl,⟨rfl,fun j o aw=>.inr aw⟩,rfl⟩
end

theorem ajW {b:qb} {rows:List Row} {k:Nat} (aS:ri b=0) (av:k<rows.length) (aO:∀ r∈rows.take k,(rU b r).2.2=0) (ag:(rU b rows[k]).2.2≠0):IB b rows=(0,(rU b rows[k]).2.2):=by
 unfold IB;rw [if_neg (by simp [aS])]
 have:rows.find? (fun r=>decide ((rU b r).2.2≠0))=some rows[k]:=by
  obtain ⟨x,al⟩:∃ x,x=rows[k]:=⟨_,rfl⟩;have e:rows=rows.take k++x::rows.drop (k+1):=by rw [al,←tf av,vn]
  rw [←al] at ag ⊢;conv=>lhs;rw [e]
  rw [List.find?_append,vB.2 (fun r aj=>by simpa using aO r aj),Option.none_or,List.find?_cons_of_pos (by simpa using ag)]
 rw [this]
theorem ajX {b:qb} {rows:List Row} (aS:ri b=0) (aO:∀ r∈rows,(rU b r).2.2=0):IB b rows=if ((rows.flatten).map (·.1)).Nodup then (if (rows.flatten).length≠b.2.length then ((0:Int),(15:Int)) else ((rows.length:Int),0)) else (0,11):=by
 unfold IB;rw [if_neg (by simp [aS]),vB.2 (fun r aj=>by simpa using aO r aj)]
theorem Xm {l:List Int} (ai:l.Pairwise (·≤·)):∀ k,k≤l.length→((rA l k).length=k↔(l.take k).Nodup)
 | 0,_=>by simp [rA]
 | k+1,av=>by
   have bb:=Xm ai k (by omega);have hle:=Sy l k;(have IF:k<l.length:=by omega);(have e1:l.getD k 0=l[k]:=by simp [IF]);have agG:l.take (k+1)=l.take k++[l[k]]:=tH IF;have jQ:(l.take (k+1)).Nodup↔(l.take k).Nodup∧l[k] ∉ l.take k:=by
    rw [agG,uz];constructor
    ·rintro ⟨a,_,c⟩;exact ⟨a,fun hm=>c _ hm _ (by simp) rfl⟩
    ·rintro ⟨a,c⟩;exact ⟨a,by simp,fun x al y a2 e=>c (by simp at a2;subst a2;subst e;exact al)⟩
   have kF:l[k]∈l.take k↔0<k∧l.getD k 0=l.getD (k-1) 0:=by
    constructor
    ·intro hm;obtain ⟨i,hi,e⟩:=List.getElem_of_mem hm;(have X9:i<k:=by simp at hi;omega);rw [List.getElem_take] at e;(have CH:k-1<l.length:=by omega);refine ⟨by omega,?_⟩;rw [e1,show l.getD (k-1) 0=l[k-1] by simp [CH]];have ad:=tB.1 ai (k-1) k CH IF (by omega);have af:l[i]≤l[k-1]:=by
      rcases Nat.lt_or_ge i (k-1) with h | h
      ·exact tB.1 ai i (k-1) (by omega) CH h
      ·have:i=k-1:=by omega
       subst this;exact Int.le_refl _
     omega
    ·rintro ⟨ad,af⟩;(have CH:k-1<l.length:=by omega);rw [e1,show l.getD (k-1) 0=l[k-1] by simp [CH]] at af;rw [af];exact List.mem_iff_getElem.2 ⟨k-1,by simp;omega,by rw [List.getElem_take]⟩
   rw [jQ];simp only [rA];split
   ·rename_i h;constructor
    ·intro af;omega
    ·rintro ⟨_,aG⟩;exact absurd (kF.2 h) aG
   ·rename_i h;rw [sA,tx];constructor
    ·intro af;exact ⟨bb.1 (by omega),fun hm=>h (kF.1 hm)⟩
    ·rintro ⟨aG,_⟩;rw [bb.2 aG]
theorem aj_ (l:List Int):(G6 l).Pairwise (·≤·):=by
 have:=(O_ Sort.swo_ltInt l).2;refine this.imp fun h=>?_;simp only [Sort.ltInt,decide_eq_false_iff_not] at h;omega
theorem aeS (l:List Int):(rA (G6 l) (G6 l).length).length<l.length↔¬ l.Nodup:=by
 have ad:=Xm (aj_ l) (G6 l).length (sx _);have af:=Sy (G6 l) (G6 l).length;have aG:=QP l;rw [tE,(ZS l).nodup_iff] at ad;rw [←ad];omega
theorem aeM {n:Nat} (ai:Wa n) (aN:n≤1000) {b:qb} {rows:List Row} (ag:b.2.length≤1000) (aj:rows.length≤1000) (C6:∀ r∈rows,r.length≤1000) (ax:(∀ r∈rows,(rU b r).2.2=0)→rows.flatten.length≤n) :
  qD 25 [(.agg [(hY b.1),(.ay (b.2.flatMap p4) b.2.length .shared)]),(.ay (rows.map (qv p4)) rows.length .shared)] (.tuple [(hY (IB b rows).1),(hY (IB b rows).2)]):=by
 refine qZ dM ag8 rfl (IX (p5 rfl (p5 rfl rfl))) fun Q bo=>?_;have jG:∀ T H,IP [.tmp 4,.tmp 5] (.tuple [(hY (IB b rows).1),(hY (IB b rows).2)]) .ret T H→Q .ret T H:=fun T H bK=>bo _ T H bK;clear bo;have KK:∀ (x y:Int) T H,IB b rows=(x,y)→IP [.tmp 4,.tmp 5] (.tuple [hY x,hY y]) .ret T H→Q .ret T H:=fun x y T H e h=>by
  rw [e] at jG;exact jG T H h
 unfold Zn;obtain ⟨aeu,On⟩:∃ c,UC=c:=⟨_,rfl⟩;rw [On];conv=>whnf
 subst On;unfold UC;obtain ⟨bc,cd⟩:∃ c,UA=c:=⟨_,rfl⟩;obtain ⟨Xd,Le⟩:∃ c,UB=c:=⟨_,rfl⟩;rw [cd,Le];conv=>whnf
 refine ⟨qt.pl,_,abp (Q2 b ag),?_⟩;conv=>whnf
 subst cd;unfold UA;conv=>whnf
 by_cases aS:ri b≠0
 ·rw [decide_eq_true aS];conv=>whnf
  exact KK 0 (ri b) _ _ (if_pos aS) (Lt rfl rfl)
 rw [decide_eq_false aS];have aS:=uY.1 aS;conv=>whnf
 subst Le;unfold UB;obtain ⟨m9,Hk⟩:∃ c,UI=c:=⟨_,rfl⟩;obtain ⟨BL,Jy⟩:∃ c,QA=c:=⟨_,rfl⟩;obtain ⟨Xc,KI⟩:∃ c,Qz=c:=⟨_,rfl⟩;rw [Hk,Jy,KI];conv=>whnf
 have P2:∀ k,(rows.take k).flatten.length≤1000*rows.length:=fun k=>by
  refine sW (SJ fun r aj=>C6 r (uP aj)) ?_;rw [ta];exact Nat.mul_le_mul_left _ (Nat.min_le_right _ _)
 have anD:1000*rows.length≤1000000:=by omega
 refine .intro (fun m T H=>∃ (k:Nat) (Y:List au),k≤rows.length∧(∀ r∈rows.take k,(rU b r).2.2=0)∧m=rows.length-k∧T=GI 73 [(1,(.ay (rows.map (qv p4)) rows.length .shared)),(2,.ptr 0 0),(7,.ay (((rows.take k).flatten.map (·.1)).map hY) ((rows.take k).flatten.map (·.1)).length (.uniq 1)),(20,(.ay (rows.map (qv p4)) rows.length .shared)),(21,hY rows.length),(22,hY (k:Int))]∧H=au.cells [(hY b.1),(.ay (b.2.flatMap p4) b.2.length .shared)]::Y) _ ⟨0,[],by omega,by simp,rfl,rfl,rfl⟩ ?_;rintro m T H ⟨k,Y,av,aO,rfl,rfl,rfl⟩;conv=>whnf
 refine H6 (fun h=>?_) (fun h=>?_)
 ·have IF:k<rows.length:=by omega
  subst Hk;unfold UI;obtain ⟨fW,GX⟩:∃ c,UH=c:=⟨_,rfl⟩;rw [GX];conv=>whnf
  refine ⟨⟨by omega,h⟩,?_⟩;rw [rS (qv p4) rows (k:Int) ⟨by omega,h⟩,rm IF];conv=>whnf
  subst GX;unfold UH;obtain ⟨bn,b_⟩:∃ c,UD=c:=⟨_,rfl⟩;obtain ⟨d',B4⟩:∃ c,UG=c:=⟨_,rfl⟩;rw [b_,B4];conv=>whnf
  refine ⟨qt.pl,_,VH (VG b rows[k] ag (C6 _ (sL IF))),?_⟩;conv=>whnf
  subst b_;unfold UD;conv=>whnf
  by_cases he:(rU b rows[k]).2.2≠0
  ·rw [decide_eq_true he];(conv=>whnf);exact KK 0 _ _ _ (ajW aS IF aO he) (Lt rfl rfl)
  rw [decide_eq_false he];have he:=uY.1 he;conv=>whnf
  subst B4;unfold UG;obtain ⟨b9,hy⟩:∃ c,UF=c:=⟨_,rfl⟩;rw [hy];conv=>whnf
  have anK:=C6 _ (sL IF);have yL:=P2 k;refine .intro (fun m T H=>∃ (j:Nat) (Y:List au),j≤rows[k].length∧m=rows[k].length-j∧T=GI 73 [(1,(.ay (rows.map (qv p4)) rows.length .shared)),(2,.ptr 0 0),(7,.ay ((((rows.take k).flatten++rows[k].take j).map (·.1)).map hY) (((rows.take k).flatten++rows[k].take j).map (·.1)).length (.uniq 1)),(20,(.ay (rows.map (qv p4)) rows.length .shared)),(21,hY rows.length),(22,hY (k:Int)),(36,(.ay (rows[k].flatMap p4) rows[k].length .shared)),(37,hY rows[k].length),(38,hY (j:Int))]∧H=au.cells [(hY b.1),(.ay (b.2.flatMap p4) b.2.length .shared)]::Y) _ ⟨0,Y,by omega,rfl,by rw [tu,sU];rfl,rfl⟩ ?_;rintro m T H ⟨j,rK,aw,rfl,rfl,rfl⟩;conv=>whnf
  refine H6 (fun af=>?_) (fun af=>?_)
  ·(have l4:j<rows[k].length:=by omega);subst hy;unfold UF;obtain ⟨bu,eb⟩:∃ c,UE=c:=⟨_,rfl⟩;rw [eb];(conv=>whnf);refine ⟨⟨by omega,af⟩,?_⟩;rw [qY p4 2 qy rows[k] (j:Int) ⟨by omega,af⟩,rm l4];(conv=>whnf);refine D1 (x:=au.cells [(hY (0:Int)),(hY (0:Int))]) (by first | exact qz.h | rfl | (simp [su,I.settle];done)) ?_
   (conv=>whnf);obtain ⟨A,aK⟩:∃ A,A=((rows.take k).flatten++rows[k].take j).map (·.1):=⟨_,rfl⟩;have S5:A.length≤1002000:=by
    rw [aK,tj,sA,ta];omega
   have o4:A++[rows[k][j].1]=((rows.take k).flatten++rows[k].take (j+1)).map (·.1):=by
    rw [tH l4,←sD,ti,←aK];rfl
   rw [←aK];subst eb;unfold UE;(conv=>whnf);have V6:(A.length:Int)=(A.length:Int)∧0≤(A.length:Int)∧(A.length:Int)≤(A.length:Int):=⟨rfl,by omega,by omega⟩;refine ⟨V6,?_⟩;erw [ZP hY A (A.length:Int) V6.2];rw [tI,tE];(conv=>whnf);refine D1 (x:=au.cells [hY rows[k][j].1,hY rows[k][j].2]) (by first | exact qz.h | rfl | (simp [su,I.settle];done)) ?_
   (conv=>whnf);refine ⟨rfl,by omega,by omega,by omega,by simp,?_⟩;erw [J_ hY A rows[k][j].1];rw [o4];(conv=>whnf);exact ⟨rows[k].length-(j+1),by omega,j+1,rK++[au.cells [hY rows[k][j].1,hY rows[k][j].2]],by omega,rfl,by rw [←rJ j (by omega)];rfl,by rw [rE];rfl⟩
  ·(have ft:j=rows[k].length:=by omega);(have e:(rows.take k).flatten++rows[k].take j=(rows.take (k+1)).flatten:=by rw [ft,tE,tH IF,vl];simp);rw [e];(conv=>whnf);refine ⟨rows.length-(k+1),by omega,k+1,rK,by omega,fun r aj=>?_,rfl,by rw [←rJ k (by omega)];rfl,rfl⟩;rw [tH IF] at aj;rcases te.1 aj with aj | aj
   ·exact aO r aj
   ·rw [sQ.1 aj];exact he
 ·obtain rfl:k=rows.length:=by omega
  rw [tE] at aO ⊢;have Hp:=ajX aS aO;have hlen:=ax aO;obtain ⟨A,aK⟩:∃ A,A=rows.flatten.map (·.1):=⟨_,rfl⟩;have S5:A.length=rows.flatten.length:=by rw [aK,tj]
  rw [←aK] at Hp ⊢;obtain ⟨id,aE⟩:∃ id,id=(au.cells [(hY b.1),(.ay (b.2.flatMap p4) b.2.length .shared)]::Y).length:=⟨_,rfl⟩;by_cases PR:A=[]
  ·subst PR;(conv=>whnf);refine .inr ⟨rfl,?_⟩;(conv=>whnf);refine ⟨_,_,Hv aj9,?_⟩;(conv=>whnf);subst Jy;unfold QA;obtain ⟨m_,G0⟩:∃ c,O4=c:=⟨_,rfl⟩;rw [G0];(conv=>whnf);refine ⟨_,_,MW rfl aeQ,?_⟩;(conv=>whnf);refine ⟨_,_,Hv aeU,?_⟩;(conv=>whnf);subst G0;unfold O4;(conv=>whnf);rw [if_pos (by simp)] at Hp;(have anp:rows.flatten.length=0:=by rw [←S5];rfl);by_cases iO:(0:Int)<(b.2.length:Int)
   ·rw [show decide (((([]:List Int).length:Nat):Int)<(b.2.length:Int))=true from decide_eq_true iO];(conv=>whnf);exact KK 0 15 _ _ (by rw [Hp,if_pos (by omega)]) (Lt rfl rfl)
   ·rw [show decide (((([]:List Int).length:Nat):Int)<(b.2.length:Int))=false from decide_eq_false iO];(conv=>whnf);subst KI;unfold Qz;(conv=>whnf);exact KK _ 0 _ _ (by rw [Hp,if_neg (by omega)]) (Lt rfl rfl)
  ·have cb:A.length≠0:=fun h=>PR (List.length_eq_zero_iff.1 h);(conv=>whnf);refine .inl ⟨cb,?_⟩;(conv=>whnf);rw [←aE];refine ⟨_,_,Hv (ai A (by omega) _ id 0 (sK _) (by rw [aE];exact JA _ _)),?_⟩;rw [aE,rE,←aE];(conv=>whnf);subst Jy;unfold QA;obtain ⟨m_,G0⟩:∃ c,O4=c:=⟨_,rfl⟩;rw [G0];(conv=>whnf);obtain ⟨S,cp⟩:∃ S,S=G6 A:=⟨_,rfl⟩;(have PW:S.length=A.length:=by rw [cp,QP]);have P1:=aeS A;rw [←cp] at P1 ⊢;rw [←PW];rw [←PW] at P1;refine ⟨_,_,MW (rO (fun _=>rfl) _ _ _) (Xl S [] (by omega) (by omega) (by rw [sU,aE];exact JA _ _)),?_⟩;(conv=>whnf);refine ⟨_,_,Hv (aeV S (by omega) (by omega) (sK _)),?_⟩;(conv=>whnf);by_cases a1:((rA S S.length).length:Int)<(S.length:Int)
   ·rw [decide_eq_true a1];(conv=>whnf);exact KK 0 11 _ _ (by rw [Hp,if_neg (P1.1 (by omega))]) (Lt rfl rfl)
   rw [decide_eq_false a1];(conv=>whnf);subst G0;unfold O4;(conv=>whnf);have jQ:A.Nodup:=uY.1 fun h=>a1 (by have:=P1.2 h;omega);rw [if_pos jQ] at Hp;have hle:rows.flatten.length≤b.2.length:=by
    rw [←S5];refine Lq jQ fun x al=>?_;rw [aK] at al;obtain ⟨p,aC,rfl⟩:=sJ.1 al;obtain ⟨r,C0,aC⟩:=tZ.1 aC;have:=Lw.1 ((Xi (aO r C0)).2.2.1 p aC);exact ⟨this.1,this.2.1⟩
   by_cases iO:(S.length:Int)<(b.2.length:Int)
   ·rw [decide_eq_true iO];(conv=>whnf);exact KK 0 15 _ _ (by rw [Hp,if_pos (by omega)]) (Lt rfl rfl)
   ·rw [decide_eq_false iO];(conv=>whnf);subst KI;unfold Qz;(conv=>whnf);exact KK _ 0 _ _ (by rw [Hp,if_neg (by omega)]) (Lt rfl rfl)
def Q3 (b:qb) (rows:List Row):Option (Int×Int):=qh (b.2.length≤1000∧rows.length≤1000∧rows.flatten.length≤12) (some (IB b rows))
theorem ah8 {α:Type} {R:List (List α)} {r:List α} (h:r∈R):r.length≤R.flatten.length:=by
 obtain ⟨s,t,rfl⟩:=vm h;simp;omega
theorem abw {b:qb} {rows:List Row} {v:Int×Int} (h:Q3 b rows=some v):qD 25 [(.agg [(hY b.1),(.ay (b.2.flatMap p4) b.2.length .shared)]),(.ay (rows.map (qv p4)) rows.length .shared)] (.tuple [(hY v.1),(hY v.2)]):=by
 obtain ⟨⟨ad,af,aG⟩,h⟩:=qF h;obtain rfl:=Option.some.inj h;exact aeM akb (by decide) ad af (fun r aj=>by have:=ah8 aj;omega) fun _=>aG
theorem abv {b:qb} {rows:List Row} (ad:b.2.length≤1000) (af:rows.length≤1000) (aG:rows.flatten.length≤12):Q3 b rows=some (IB b rows):=qx ⟨ad,af,aG⟩

noncomputable def acM:eE :=
 GD [gV 1 [.hP 0] .box,Gr 2 0,gV 3 [.iK (.bool false)] .i_] (GD [gV 11 [.sl 1] (.p2 (.str 2)),gV 12 [.iK (.func 35 [] []),.sl 11] (.call 3),Gt 10 12,GL 13 10 0,gV 14 [.hS 10] (.ext 1),Gt 4 13,Gt 5 14] (GD [gV 16 [.sl 1] (.p2 (.str 2)),gV 17 [.iK (.func 41 [] []),.sl 16] (.call 3),Gt 15 17,GL 18 15 0,gV 19 [.hS 15] (.ext 1),Gt 6 18,Gt 7 19] (.seq (GD [Gt 20 5,F4 21 20 0 .neq,Gt 22 21,cS 23 [.hP 7] 22 false .i_,cS 24 [.hS 23,.iK (.int .i64 0)] 22 false (.bin .neq),gV 25 [.hS 22,.iK (.bool true),.hS 24] .pick,Gt 26 25,cS 27 [.sl 6] 26 false .i_,⟨some 28,[.iK (.func 24 [] []),.sl 27],some (26,false),none,.call 3⟩,gV 29 [.hS 26,.iK (.bool true),.hS 28] .pick] (.cond (.sl 29) (GD [Gt 30 4,Gt 2 30,gV 3 [.iK (.bool false)] .i_] .ret) .skip)) (GD [gV 32 [.sl 1] (.p2 (.str 2)),Gs 33 6,gV 34 [.iK (.func 25 [] []),.sl 32,.sl 33] (.call 3),Gt 31 34,GL 35 31 0,gV 36 [.hS 31] (.ext 1),Gt 8 35,Gt 5 36] (GD [gV 38 [.hS 1] (.p2 (.str 2)),Gt 39 6,gV 40 [.iK (.func 26 [] []),.sl 38,.sl 39] (.call 3),Gt 37 40,GL 41 37 0,gV 42 [.hS 37] (.ext 1),Gt 9 41,Gt 7 42] (GD [Gs 43 4,Gt 44 5,F4 45 44 0 .eql,Gt 46 45,cS 47 [.hP 7] 46 true .i_,cS 48 [.hS 47,.iK (.int .i64 0)] 46 true (.bin .eql),gV 49 [.hS 46,.hS 48,.iK (.bool false)] .pick,Gt 50 49,cS 51 [.hP 8] 50 true .i_,cS 52 [.sl 4] 50 true .i_,cS 53 [.hS 51,.hS 52] 50 true (.bin .eql),gV 54 [.hS 50,.hS 53,.iK (.bool false)] .pick,Gt 55 54,cS 56 [.hP 9] 55 true .i_,cS 57 [.hP 4] 55 true .i_,cS 58 [.hS 56,.hS 57] 55 true (.bin .eql),gV 59 [.hS 55,.hS 58,.iK (.bool false)] .pick,Gt 2 43,Gt 3 59] .ret))))))
theorem ahF:zm Tryz.prog WN 48=some (acM,60,[.tmp 2,.tmp 3]):=by kernel_rfl
def K0 (b:qk):Option (Int×Bool) :=
 (Pm b).bind fun r1 =>
 (Pn b).bind fun r2 =>
 if (decide (r1.2≠(0:Int)))=true then
  some (r1.1,false)
 else
  if (decide (r2.2≠(0:Int)))=true then
   some (r1.1,false)
  else
   (NP r2.1).bind fun eJ =>
   if eJ=true then
    some (r1.1,false)
   else
    (Q3 b r2.1).bind fun qA =>
    (NQ b r2.1).bind fun qE =>
    if (decide (qA.2=(0:Int)))=true then
     if (decide (qE.2=(0:Int)))=true then
      if (decide (qA.1=r1.1))=true then
       some (r1.1,(decide (qE.1=r1.1)))
      else
       some (r1.1,false)
     else
      some (r1.1,false)
    else
     some (r1.1,false)
theorem VM {b:qk} {v:(Int×Bool)} (h:K0 b=some v):qD 48 [(.agg [(hY b.1),(.ay (b.2.flatMap p4) b.2.length .shared)])] (.tuple [(hY v.1),(B v.2)]):=by
 refine qZ dM ahF rfl (IX (p5 rfl (p5 rfl rfl))) fun Q bo=>?_;have jG:qK [.tmp 2,.tmp 3] Q (fun v=>(.tuple [(hY v.1),(B v.2)])) v:=fun T H bK=>bo _ T H bK;unfold K0 at h;unfold acM;conv=>whnf
 obtain ⟨r1,e0,h⟩:=qj h;refine ⟨qt.pl,_,al7 e0,?_⟩;conv=>whnf
 obtain ⟨r2,fs,h⟩:=qj h;refine ⟨qt.pl,_,al9 fs,?_⟩;conv=>whnf
 refine bs h (fun qp h=>?_) fun qp h=>?_
 ·rw [qp];conv=>whnf
  exact qc h jG rfl rfl
 ·rw [qp];conv=>whnf
  refine bs h (fun qC h=>?_) fun qC h=>?_
  ·rw [qC];(conv=>whnf);exact qc h jG rfl rfl
  ·rw [qC];(conv=>whnf);obtain ⟨eJ,qH,h⟩:=qj h;refine ⟨qt.pl,_,al1 qH,?_⟩;(conv=>whnf);cases eJ
   ·(conv=>whnf);replace h:=r0 rfl h;obtain ⟨qA,qW,h⟩:=qj h;refine ⟨qt.pl,_,abw qW,?_⟩;(conv=>whnf);obtain ⟨qE,qU,h⟩:=qj h;refine ⟨qt.pl,_,abA qU,?_⟩;(conv=>whnf);refine bs h (fun qX h=>?_) fun qX h=>?_
    ·rw [qX];(conv=>whnf);refine bs h (fun ra h=>?_) fun ra h=>?_
     ·rw [ra];(conv=>whnf);refine bs h (fun qL h=>?_) fun qL h=>?_
      ·rw [qL];(conv=>whnf);exact qc h jG rfl rfl
      ·rw [qL];(conv=>whnf);exact qc h jG rfl rfl
     ·rw [ra];(conv=>whnf);exact qc h jG rfl rfl
    ·rw [qX];(conv=>whnf);exact qc h jG rfl rfl
   ·(conv=>whnf);replace h:=rZ rfl h;exact qc h jG rfl rfl

noncomputable def RJ:eE :=
 .loop (some (ED false [2,1,2,1,1,1,1,1,3,3,105])) (.seq (GD [Gs 75 15,Gs 76 7,Gp 77 76,F5 78 75 77 .lss] (.cond (.sl 78) .skip (.exit 0))) (.seq (.block 1 (.seq (Gx [gV 82 [.sl 2] (.p2 (.str 2)),Gs 83 7,Gs 84 15,Gl 85 83 84 1,Gq 86 85,gV 87 [.iK (.func 51 [] []),.sl 82,.sl 86] (.call 3),gV 88 [.iK (.func 27 [] []),.sl 87] (.call 3),Gt 81 88,GL 89 81 0,GL 90 81 1,Gt 16 89,Gt 17 90]) (.seq (GD [Gt 91 17,F4 92 91 0 .neq,Gt 93 92,cS 94 [.sl 16] 93 false .i_,cS 95 [.hP 94] 93 false .xe,cS 96 [.hS 95,.iK (.int .i64 2)] 93 false (.bin .rem),cS 97 [.hS 96,.iK (.int .i64 0)] 93 false (.bin .neq),gV 98 [.hS 93,.iK (.bool true),.hS 97] .pick] (.cond (.sl 98) (GD [gV 4 [.iK (.bool false)] .i_] .ret) .skip)) (Gw [Gt 99 13,Gs 100 16,Gp 101 100,F4 102 101 2 .quo,gV 103 [.iK (.int .i64 1),.hP 102] .max,F5 104 99 103 .add,Gt 105 14,Gt 106 16,Gp 107 106,F5 108 105 107 .add,Gt 13 104,Gt 14 108])))) (Gw [Gt 79 15,F3 80 79 1,Gt 15 80])))
noncomputable def acZ:eE :=
 GD [gV 2 [.hP 0] .box,gV 4 [.iK (.bool false)] .i_] (.seq (GD [gV 18 [.sl 2] (.p2 (.str 2)),gV 19 [.iK (.func 47 [] []),.sl 18] (.call 3),gV 20 [.hS 19] (.un .not),Gt 21 20,cS 22 [.sl 1] 21 false .i_,cS 23 [.hP 22] 21 false .xe,cS 24 [.hS 23,.iK (.int .i64 40)] 21 false (.bin .gtr),gV 25 [.hS 21,.iK (.bool true),.hS 24] .pick] (.cond (.sl 25) (GD [gV 26 [.iK (.func 17 [] [])] (.call 3),Gt 4 26] .ret) .skip)) (GD [gV 28 [.sl 2] (.p2 (.str 2)),gV 29 [.iK (.func 48 [] []),.sl 28] (.call 3),Gt 27 29,GL 30 27 0,gV 31 [.hS 27] (.ext 1),Gt 5 30,Gt 6 31] (GD [gV 33 [.sl 2] (.p2 (.str 2)),gV 34 [.iK (.func 49 [] []),.sl 33] (.call 3),Gt 32 34,GL 35 32 0,gV 36 [.hS 32] (.ext 1),Gt 7 35,Gt 8 36] (GD [gV 38 [.sl 2] (.p2 (.str 2)),gV 39 [.iK (.func 27 [] []),.sl 38] (.call 3),Gt 37 39,GL 40 37 0,gV 41 [.hS 37] (.ext 1),Gt 9 40,Gt 10 41] (.seq (Gx [gV 43 [.sl 2] (.p2 (.str 2)),gV 44 [.sl 2] (.p2 (.str 2)),Gt 45 1,gV 46 [.iK (.func 50 [] []),.sl 44,.sl 45] (.call 3),gV 47 [.iK (.func 25 [] []),.sl 43,.sl 46] (.call 3),Gt 42 47,GL 48 42 0,GL 49 42 1,Gt 11 48,Gt 12 49]) (.seq (GD [Gt 50 6,gV 51 [.hS 50] (.un .not),Gt 52 51,cS 53 [.hP 8] 52 false .i_,cS 54 [.hS 53] 52 false (.un .not),gV 55 [.hS 52,.iK (.bool true),.hS 54] .pick,Gt 56 55,cS 57 [.hP 10] 56 false .i_,cS 58 [.hS 57,.iK (.int .i64 0)] 56 false (.bin .neq),gV 59 [.hS 56,.iK (.bool true),.hS 58] .pick,Gt 60 59,cS 61 [.sl 9] 60 false .i_,cS 62 [.hP 61] 60 false .xe,cS 63 [.hS 62,.iK (.int .i64 2)] 60 false (.bin .rem),cS 64 [.hS 63,.iK (.int .i64 0)] 60 false (.bin .neq),gV 65 [.hS 60,.iK (.bool true),.hS 64] .pick,Gt 66 65,cS 67 [.hP 12] 66 false .i_,cS 68 [.hS 67,.iK (.int .i64 0)] 66 false (.bin .neq),gV 69 [.hS 66,.iK (.bool true),.hS 68] .pick,Gt 70 69,cS 71 [.hP 11] 70 false .i_,cS 72 [.sl 5] 70 false .i_,cS 73 [.hS 71,.hS 72] 70 false (.bin .lss),gV 74 [.hS 70,.iK (.bool true),.hS 73] .pick] (.cond (.sl 74) (GD [gV 4 [.iK (.bool false)] .i_] .ret) .skip)) (GD [Gr 13 0,Gr 14 0] (.seq (GD [Gr 15 0] (.block 0 RJ)) (GD [Gt 109 5,Gt 110 13,F5 111 109 110 .eql,Gt 112 111,cS 113 [.hP 14] 112 true .i_,cS 114 [.hP 9] 112 true .i_,cS 115 [.hP 114] 112 true .xe,cS 116 [.hS 113,.hS 115] 112 true (.bin .eql),gV 117 [.hS 112,.hS 116,.iK (.bool false)] .pick,Gt 118 117,⟨some 119,[.iK (.func 17 [] [])],some (118,true),none,.call 3⟩,gV 120 [.hS 118,.hS 119,.iK (.bool false)] .pick,Gt 4 120] .ret)))))))))
theorem ahS:zm Tryz.prog Sd 7=some (acZ,121,[.tmp 4]):=by kernel_rfl
def MG (b:qk) (qA:(GV×Bool)) (qi:Int→Int→Option Bool):Nat→Int→Int→Int→Option Bool
 | 0,_,_,_=>none
 | m+1,s1,s2,dj =>
   if (decide (dj<(qA.1.length:Int)))=true then
    qh (0≤dj∧dj<(qA.1.length:Int)) <|
    (Pp b (ix qA.1 dj)).bind fun Jl =>
    (JZ Jl).bind fun Hy =>
    if (decide (Hy.2≠(0:Int)))=true then
     some false
    else
     qh ((2:Int)≠0) <|
     if (decide (((Hy.1.length:Int).tmod (2:Int))≠(0:Int)))=true then
      some false
     else
      qh ((2:Int)≠0) <|
      MG b qA qi m (w (s1+(max (1:Int) (w ((Hy.1.length:Int).tdiv (2:Int)))))) (w (s2+(Hy.1.length:Int))) (w (dj+(1:Int)))
   else
    qi s1 s2
def Q8 (b:qk) (qd:ql):Option Bool :=
 (Mw b).bind fun r1 =>
 if r1=true then
  if (decide ((40:Int)<(qd.length:Int)))=true then
   (Il).bind fun r2 =>
   some r2
  else
   (K0 b).bind fun eJ =>
   (NS b).bind fun qA =>
   (JZ b).bind fun qE =>
   (Q4 b qd).bind fun sb =>
   (Q3 b sb).bind fun HR =>
   if eJ.2=true then
    if qA.2=true then
     if (decide (qE.2≠(0:Int)))=true then
      some false
     else
      qh ((2:Int)≠0) <|
      if (decide (((qE.1.length:Int).tmod (2:Int))≠(0:Int)))=true then
       some false
      else
       if (decide (HR.2≠(0:Int)))=true then
        some false
       else
        if (decide (HR.1<eJ.1))=true then
         some false
        else
         MG b qA (fun x6 ox =>
           if (decide (eJ.1=x6))=true then
            if (decide (ox=(qE.1.length:Int)))=true then
             (Il).bind fun Hf =>
             some Hf
            else
             some false
           else
            some false) qe (0:Int) (0:Int) (0:Int)
    else
     some false
   else
    some false
 else
  (Il).bind fun Kp =>
  some Kp
theorem amI {b:qk} {qA:(GV×Bool)} {qi:Int→Int→Option Bool} {s1:Int} {s2:Int} {dj:Int} {eJ:(Int×Bool)} {qE:(ql×Int)} {v:Bool} {Q:q8}   (jG:qK [.tmp 4] Q (fun v=>(B v)) v) (rD:∀ (x6 ox:Int) (bD:au) (p8:List I),qi x6 ox=some v→qO 121 [(5,(hY eJ.1)),(9,(qG qE.1 .shared)),(13,(hY x6)),(14,(hY ox))] p8→Q (.exit 0) p8 [bD]) {T:List I} (bZ:eX (ED false [2,1,2,1,1,1,1,1,3,3,105]) T=GI 121 [(2,(.ptr 0 0)),(5,(hY eJ.1)),(7,(.ay (qA.1.map js) qA.1.length .shared)),(9,(qG qE.1 .shared)),(13,(hY s1)),(14,(hY s2)),(15,(hY dj))]) (h:MG b qA qi qe s1 s2 dj=some v) :
  dG Tryz.prog Sd 7 0 none RJ T [qI b] Q:=by
 unfold RJ;refine wp_loop bZ ?_;refine .intro (fun m T H=>∃ (s1 s2 dj:Int),T=GI 121 [(2,(.ptr 0 0)),(5,(hY eJ.1)),(7,(.ay (qA.1.map js) qA.1.length .shared)),(9,(qG qE.1 .shared)),(13,(hY s1)),(14,(hY s2)),(15,(hY dj))]∧H=[qI b]∧MG b qA qi m s1 s2 dj=some v) qe ⟨s1,s2,dj,rfl,rfl,h⟩ ?_;clear h bZ;rintro m T H ⟨s1,s2,dj,rfl,rfl,h⟩;cases m
 ·exact q_ h
 rename_i m;rw [MG.eq_2] at h;conv=>whnf
 refine bs h (fun sa h=>?_) fun sa h=>?_
 ·rw [sa];conv=>whnf
  refine qw h id fun G_ h=>?_;rw [rS js qA.1 dj G_];conv=>whnf
  obtain ⟨Jl,rT,h⟩:=qj h;refine ⟨qt.pl,_,amu rT,Hu,?_⟩;conv=>whnf
  obtain ⟨Hy,Hn,h⟩:=qj h;refine ⟨qt.pl,_,Pk Hn,HB rfl,?_⟩;conv=>whnf
  refine bs h (fun rX h=>?_) fun rX h=>?_
  ·rw [rX];(conv=>whnf);exact qc h jG rfl rfl
  ·rw [rX];(conv=>whnf);refine qw h id fun Hd h=>?_;(conv=>whnf);refine bs h (fun sf h=>?_) fun sf h=>?_
   ·rw [sf];(conv=>whnf);exact qc h jG rfl rfl
   ·rw [sf];(conv=>whnf);refine qw h id fun HV h=>?_;(conv=>whnf);exact ⟨m,sv m,(w (s1+(max (1:Int) (w ((Hy.1.length:Int).tdiv (2:Int)))))),(w (s2+(Hy.1.length:Int))),(w (dj+(1:Int))),rfl,rfl,h⟩
 ·rw [sa];conv=>whnf
  exact rD _ _ _ _ h ⟨rfl,rfl⟩
theorem amJ {b:qk} {qd:ql} {v:Bool} (h:Q8 b qd=some v):qD 7 [(.agg [(hY b.1),(.ay (b.2.flatMap p4) b.2.length .shared)]),(.ay (qd.map qQ) qd.length .shared)] (B v):=by
 refine qZ dM ahS rfl rfl fun Q bo=>?_;have jG:qK [.tmp 4] Q (fun v=>(B v)) v:=fun T H bK=>bo _ T H bK;unfold Q8 at h;unfold acZ;obtain ⟨HD,qS⟩:∃ c,RJ=c:=⟨_,rfl⟩;rw [qS];conv=>whnf
 obtain ⟨r1,e0,h⟩:=qj h;refine ⟨qt.pl,_,VK e0,?_⟩;conv=>whnf
 cases r1
 ·conv=>whnf
  replace h:=r0 rfl h;obtain ⟨Kp,It,h⟩:=qj h;refine ⟨rfl,_,JX It,?_⟩;conv=>whnf
  exact qc h jG rfl rfl
 ·conv=>whnf
  replace h:=rZ rfl h;refine bs h (fun fs h=>?_) fun fs h=>?_
  ·rw [fs];(conv=>whnf);obtain ⟨r2,qp,h⟩:=qj h;refine ⟨rfl,_,JX qp,?_⟩;(conv=>whnf);exact qc h jG rfl rfl
  ·rw [fs];(conv=>whnf);obtain ⟨eJ,qC,h⟩:=qj h;refine ⟨qt.pl,_,VM qC,?_⟩;(conv=>whnf);obtain ⟨qA,qH,h⟩:=qj h;refine ⟨qt.pl,_,abG qH,?_⟩;(conv=>whnf);obtain ⟨qE,qW,h⟩:=qj h;refine ⟨qt.pl,_,Pk qW,?_⟩;(conv=>whnf);obtain ⟨sb,qU,h⟩:=qj h;refine ⟨qt.pl,_,amr qU,Hu,?_⟩;(conv=>whnf);obtain ⟨HR,qX,h⟩:=qj h;refine ⟨qt.pl,_,abw qX,HB rfl,?_⟩;(conv=>whnf);refine bs h (fun ra h=>?_) fun ra h=>?_
   ·rw [ra];(conv=>whnf);refine bs h (fun qL h=>?_) fun qL h=>?_
    ·rw [qL];(conv=>whnf);refine bs h (fun q9 h=>?_) fun q9 h=>?_
     ·rw [q9];(conv=>whnf);exact qc h jG rfl rfl
     ·rw [q9];(conv=>whnf);refine qw h id fun rn h=>?_;(conv=>whnf);refine bs h (fun rb h=>?_) fun rb h=>?_
      ·rw [rb];(conv=>whnf);exact qc h jG rfl rfl
      ·rw [rb];(conv=>whnf);refine bs h (fun rY h=>?_) fun rY h=>?_
       ·rw [rY];(conv=>whnf);exact qc h jG rfl rfl
       ·rw [rY];(conv=>whnf);refine bs h (fun GY h=>?_) fun GY h=>?_
        ·rw [GY];(conv=>whnf);exact qc h jG rfl rfl
        ·rw [GY];(conv=>whnf);subst qS;refine amI ?_ ?_ (by exact rfl) h
         ·exact fun T H bK=>jG T H bK
         ·intro x6 ox bD p8 h qf;obtain ⟨qJ,rfl⟩:=qf.ex;(conv=>whnf);refine bs h (fun HW h=>?_) fun HW h=>?_
          ·rw [HW];(conv=>whnf);refine bs h (fun Is h=>?_) fun Is h=>?_
           ·rw [Is];(conv=>whnf);obtain ⟨Hf,HO,h⟩:=qj h;refine ⟨rfl,_,JX HO,?_⟩;(conv=>whnf);exact qc h jG rfl rfl
           ·rw [Is];(conv=>whnf);exact qc h jG rfl rfl
          ·rw [HW];(conv=>whnf);exact qc h jG rfl rfl
    ·rw [qL];(conv=>whnf);exact qc h jG rfl rfl
   ·rw [ra];(conv=>whnf);exact qc h jG rfl rfl
end Go.Proofs.YtfakoboiahbhaaaGreat.Ab


namespace Go.Proofs.YtfakoboiahbhaaaGreat.Ab
open Go
section
variable {b:qb}
theorem MR.afo {R:List Row} (h:MR b R):R.flatten.length=b.2.length:=by
 have:=h.all.length_eq
 rwa [tj,se] at this
theorem VL (p7:qM b):K0 b=some ((G9 b:Int),true):=by
 have dD:=p7.len;obtain ⟨ad,rk⟩:=Nx p7;have ai:=rk.short p7;have ao:=Sw p7 rk.toRowsOf rk.ne;rw [K0,al6 (by omega),sq,al8 (by omega),sq,Xz p7,if_pos (Hi.2 p7)];rw [if_neg (by simp),if_neg (by simp),al0 (by simp;omega) (fun r aj=>by have:=ai.2 r aj;omega),sq,if_neg (by decide),abv (by omega) (show (KX b).length≤1000 by omega) (show (KX b).flatten.length≤12 by have:=rk.afo;omega),sq,abx (by omega) (show (KX b).length≤20 by omega) (fun r aj=>by have:=ai.2 r aj;omega),sq,ao];simp [rk.len]
theorem YO {f:Int}:∀ P:List (List Int),P.Pairwise (fun r q=>qN b r f=0∨qN b q f=0)→(P.map fun r=>if qN b r f % 2=1 then 1 else 0).sum=if qN b P.flatten f % 2=1 then 1 else 0
 | [],_=>by simp [qN]
 | r::P,h=>by
   obtain ⟨ad,af⟩:=tD.1 h;have bb:=YO P af;rw [sy,tn,bb,tG,MX];by_cases aS:qN b r f=0
   ·simp [aS]
   ·have bp:qN b P.flatten f=0:=MZ.2 fun i hi=>by
     obtain ⟨q,a5,hi⟩:=tZ.1 hi;rcases ad q a5 with h | h
     ·exact absurd h aS
     ·exact MZ.1 h i hi
    simp [bp]
theorem SI {α:Type} (p:α→Bool):∀ l:List α,(l.filter p).length=(l.map fun x=>if p x=true then 1 else 0).sum
 | []=>rfl
 | x::l=>by
   rw [sy,tn,←SI p l,tr];split
   ·rw [sP];omega
   ·omega
theorem ZY {α β:Type} (g:α→β→Nat) (l:List α):∀ P:List β,(P.map fun r=>(l.map fun x=>g x r).sum).sum=(l.map fun x=>(P.map fun r=>g x r).sum).sum
 | []=>by
   induction l with
   | nil=>rfl
   | cons x l bb =>
     simp only [sy,tn,tA,wM] at bb ⊢;omega
 | r::P=>by
   have bb:=ZY g l P;simp only [sy,tn,bb];clear bb
   induction l with
   | nil=>rfl
   | cons x l bb=>simp only [sy,tn];omega
theorem rz.aj4 {S:List Int} {P:List (List Int)} (h:rz b S P) (f:Int):P.Pairwise (fun r q=>qN b r f=0∨qN b q f=0):=by
 have hm:P.Pairwise fun r q=>r∈P∧q∈P∧∀ x∈r,x ∉ q:=by
  rw [tB];intro i j hi aw g5;exact ⟨sL hi,sL aw,tB.1 h.rP i j hi aw g5⟩
 refine hm.imp fun {r q} KP=>?_;obtain ⟨aj,a5,a1⟩:=KP;refine Classical.byContradiction fun aN=>?_;have ad:¬ qN b r f=0:=fun e=>aN (.inl e);have af:¬ qN b q f=0:=fun e=>aN (.inr e);rw [MZ] at ad af;have ⟨x,al,agL⟩:∃ x∈r,re b x f:=Classical.byContradiction fun bK=>ad fun i hi aQ=>bK ⟨i,hi,aQ⟩;have ⟨y,a2,agN⟩:∃ y∈q,re b y f:=Classical.byContradiction fun bK=>af fun i hi aQ=>bK ⟨i,hi,aQ⟩;have e:=h.sep r aj q a5 x al y a2 f agL agN;subst e;exact a1 x al al
theorem rz.aii {S:List Int} {P:List (List Int)} (h:rz b S P) (aC:P.flatten.Perm S):(P.map fun r=>(q3 b r).length).sum=(q3 b S).length:=by
 have e:∀ r,(q3 b r).length=((upto 6).map fun f=>if qN b r f % 2=1 then 1 else 0).sum:=fun r=>by
  unfold q3;rw [SI];simp only [decide_eq_true_eq]
 rw [e S,tY (g:=fun r=>((upto 6).map fun f=>if qN b r f % 2=1 then 1 else 0).sum) fun r _=>e r,ZY];refine congrArg List.sum (tY fun f _=>?_);rw [YO P (h.aj4 f),MY aC]
theorem ab1 (p7:qM b) {k:Int→Int→Option Bool}:∀ (m i:Nat) (z x y:Int),z=i→x=((((parts b).take i).map (HQ b)).sum:Nat)→y=((((parts b).take i).map fun r=>(q3 b r).length).sum:Nat)→i≤(parts b).length→(parts b).length-i<m →
  MG b (parts b,true) k m x y z=k ((((parts b).map (HQ b)).sum:Nat):Int) ((((parts b).map fun r=>(q3 b r).length).sum:Nat):Int)
 | 0,_,_,_,_,_,_,_,_,h=>absurd h (by omega)
 | m+1,i,_,_,_,rfl,rfl,rfl,hi,hm=>by
   have OE:=TS p7;have e0:∀ i,(((parts b).take i).map (HQ b)).sum≤3*i:=fun i=>by
    have ad:((((parts b).take i).map (HQ b)).sum)≤(((parts b).take i).map fun _=>3).sum:=NA _ _ _ fun r _=>TO r;have af:(((parts b).take i).map fun _=>3).sum=3*((parts b).take i).length:=by
     generalize (parts b).take i=l
     induction l with
     | nil=>rfl
     | cons x l bb=>rw [sy,tn,bb,sP];omega
    (have aG:((parts b).take i).length≤i:=by rw [ta];omega);omega
   have fs:∀ i,(((parts b).take i).map fun r=>(q3 b r).length).sum≤6*i:=fun i=>by
    have ad:((((parts b).take i).map fun r=>(q3 b r).length).sum)≤(((parts b).take i).map fun _=>6).sum:=NA _ _ _ fun r _=>TQ r;have af:(((parts b).take i).map fun _=>6).sum=6*((parts b).take i).length:=by
     generalize (parts b).take i=l
     induction l with
     | nil=>rfl
     | cons x l bb=>rw [sy,tn,bb,sP];omega
    (have aG:((parts b).take i).length≤i:=by rw [ta];omega);omega
   rw [MG];by_cases h:(i:Int)<((parts b).length:Int)
   ·(have q':i<(parts b).length:=by omega);have g6:=Y9 p7 _ (sL q');have afC:=aiu p7 g6.1 g6.2;have l1:=Ma p7 g6.1;have fM:=TQ (b:=b) (parts b)[i];have ad:=e0 i;have af:=fs i;have ax:(parts b).take (i+1)=(parts b).take i++[(parts b)[i]]:=tH q';have bb:=ab1 (k:=k) p7 m (i+1) _ _ _ rfl rfl rfl (by omega) (by omega);rw [if_pos (decide_eq_true h),qx ⟨by omega,h⟩,rm q',ams g6.1 (by omega),sq,Pj (by rw [Y3];omega),sq,Nf afC,aiw];dsimp only
    rw [if_neg (by simp),qx (by decide),if_neg (by
     have:((q3 b (parts b)[i]).length:Int).tmod 2=(((q3 b (parts b)[i]).length % 2:Nat):Int):=rfl
     simp only [this,l1];simp),qx (by decide),akR,r4 i (by omega)]
    have e1:max (1:Int) (w (((q3 b (parts b)[i]).length / 2:Nat):Int))=((HQ b (parts b)[i]:Nat):Int):=by
     rw [HF (by omega)];unfold HQ;omega
    have dJ:HQ b (parts b)[i]≤3:=TO _;rw [e1,HF (by omega),HF (by omega)];rw [ax,ti,v3,ti,v3] at bb;simp only [sy,tA,tn,wM,Nat.add_zero] at bb;rw [←bb];congr 1 <;> omega
   ·rw [if_neg (by simpa using h),show i=(parts b).length by omega,tE]
theorem amH (b:qb) {by_:List Int} (Ll:∀ x∈by_,0≤x∧x≤255):Q8 b by_=some true:=by
 rw [Q8,VJ,sq];by_cases aQ:(decide (b.2.length≤14) && decide (ri b=0))=true
 case neg=>rw [if_neg aQ];simp only [JY,sq]
 rw [if_pos aQ];simp only [sM,decide_eq_true_eq] at aQ;have p7:=Hi.1 aQ.2;have dD:=p7.len;by_cases XW:(40:Int)<(by_.length:Int)
 ·rw [if_pos (decide_eq_true XW)];simp only [JY,sq]
 obtain ⟨R,jG,lU,bO⟩:=amd (b:=b) (by_:=by_) (by omega) Ll p7;have pk:R.flatten.length=b.2.length:=by
  have:=lU.all.length_eq
  rwa [tj,se] at this
 have X2:R.length≤R.flatten.length:=TS p7 |> fun _=>by
  clear lU jG pk
  induction R with
  | nil=>simp
  | cons r R bb =>
    have:=tT.2 (bO r (by simp));have:=bb fun q a5=>bO q (by simp [a5]);rw [tG,sA,sP];omega
 have l1:=Ma p7 (S:=upto b.2.length) I7;have hle:=SF p7 lU;rw [if_neg (by simpa using XW),VL p7,sq,abD p7,sq,Pj (by omega),sq,jG,sq,abv (by omega) (by omega) (by omega),sq,Sw p7 lU bO,Nf p7];have Tw:((q6 b).length:Int).tmod 2=(((q6 b).length % 2:Nat):Int):=rfl;rw [if_pos rfl,if_pos rfl,if_neg (by simp),qx (by decide),if_neg (by rw [Tw];unfold q6;rw [l1];simp),if_neg (by simp),if_neg (by simp;omega)];rw [ab1 p7 qe 0 0 0 0 rfl (by simp) (by simp) (by omega) (rR (by have:=TS p7;omega))];have agD:=(K3 p7).2.1.aii (Qn p7);rw [agD];show (if decide ((G9 b:Int)=(G9 b:Int))=true then if decide (((q6 b).length:Int)=((q6 b).length:Int))=true then Il.bind fun Hf=>some Hf else some false else some false)=some true;rw [if_pos (decide_eq_true rfl),if_pos (decide_eq_true rfl)];simp only [JY,sq]
theorem ah6 {b:qb} {by_:List Int} (Ll:∀ x∈by_,0≤x∧x≤255):qD 7 [.agg [hY b.1,.ay (b.2.flatMap p4) b.2.length .shared],.ay (by_.map qQ) by_.length .shared] (B true):=amJ (amH b Ll)
end
end Go.Proofs.YtfakoboiahbhaaaGreat.Ab


namespace Go.Proofs.YtfakoboiahbhaaaGreat.Ab
open Go
set_option maxRecDepth 20000
set_option maxHeartbeats 4000000
noncomputable def acQ:eE :=
 GD [gV 2 [.iK (.ay [] 0 .full)] (.nil 1)] (GD [Gt 3 0,Gt 2 3] .ret)
theorem ahJ:zm Tryz.prog WO 52=some (acQ,4,[.tmp 2]):=by kernel_rfl
def Q5 (x:qq):Option qq :=
 some x
theorem amw {x:qq} {v:qq} (h:Q5 x=some v):qD 52 [(.ay (x.map (qv p4)) x.length .shared)] (.ay (v.map (qv p4)) v.length .shared):=by
 refine qZ dM ahJ rfl (rO (fun _=>(q7 (fun _=>(p5 rfl (p5 rfl rfl))) _ _ _)) _ _ _) fun Q bo=>?_;have jG:qK [.tmp 2] Q (fun v=>(.ay (v.map (qv p4)) v.length .shared)) v:=fun T H bK=>bo _ T H bK;unfold Q5 at h;unfold acQ;conv=>whnf
 exact qc h jG rfl rfl

noncomputable def RO:eE :=
 .seq (GD [Gt 137 11,gV 138 [.hS 137] (.un .not)] (.cond (.sl 138) (GD [gV 139 [.iK (.func 17 [] [])] (.call 3),Gt 2 139] .ret) .skip)) (GD [gV 141 [.sl 1] (.p2 (.str 2)),Gs 142 7,gV 143 [.iK (.func 18 [] []),.sl 141,.sl 142] (.call 3),Gt 140 143,GL 144 140 0,GL 145 140 1,gV 146 [.hS 140] (.ext 2),Gt 13 144,Gt 14 145,Gt 15 146] (.seq (Gx [gV 148 [.hS 1] (.p2 (.str 2)),Gt 149 7,gV 150 [.hS 149] (.yg 1 1 [.ay [] 0 .full] [0]),gV 151 [.iK (.func 52 [] []),.sl 150] (.call 3),gV 152 [.iK (.func 26 [] []),.sl 148,.sl 151] (.call 3),Gt 147 152,GL 153 147 0,GL 154 147 1,Gt 16 153,Gt 17 154]) (.seq (GD [Gt 155 15,F4 156 155 0 .neq,Gt 157 156,cS 158 [.hP 17] 157 false .i_,cS 159 [.hS 158,.iK (.int .i64 0)] 157 false (.bin .neq),gV 160 [.hS 157,.iK (.bool true),.hS 159] .pick] (.cond (.sl 160) (GD [gV 2 [.iK (.bool false)] .i_] .ret) .skip)) (.seq (GD [Gt 161 12] (.cond (.sl 161) (GD [Gt 162 13,Gt 163 14,F5 164 162 163 .eql,Gt 165 164,⟨some 166,[.iK (.func 17 [] [])],some (165,true),none,.call 3⟩,gV 167 [.hS 165,.hS 166,.iK (.bool false)] .pick,Gt 2 167] .ret) .skip)) (GD [Gs 168 13,Gs 169 14,gV 170 [.hP 168,.hP 169] .min,Gs 171 5,gV 172 [.hS 171,.iK (.int .i64 0)] (.pV 1),Gq 173 172,F5 174 170 173 .eql,Gt 175 174,cS 176 [.hP 13] 175 true .i_,cS 177 [.hP 14] 175 true .i_,cS 178 [.hP 176,.hP 177] 175 true .max,cS 179 [.hP 5] 175 true .i_,cS 180 [.hS 179,.iK (.int .i64 1)] 175 true (.pV 1),cS 181 [.hS 180] 175 true (.p2 .one),cS 182 [.hS 178,.hS 181] 175 true (.bin .eql),gV 183 [.hS 175,.hS 182,.iK (.bool false)] .pick,Gt 184 183,⟨some 185,[.iK (.func 17 [] [])],some (184,true),none,.call 3⟩,gV 186 [.hS 184,.hS 185,.iK (.bool false)] .pick,Gt 2 186] .ret)))))
noncomputable def RP:eE :=
 .seq (GD [Gs 124 12,Gt 125 124,cS 126 [.sl 1] 125 true (.p2 (.str 2)),cS 127 [.sl 9] 125 true .i_,⟨some 128,[.iK (.func 22 [] []),.sl 126,.sl 127],some (125,true),none,.call 3⟩,cS 129 [.hS 128,.iK (.int .i64 0)] 125 true (.bin .neq),cS 130 [.hP 129] 125 true .i_,cS 131 [.sl 1] 130 false (.p2 (.str 2)),cS 132 [.hP 9] 130 false .i_,⟨some 133,[.iK (.func 23 [] []),.sl 131,.sl 132],some (130,false),none,.call 3⟩,cS 134 [.hS 133,.iK (.int .i64 0)] 130 false (.bin .neq),cS 135 [.hS 130,.iK (.bool true),.hS 134] 125 true .pick,gV 136 [.hS 125,.hS 135,.iK (.bool false)] .pick] (.cond (.sl 136) (GD [gV 2 [.iK (.bool false)] .i_] .ret) .skip)) RO
noncomputable def RQ:eE :=
 .seq (GD [Gs 98 8,F4 99 98 0 .eql,Gs 100 11,gV 101 [.hS 99,.hS 100] (.oK true),Gt 102 101,cS 103 [.sl 10] 102 false .i_,cS 104 [.hS 103,.iK (.int .i64 0)] 102 false (.bin .eql),cS 105 [.sl 12] 102 false .i_,cS 106 [.hS 104,.hS 105] 102 false (.oK true),gV 107 [.hS 102,.iK (.bool true),.hS 106] .pick,Gt 108 107,cS 109 [.sl 11] 108 false .i_,cS 110 [.hS 109] 108 false (.un .not),cS 111 [.hP 110] 108 false .i_,cS 112 [.hP 8] 111 true .i_,cS 113 [.hS 112,.iK (.int .i64 27)] 111 true (.bin .neq),cS 114 [.hS 111,.hS 113,.iK (.bool false)] 108 false .pick,gV 115 [.hS 108,.iK (.bool true),.hS 114] .pick,Gt 116 115,cS 117 [.sl 12] 116 false .i_,cS 118 [.hS 117] 116 false (.un .not),cS 119 [.hP 118] 116 false .i_,cS 120 [.hP 10] 119 true .i_,cS 121 [.hS 120,.iK (.int .i64 27)] 119 true (.bin .neq),cS 122 [.hS 119,.hS 121,.iK (.bool false)] 116 false .pick,gV 123 [.hS 116,.iK (.bool true),.hS 122] .pick] (.cond (.sl 123) (GD [gV 2 [.iK (.bool false)] .i_] .ret) .skip)) RP
noncomputable def ac4:eE :=
 GD [gV 1 [.hP 0] .box,gV 2 [.iK (.bool false)] .i_] (.seq (GD [gV 18 [.sl 1] (.p2 (.str 2)),gV 19 [.iK (.func 47 [] []),.sl 18] (.call 3),gV 20 [.hS 19] (.un .not)] (.cond (.sl 20) (GD [gV 21 [.iK (.func 17 [] [])] (.call 3),Gt 2 21] .ret) .skip)) (GD [gV 23 [.sl 1] (.p2 (.str 2)),gV 24 [.iK (.func 49 [] []),.sl 23] (.call 3),Gt 22 24,GL 25 22 0,gV 26 [.hS 22] (.ext 1),Gt 3 25,Gt 4 26] (GD [gV 28 [.sl 1] (.p2 (.str 2)),gV 29 [.iK (.func 27 [] []),.sl 28] (.call 3),Gt 27 29,GL 30 27 0,gV 31 [.hS 27] (.ext 1),Gt 5 30,Gt 6 31] (GD [gV 33 [.sl 1] (.p2 (.str 2)),gV 34 [.iK (.func 37 [] []),.sl 33] (.call 3),Gt 32 34,GL 35 32 0,gV 36 [.hS 32] (.ext 1),Gt 7 35,Gt 8 36] (GD [gV 38 [.sl 1] (.p2 (.str 2)),gV 39 [.iK (.func 42 [] []),.sl 38] (.call 3),Gt 37 39,GL 40 37 0,gV 41 [.hS 37] (.ext 1),Gt 9 40,Gt 10 41] (.seq (GD [Gt 42 4,gV 43 [.hS 42] (.un .not),Gt 44 43,cS 45 [.hP 6] 44 false .i_,cS 46 [.hS 45,.iK (.int .i64 0)] 44 false (.bin .neq),gV 47 [.hS 44,.iK (.bool true),.hS 46] .pick,Gt 48 47,cS 49 [.sl 7] 48 false .i_,cS 50 [.hP 49] 48 false .xe,cS 51 [.sl 1] 48 false (.oY 1),cS 52 [.hS 51] 48 false (.p2 .one),cS 53 [.hP 52] 48 false .xe,cS 54 [.hS 50,.hS 53] 48 false (.bin .gtr),gV 55 [.hS 48,.iK (.bool true),.hS 54] .pick,Gt 56 55,cS 57 [.sl 9] 56 false .i_,cS 58 [.hP 57] 56 false .xe,cS 59 [.sl 1] 56 false (.oY 1),cS 60 [.hS 59] 56 false (.p2 .one),cS 61 [.hP 60] 56 false .xe,cS 62 [.hS 58,.hS 61] 56 false (.bin .gtr),gV 63 [.hS 56,.iK (.bool true),.hS 62] .pick] (.cond (.sl 63) (GD [gV 2 [.iK (.bool false)] .i_] .ret) .skip)) (.seq (GD [gV 64 [.sl 1] (.oY 1),Gq 65 64,Gp 66 65,F4 67 66 0 .eql] (.cond (.sl 67) (GD [Gt 68 8,F4 69 68 5 .eql,Gt 70 69,cS 71 [.hP 10] 70 true .i_,cS 72 [.hS 71,.iK (.int .i64 5)] 70 true (.bin .eql),gV 73 [.hS 70,.hS 72,.iK (.bool false)] .pick,Gt 74 73,cS 75 [.hP 5] 74 true .i_,cS 76 [.hP 75] 74 true .xe,cS 77 [.hS 76,.iK (.int .i64 0)] 74 true (.bin .eql),gV 78 [.hS 74,.hS 77,.iK (.bool false)] .pick,Gt 79 78,⟨some 80,[.iK (.func 17 [] [])],some (79,true),none,.call 3⟩,gV 81 [.hS 79,.hS 80,.iK (.bool false)] .pick,Gt 2 81] .ret) .skip)) (GD [Gs 82 3,Gp 83 82,F4 84 83 1 .eql,Gt 85 84,cS 86 [.sl 5] 85 true .i_,cS 87 [.hP 86] 85 true .xe,cS 88 [.hS 87,.iK (.int .i64 2)] 85 true (.bin .leq),gV 89 [.hS 85,.hS 88,.iK (.bool false)] .pick,Gt 90 3,Gp 91 90,F4 92 91 1 .eql,Gt 93 92,cS 94 [.sl 5] 93 true .i_,cS 95 [.hP 94] 93 true .xe,cS 96 [.hS 95,.iK (.int .i64 0)] 93 true (.bin .eql),gV 97 [.hS 93,.hS 96,.iK (.bool false)] .pick,Gt 11 89,Gt 12 97] RQ))))))))
theorem ahX:zm Tryz.prog N8 8=some (ac4,187,[.tmp 2]):=by kernel_rfl
def KA (b:qk) (eJ:(ql×Int)) (qA:(p'×Int)) (mu Kl:Bool):Option Bool :=
 if mu=true then
  (Mk b qA.1).bind fun Hy =>
  (Q5 [qA.1]).bind fun Hf =>
  (NQ b Hf).bind fun Kp =>
  if (decide (Hy.2.2≠(0:Int)))=true then
   some false
  else
   if (decide (Kp.2≠(0:Int)))=true then
    some false
   else
    if Kl=true then
     if (decide (Hy.1=Hy.2.1))=true then
      (Il).bind fun OS =>
      some OS
     else
      some false
    else
     qh (0≤(0:Int)∧(0:Int)<(eJ.1.length:Int)) <|
     if (decide ((min Hy.1 Hy.2.1)=(ix eJ.1 (0:Int))))=true then
      qh (0≤(1:Int)∧(1:Int)<(eJ.1.length:Int)) <|
      if (decide ((max Hy.1 Hy.2.1)=(ix eJ.1 (1:Int))))=true then
       (Il).bind fun T0 =>
       some T0
      else
       some false
     else
      some false
 else
  (Il).bind fun Zf =>
  some Zf
def Kz (b:qk) (eJ:(ql×Int)) (qA:(p'×Int)) (qE:(p'×Int)) (mu mv:Bool):Option Bool :=
 if mv=true then
  (Ms b qE.1).bind fun HR =>
  if (decide (HR≠(0:Int)))=true then
   some false
  else
   (NO b qE.1).bind fun Jl =>
   if (decide (Jl≠(0:Int)))=true then
    some false
   else
    KA b eJ qA mu true
 else
  KA b eJ qA mu false
def LI (b:qk) (eJ:(ql×Int)) (qA:(p'×Int)) (qE:(p'×Int)) (dx dq:Bool):Option Bool :=
 if ((decide (qA.2=(0:Int))) == dx)=true then
  if ((decide (qE.2=(0:Int))) == dq)=true then
   if dx=true then
    if dq=true then
     Kz b eJ qA qE true true
    else
     if (decide (qE.2≠(27:Int)))=true then
      some false
     else
      Kz b eJ qA qE true false
   else
    if (decide (qA.2≠(27:Int)))=true then
     some false
    else
     if dq=true then
      Kz b eJ qA qE false true
     else
      if (decide (qE.2≠(27:Int)))=true then
       some false
      else
       Kz b eJ qA qE false false
  else
   some false
 else
  some false
def Ra (b:qk):Option Bool :=
 (Mw b).bind fun r1 =>
 if r1=true then
  (NS b).bind fun r2 =>
  (JZ b).bind fun eJ =>
  (NR b).bind fun qA =>
  (Po b).bind fun qE =>
  if r2.2=true then
   if (decide (eJ.2≠(0:Int)))=true then
    some false
   else
    if (decide ((b.2.length:Int)<(qA.1.length:Int)))=true then
     some false
    else
     if (decide ((b.2.length:Int)<(qE.1.length:Int)))=true then
      some false
     else
      if (decide ((b.2.length:Int)=(0:Int)))=true then
       if (decide (qA.2=(5:Int)))=true then
        if (decide (qE.2=(5:Int)))=true then
         if (decide ((eJ.1.length:Int)=(0:Int)))=true then
          (Il).bind fun sb =>
          some sb
         else
          some false
        else
         some false
       else
        some false
      else
       if (decide ((r2.1.length:Int)=(1:Int)))=true then
        if (decide ((r2.1.length:Int)=(1:Int)))=true then
         LI b eJ qA qE (decide ((eJ.1.length:Int)≤(2:Int))) (decide ((eJ.1.length:Int)=(0:Int)))
        else
         LI b eJ qA qE (decide ((eJ.1.length:Int)≤(2:Int))) false
       else
        if (decide ((r2.1.length:Int)=(1:Int)))=true then
         LI b eJ qA qE false (decide ((eJ.1.length:Int)=(0:Int)))
        else
         LI b eJ qA qE false false
  else
   some false
 else
  (Il).bind fun Zg =>
  some Zg
theorem ab_ {b:qk} {eJ:(ql×Int)} {qA:(p'×Int)} {mu:Bool} {Kl:Bool} {v:Bool} {Q:q8}  {p8:List I}  (jG:qK [.tmp 2] Q (fun v=>(B v)) v) (qf:qO 187 [(1,(.ptr 0 0)),(5,(qG eJ.1 .shared)),(7,(p9 qA.1 .shared)),(11,(B mu)),(12,(B Kl))] p8) (h:KA b eJ qA mu Kl=some v) :
  dG Tryz.prog N8 8 0 none RO p8 [qI b] Q:=by
 obtain ⟨qJ,rfl⟩:=qf.ex;unfold KA at h;unfold RO;conv=>whnf
 cases mu
 ·conv=>whnf
  replace h:=r0 rfl h;obtain ⟨Zf,afQ,h⟩:=qj h;refine ⟨rfl,_,JX afQ,?_⟩;conv=>whnf
  exact qc h jG rfl rfl
 ·conv=>whnf
  replace h:=rZ rfl h;obtain ⟨Hy,HV,h⟩:=qj h;refine ⟨qt.pl,_,VH HV,?_⟩;conv=>whnf
  obtain ⟨Hf,HW,h⟩:=qj h;refine ⟨(p5 (Qr (p5 (q7 (fun _=>(p5 rfl (p5 rfl rfl))) _ _ _) rfl)) rfl),_,amw HW,Hu,?_⟩;conv=>whnf
  obtain ⟨Kp,Is,h⟩:=qj h;refine ⟨qt.pl,_,abA Is,HB rfl,?_⟩;conv=>whnf
  refine bs h (fun HO h=>?_) fun HO h=>?_
  ·rw [HO];(conv=>whnf);exact qc h jG rfl rfl
  ·rw [HO];(conv=>whnf);refine bs h (fun It h=>?_) fun It h=>?_
   ·rw [It];(conv=>whnf);exact qc h jG rfl rfl
   ·rw [It];(conv=>whnf);cases Kl
    ·(conv=>whnf);replace h:=r0 rfl h;refine qw h id fun Oz h=>?_;rw [rS hY eJ.1 (0:Int) Oz];(conv=>whnf);refine bs h (fun OA h=>?_) fun OA h=>?_
     ·rw [OA];(conv=>whnf);refine qw h id fun Tc h=>?_;rw [rS hY eJ.1 (1:Int) Tc];(conv=>whnf);refine bs h (fun OB h=>?_) fun OB h=>?_
      ·rw [OB];(conv=>whnf);obtain ⟨T0,afP,h⟩:=qj h;refine ⟨rfl,_,JX afP,?_⟩;(conv=>whnf);exact qc h jG rfl rfl
      ·rw [OB];(conv=>whnf);exact qc h jG rfl rfl
     ·rw [OA];(conv=>whnf);exact qc h jG rfl rfl
    ·(conv=>whnf);replace h:=rZ rfl h;refine bs h (fun KM h=>?_) fun KM h=>?_
     ·rw [KM];(conv=>whnf);obtain ⟨OS,KN,h⟩:=qj h;refine ⟨rfl,_,JX KN,?_⟩;(conv=>whnf);exact qc h jG rfl rfl
     ·rw [KM];(conv=>whnf);exact qc h jG rfl rfl
theorem Rh {b:qk} {eJ:(ql×Int)} {qA:(p'×Int)} {qE:(p'×Int)} {mu:Bool} {mv:Bool} {v:Bool} {Q:q8}  {p8:List I}  (jG:qK [.tmp 2] Q (fun v=>(B v)) v) (qf:qO 187 [(1,(.ptr 0 0)),(5,(qG eJ.1 .shared)),(7,(p9 qA.1 .shared)),(9,(p9 qE.1 .shared)),(11,(B mu)),(12,(B mv))] p8) (h:Kz b eJ qA qE mu mv=some v) :
  dG Tryz.prog N8 8 0 none RP p8 [qI b] Q:=by
 obtain ⟨qJ,rfl⟩:=qf.ex;unfold Kz at h;unfold RP;obtain ⟨HD,qS⟩:∃ c,RO=c:=⟨_,rfl⟩;rw [qS];conv=>whnf
 cases mv
 ·conv=>whnf
  replace h:=r0 rfl h;subst qS;refine ab_ ?_ (by exact ⟨rfl,rfl⟩) h;exact fun T H bK=>jG T H bK
 ·conv=>whnf
  replace h:=rZ rfl h;obtain ⟨HR,Hn,h⟩:=qj h;refine ⟨qt.pl,_,abt Hn,?_⟩;conv=>whnf
  refine bs h (fun rX h=>?_) fun rX h=>?_
  ·rw [rX];(conv=>whnf);exact qc h jG rfl rfl
  ·rw [rX];(conv=>whnf);obtain ⟨Jl,Hd,h⟩:=qj h;refine ⟨qt.pl,_,alX Hd,?_⟩;(conv=>whnf);refine bs h (fun sf h=>?_) fun sf h=>?_
   ·rw [sf];(conv=>whnf);exact qc h jG rfl rfl
   ·rw [sf];(conv=>whnf);subst qS;refine ab_ ?_ (by exact ⟨rfl,rfl⟩) h;exact fun T H bK=>jG T H bK
theorem Rg {b:qk} {eJ:(ql×Int)} {qA:(p'×Int)} {qE:(p'×Int)} {dx:Bool} {dq:Bool} {v:Bool} {Q:q8}  {p8:List I}  (jG:qK [.tmp 2] Q (fun v=>(B v)) v) (qf:qO 187 [(1,(.ptr 0 0)),(5,(qG eJ.1 .shared)),(7,(p9 qA.1 .shared)),(8,(hY qA.2)),(9,(p9 qE.1 .shared)),(10,(hY qE.2)),(11,(B dx)),(12,(B dq))] p8) (h:LI b eJ qA qE dx dq=some v) :
  dG Tryz.prog N8 8 0 none RQ p8 [qI b] Q:=by
 obtain ⟨qJ,rfl⟩:=qf.ex;unfold LI at h;unfold RQ;obtain ⟨Lc,sk⟩:∃ c,RP=c:=⟨_,rfl⟩;rw [sk];conv=>whnf
 refine bs h (fun G_ h=>?_) fun G_ h=>?_
 ·rw [G_];conv=>whnf
  refine bs h (fun rT h=>?_) fun rT h=>?_
  ·rw [rT];(conv=>whnf);cases dx
   ·(conv=>whnf);replace h:=r0 rfl h;refine bs h (fun Te h=>?_) fun Te h=>?_
    ·rw [Te];(conv=>whnf);exact qc h jG rfl rfl
    ·rw [Te];(conv=>whnf);cases dq
     ·(conv=>whnf);replace h:=r0 rfl h;refine bs h (fun Tf h=>?_) fun Tf h=>?_
      ·rw [Tf];(conv=>whnf);exact qc h jG rfl rfl
      ·rw [Tf];(conv=>whnf);subst sk;refine Rh ?_ (by exact ⟨rfl,rfl⟩) h;exact fun T H bK=>jG T H bK
     ·(conv=>whnf);replace h:=rZ rfl h;subst sk;refine Rh ?_ (by exact ⟨rfl,rfl⟩) h;exact fun T H bK=>jG T H bK
   ·(conv=>whnf);replace h:=rZ rfl h;cases dq
    ·(conv=>whnf);replace h:=r0 rfl h;refine bs h (fun Td h=>?_) fun Td h=>?_
     ·rw [Td];(conv=>whnf);exact qc h jG rfl rfl
     ·rw [Td];(conv=>whnf);subst sk;refine Rh ?_ (by exact ⟨rfl,rfl⟩) h;exact fun T H bK=>jG T H bK
    ·(conv=>whnf);replace h:=rZ rfl h;subst sk;refine Rh ?_ (by exact ⟨rfl,rfl⟩) h;exact fun T H bK=>jG T H bK
  ·rw [rT];(conv=>whnf);exact qc h jG rfl rfl
 ·rw [G_];conv=>whnf
  exact qc h jG rfl rfl
theorem amU {b:qk} {v:Bool} (h:Ra b=some v):qD 8 [(.agg [(hY b.1),(.ay (b.2.flatMap p4) b.2.length .shared)])] (B v):=by
 refine qZ dM ahX rfl rfl fun Q bo=>?_;have jG:qK [.tmp 2] Q (fun v=>(B v)) v:=fun T H bK=>bo _ T H bK;unfold Ra at h;unfold ac4;obtain ⟨Ss,IT⟩:∃ c,RQ=c:=⟨_,rfl⟩;rw [IT];conv=>whnf
 obtain ⟨r1,e0,h⟩:=qj h;refine ⟨qt.pl,_,VK e0,?_⟩;conv=>whnf
 cases r1
 ·conv=>whnf
  replace h:=r0 rfl h;obtain ⟨Zg,afR,h⟩:=qj h;refine ⟨rfl,_,JX afR,?_⟩;conv=>whnf
  exact qc h jG rfl rfl
 ·conv=>whnf
  replace h:=rZ rfl h;obtain ⟨r2,fs,h⟩:=qj h;refine ⟨qt.pl,_,abG fs,?_⟩;conv=>whnf
  obtain ⟨eJ,qp,h⟩:=qj h;refine ⟨qt.pl,_,Pk qp,?_⟩;conv=>whnf
  obtain ⟨qA,qC,h⟩:=qj h;refine ⟨qt.pl,_,abC qC,?_⟩;conv=>whnf
  obtain ⟨qE,qH,h⟩:=qj h;refine ⟨qt.pl,_,ama qH,?_⟩;conv=>whnf
  refine bs h (fun qW h=>?_) fun qW h=>?_
  ·rw [qW];(conv=>whnf);refine bs h (fun qU h=>?_) fun qU h=>?_
   ·rw [qU];(conv=>whnf);exact qc h jG rfl rfl
   ·rw [qU];(conv=>whnf);refine bs h (fun qX h=>?_) fun qX h=>?_
    ·rw [qX];(conv=>whnf);exact qc h jG rfl rfl
    ·rw [qX];(conv=>whnf);refine bs h (fun ra h=>?_) fun ra h=>?_
     ·rw [ra];(conv=>whnf);exact qc h jG rfl rfl
     ·rw [ra];(conv=>whnf);refine bs h (fun qL h=>?_) fun qL h=>?_
      ·rw [qL];(conv=>whnf);refine bs h (fun q9 h=>?_) fun q9 h=>?_
       ·rw [q9];(conv=>whnf);refine bs h (fun rn h=>?_) fun rn h=>?_
        ·rw [rn];(conv=>whnf);refine bs h (fun rb h=>?_) fun rb h=>?_
         ·rw [rb];(conv=>whnf);obtain ⟨sb,rY,h⟩:=qj h;refine ⟨rfl,_,JX rY,?_⟩;(conv=>whnf);exact qc h jG rfl rfl
         ·rw [rb];(conv=>whnf);exact qc h jG rfl rfl
        ·rw [rn];(conv=>whnf);exact qc h jG rfl rfl
       ·rw [q9];(conv=>whnf);exact qc h jG rfl rfl
      ·rw [qL];(conv=>whnf);refine bs h (fun GY h=>?_) fun GY h=>?_
       ·rw [GY];(conv=>whnf);refine bs h (fun sa h=>?_) fun sa h=>?_
        ·rw [sa];(conv=>whnf);subst IT;refine Rg ?_ (by exact ⟨rfl,rfl⟩) h;exact fun T H bK=>jG T H bK
        ·rw [sa];(conv=>whnf);subst IT;refine Rg ?_ (by exact ⟨rfl,rfl⟩) h;exact fun T H bK=>jG T H bK
       ·rw [GY];(conv=>whnf);refine bs h (fun Tg h=>?_) fun Tg h=>?_
        ·rw [Tg];(conv=>whnf);subst IT;refine Rg ?_ (by exact ⟨rfl,rfl⟩) h;exact fun T H bK=>jG T H bK
        ·rw [Tg];(conv=>whnf);subst IT;refine Rg ?_ (by exact ⟨rfl,rfl⟩) h;exact fun T H bK=>jG T H bK
  ·rw [qW];(conv=>whnf);exact qc h jG rfl rfl
end Go.Proofs.YtfakoboiahbhaaaGreat.Ab


namespace Go.Proofs.YtfakoboiahbhaaaGreat.Ab
open Go
section
variable {b:qb}
theorem ah_ (r:List Int):1≤HQ b r:=by unfold HQ;omega
theorem aiA:(parts b).length≤G9 b:=by
 unfold G9;generalize parts b=P
 induction P with
 | nil=>simp
 | cons r P bb =>
   have:=ah_ (b:=b) r;rw [sy,tn,sP];omega
theorem aiC (p7:qM b) (aS:0<b.2.length):parts b≠[]:=fun e=>by
 have:=(Qn p7).length_eq;rw [e,se] at this;simp at this;omega
theorem XA (p7:qM b) (aS:0<b.2.length):G9 b≤1↔(parts b).length=1∧(q6 b).length≤2:=by
 have hle:=aiA (b:=b);have bO:=tT.2 (aiC p7 aS);have l1:=Ma p7 (S:=upto b.2.length) I7;have key:(parts b).length=1→G9 b=max 1 ((q6 b).length / 2):=fun ad=>by
  obtain ⟨r,aj⟩:=List.length_eq_one_iff.1 ad;have aC:=Qn p7;rw [aj] at aC
  have:r.Perm (upto b.2.length):=by simpa using aC
  unfold G9 q6;rw [aj,←aie this];simp [HQ]
 constructor
 ·intro h;have ad:(parts b).length=1:=by omega
  have:=key ad;refine ⟨ad,?_⟩
  have:(q6 b).length=(q3 b (upto b.2.length)).length:=rfl
  omega
 ·rintro ⟨ad,af⟩;rw [key ad];omega
theorem YV (p7:qM b) (aS:0<b.2.length):G' b=if (parts b).length=1∧(q6 b).length≤2 then 0 else 27:=by
 unfold G';rw [if_neg (by simp [Hi.2 p7]),if_neg (by omega)];by_cases h:1<G9 b
 ·rw [if_pos h,if_neg fun bK=>by have:=(XA p7 aS).2 bK;omega]
 ·rw [if_neg h,if_pos ((XA p7 aS).1 (by omega))]
theorem ajK (p7:qM b) (aS:0<b.2.length):Jm b=if (parts b).length=1∧(q6 b).length=0 then 0 else 27:=by
 unfold Jm;rw [YV p7 aS];by_cases h:(parts b).length=1∧(q6 b).length≤2
 ·rw [if_pos h,if_pos rfl];by_cases af:0<(q6 b).length
  ·rw [if_pos af,if_neg fun bK=>by omega]
  ·rw [if_neg af,if_pos ⟨h.1,by omega⟩]
 ·rw [if_neg h,if_neg (by decide),if_neg fun bK=>h ⟨bK.1,by omega⟩]
theorem aih (h:b.2.length=0):q6 b=[]:=by
 unfold q6;rw [h];rfl
theorem ail:(Ij b).1.length≤b.2.length:=by
 unfold Ij;split
 ·simp
 ·rename_i h;exact Nat.le_of_eq (Mc (uY.1 h))
theorem ajJ:(JU b).1.length≤b.2.length:=by
 unfold JU;split
 ·rename_i h;exact Nat.le_of_eq (Mc (Zx h).1)
 ·simp
theorem YU:(Ij b).2=G' b:=by
 unfold Ij;split
 ·rfl
 ·rename_i h;exact (uY.1 h).symm
theorem amv (r:List Row):Q5 r=some r:=rfl
theorem ab8 (p7:qM b) (aS:0<b.2.length) {Kl:Bool} (ad:G' b=0) (aw:Kl=decide ((q6 b).length=0)) (af:(q6 b).length≤2):KA b (q6 b,0) (Ij b) true Kl=some true:=by
 have dD:=p7.len;obtain ⟨f,c,bZ,bO,ao,aj⟩:=YY ad;have ak:=Mc ad;have lU:RowsOf b (upto b.2.length) [He b]:=⟨fun r aj p aC=>by rw [sQ.1 aj] at aC;exact bZ.ok p aC,fun r aj=>by rw [sQ.1 aj];exact ⟨f,c,bZ.go⟩,by simpa using bZ.all⟩;have iP:=Sw p7 lU (fun r aj=>by rw [sQ.1 aj];exact bO);have Ih:=bZ.odd p7 bO;have l1:=Ma p7 (S:=upto b.2.length) I7;have agy:=Qj (b:=b) (upto b.2.length);rw [KA,if_pos rfl,YT ad];dsimp only;rw [VG b (He b) (by omega) (by omega),sq,amv,sq,abx (by omega) (by simp) (fun r aj=>by rw [sQ.1 aj];omega),sq,ao,iP];dsimp only;rw [if_neg (by simp),if_neg (by simp)];by_cases he:(q6 b).length=0
 ·have Tp:f=c:=Classical.byContradiction fun h=>by
   have:=(Ih.2 h).length_eq;have aY:(q3 b (upto b.2.length)).length=0:=he;rw [aY] at this;simp at this
  rw [if_pos (by rw [aw];exact decide_eq_true he),if_pos (decide_eq_true Tp)];simp only [JY,sq]
 ·have Tp:f≠c:=fun h=>he (by
   show (q3 b (upto b.2.length)).length=0
   rw [Ih.1 h];rfl)
  have aC:=Ih.2 Tp;have fg:(q6 b).length=2:=aC.length_eq;have Gh:q6 b=[min f c,max f c]:=by
   have C0:([min f c,max f c]:List Int).Pairwise (·<·):=by
    simp only [tD,sQ,uc,false_imp_iff,implies_true,and_true,List.Pairwise.nil];intro a cg;omega
   refine Vd agy C0 fun x=>?_;show x∈q3 b (upto b.2.length)↔_;rw [aC.mem_iff];simp only [sH,uc,or_false];omega
  rw [if_neg (by rw [aw];simpa using he),qx ⟨by omega,by omega⟩,Gh,if_pos (decide_eq_true (show min f c=ix [min f c,max f c] 0 from rfl)),qx ⟨by omega,by simp⟩,if_pos (decide_eq_true (show max f c=ix [min f c,max f c] 1 from rfl))];simp only [JY,sq]
theorem ab9 {Kl:Bool}:KA b (q6 b,0) (Ij b) false Kl=some true:=by
 rw [KA,if_neg (by decide)];simp only [JY,sq]
theorem amT (b:qb):Ra b=some true:=by
 rw [Ra,VJ,sq];by_cases aQ:(decide (b.2.length≤14) && decide (ri b=0))=true
 case neg=>rw [if_neg aQ];simp only [JY,sq]
 rw [if_pos aQ];simp only [sM,decide_eq_true_eq] at aQ;have p7:=Hi.1 aQ.2;have dD:=p7.len;have jR:=ail (b:=b);have dv:=ajJ (b:=b);rw [abD p7,sq,Pj (by omega),sq,abB (by omega),sq,al_ (by omega),sq,Nf p7];dsimp only;rw [if_pos rfl,if_neg (by simp),if_neg (by rw [decide_eq_true_eq];omega),if_neg (by rw [decide_eq_true_eq];omega),YU,Zw];by_cases aS:b.2.length=0
 ·have e1:G' b=5:=by unfold G';rw [if_neg (by simp [Hi.2 p7]),if_pos aS]
  have cm:Jm b=5:=by unfold Jm;rw [e1];rfl
  rw [if_pos (by simp [aS]),e1,if_pos (by decide),cm,if_pos (by decide),aih aS,if_pos (by decide)];simp only [JY,sq]
 have Lh:0<b.2.length:=by omega
 have Xt:=YV p7 Lh;have Xu:=ajK p7 Lh;have anu:∀ {p:Prop},p→p:=id;rw [if_neg (by simpa using aS)];have dx:∀ (x y:Bool),(x=true↔(parts b).length=1∧(q6 b).length≤2)→(y=true↔(parts b).length=1∧(q6 b).length=0)→LI b (q6 b,0) (Ij b) (JU b) x y=some true:=fun x y al a2=>by
  have ia:G' b=0↔x=true:=by rw [Xt,al];split <;> simp_all
  have agA:Jm b=0↔y=true:=by rw [Xu,a2];split <;> simp_all
  have h_:¬ x=true→G' b=27:=fun h=>by rw [Xt,if_neg fun bK=>h (al.2 bK)]
  have C7:¬ y=true→Jm b=27:=fun h=>by rw [Xu,if_neg fun bK=>h (a2.2 bK)]
  rw [LI,YU,Zw];have d1:decide (G' b=0)=x:=by cases x <;> simp_all
  have d2:decide (Jm b=0)=y:=by cases y <;> simp_all
  rw [d1,d2,if_pos (by simp),if_pos (by simp)];have Yd:∀ {mu:Bool},y=true→Kz b (q6 b,0) (Ij b) (JU b) mu true=KA b (q6 b,0) (Ij b) mu true:=fun {mu} h=>by
   have Yc:=agA.2 h;have eu:=Zx Yc;have fu:=(YX eu.1).1.2 eu.2;have ib:=Mc eu.1;(have e:JU b=(He b,0):=by unfold JU;rw [if_pos Yc]);rw [Kz,if_pos rfl,e];dsimp only;rw [abr b _ (by omega) (by omega),sq,fu,if_neg (by simp),alW b _ (by omega) (by omega),sq,fu,if_neg (by simp)]
  have ga:∀ {mu:Bool},Kz b (q6 b,0) (Ij b) (JU b) mu false=KA b (q6 b,0) (Ij b) mu false:=fun {mu}=>by
   rw [Kz,if_neg (by decide)]
  cases x with
  | true =>
    rw [if_pos rfl];have af:=(al.1 rfl).2;cases y with
    | true=>rw [if_pos rfl,Yd rfl];exact ab8 p7 Lh (ia.2 rfl) (decide_eq_true (a2.1 rfl).2).symm af
    | false=>rw [if_neg (by decide),C7 (by decide),if_neg (by decide),ga];exact ab8 p7 Lh (ia.2 rfl) (decide_eq_false fun h=>absurd (a2.2 ⟨(al.1 rfl).1,h⟩) (by decide)).symm af
  | false =>
    rw [if_neg (by decide),h_ (by decide),if_neg (by decide)];cases y with
    | true=>rw [if_pos rfl,Yd rfl];exact ab9
    | false=>rw [if_neg (by decide),C7 (by decide),if_neg (by decide),ga];exact ab9
 by_cases ad:(parts b).length=1
 ·rw [if_pos (decide_eq_true (by omega)),if_pos (decide_eq_true (by omega))];exact dx _ _ (by simp [ad];omega) (by simp [ad])
 ·rw [if_neg (by rw [decide_eq_true_eq];omega),if_neg (by rw [decide_eq_true_eq];omega)];exact dx _ _ (by simp [ad]) (by simp [ad])
theorem anN {b:qb}:qD 8 [.agg [hY b.1,.ay (b.2.flatMap p4) b.2.length .shared]] (B true):=amU (amT b)
end
end Go.Proofs.YtfakoboiahbhaaaGreat.Ab


namespace Go.Proofs.YtfakoboiahbhaaaGreat.Ab
open Go
set_option maxRecDepth 20000
set_option maxHeartbeats 4000000
noncomputable def Ro:eE :=
 .loop (some (ED false [3,1,3,1,5,1,1,1,1,1,119])) (.seq (GD [Gs 112 17,gV 113 [.sl 3] (.oY 0),Gq 114 113,F5 115 112 114 .lss] (.cond (.sl 115) .skip (.exit 0))) (.seq (.block 1 (GD [Gs 118 17,gV 119 [.sl 7] (.oY 0),Gq 120 119,F5 121 118 120 .eql,Gs 122 17,gV 123 [.sl 7] (.oY 1),Gq 124 123,F5 125 122 124 .eql,gV 126 [.hS 121,.hS 125] (.oK true),Gt 18 126] (GD [Gs 127 13,Gs 128 17,gV 129 [.iK (.func 53 [] []),.sl 127,.sl 128] (.call 3),Gs 130 15,Gs 131 17,gV 132 [.iK (.func 53 [] []),.sl 130,.sl 131] (.call 3),gV 133 [.hS 129,.hS 132] (.oK true),Gt 134 18,gV 135 [.hS 133,.hS 134] (.oK true)] (.cond (.sl 135) (GD [gV 6 [.iK (.bool false)] .i_] .ret) .skip)))) (Gw [Gt 116 17,F3 117 116 1,Gt 17 117])))
noncomputable def acg:eE :=
 GD [gV 3 [.hP 0] .box,gV 6 [.iK (.bool false)] .i_] (.seq (GD [gV 19 [.sl 3] (.p2 (.str 2)),gV 20 [.iK (.func 47 [] []),.sl 19] (.call 3),gV 21 [.hS 20] (.un .not),Gt 22 21,cS 23 [.sl 3] 22 false (.oY 1),cS 24 [.hS 23] 22 false (.p2 .one),cS 25 [.hP 24] 22 false .xe,cS 26 [.hS 25,.iK (.int .i64 10)] 22 false (.bin .geq),gV 27 [.hS 22,.iK (.bool true),.hS 26] .pick] (.cond (.sl 27) (GD [gV 28 [.iK (.func 17 [] [])] (.call 3),Gt 6 28] .ret) .skip)) (.seq (Gx [Gt 29 1,gV 30 [.hS 29] (.conv .i64),gV 31 [.sl 3] (.oY 0),Gq 32 31,F5 33 30 32 .rem,Gt 34 2,gV 35 [.hS 34] (.conv .i64),gV 36 [.sl 3] (.oY 0),Gq 37 36,F5 38 35 37 .rem,gV 39 [.hS 33,.hS 38] (.build [.int .i64 0,.int .i64 0] [(0,1),(1,1)]),gV 7 [] (.alloc [.int .i64 0,.int .i64 0]),⟨none,[.sl 7,.hP 39],none,none,.st 2⟩]) (.seq (Gx [gV 40 [.sl 3] (.oY 0),Gq 41 40,gV 42 [] (.yg 0 2 [.int .i64 0,.int .i64 0] []),gV 43 [.sl 3] (.oY 1),Gq 44 43,gV 45 [.hP 42,.hP 44] (.app 2 16),gV 46 [.sl 7] (.p2 (.str 2)),gV 47 [.hS 46] (.yg 1 2 [.int .i64 0,.int .i64 0] [0]),gV 48 [.hP 45,.hP 47] (.app 2 16),gV 49 [.hS 41,.hS 48] (.build [.int .i64 0,.ay [] 0 .full] [(0,1),(1,1)]),gV 8 [] (.alloc [.int .i64 0,.ay [] 0 .full]),⟨none,[.sl 8,.hP 49],none,none,.st 2⟩]) (GD [gV 51 [.sl 3] (.p2 (.str 2)),gV 52 [.iK (.func 48 [] []),.sl 51] (.call 3),Gt 50 52,GL 53 50 0,gV 54 [.hS 50] (.ext 1),Gt 9 53,Gt 10 54] (GD [gV 56 [.sl 8] (.p2 (.str 2)),gV 57 [.iK (.func 48 [] []),.sl 56] (.call 3),Gt 55 57,GL 58 55 0,gV 59 [.hS 55] (.ext 1),Gt 11 58,Gt 12 59] (GD [gV 61 [.sl 3] (.p2 (.str 2)),gV 62 [.iK (.func 27 [] []),.sl 61] (.call 3),Gt 60 62,GL 63 60 0,gV 64 [.hS 60] (.ext 1),Gt 13 63,Gt 14 64] (GD [gV 66 [.hS 8] (.p2 (.str 2)),gV 67 [.iK (.func 27 [] []),.sl 66] (.call 3),Gt 65 67,GL 68 65 0,gV 69 [.hS 65] (.ext 1),Gt 15 68,Gt 16 69] (.seq (GD [Gt 70 10,gV 71 [.hS 70] (.un .not),Gt 72 71,cS 73 [.hP 12] 72 false .i_,cS 74 [.hS 73] 72 false (.un .not),gV 75 [.hS 72,.iK (.bool true),.hS 74] .pick,Gt 76 75,cS 77 [.sl 11] 76 false .i_,cS 78 [.sl 9] 76 false .i_,cS 79 [.hS 78,.iK (.int .i64 1)] 76 false (.bin .add),cS 80 [.hS 77,.hS 79] 76 false (.bin .gtr),gV 81 [.hS 76,.iK (.bool true),.hS 80] .pick,Gt 82 81,cS 83 [.hP 9] 82 false .i_,cS 84 [.hP 11] 82 false .i_,cS 85 [.hS 84,.iK (.int .i64 1)] 82 false (.bin .add),cS 86 [.hS 83,.hS 85] 82 false (.bin .gtr),gV 87 [.hS 82,.iK (.bool true),.hS 86] .pick,Gt 88 87,cS 89 [.hP 14] 88 false .i_,cS 90 [.hS 89,.iK (.int .i64 0)] 88 false (.bin .neq),gV 91 [.hS 88,.iK (.bool true),.hS 90] .pick,Gt 92 91,cS 93 [.hP 16] 92 false .i_,cS 94 [.hS 93,.iK (.int .i64 0)] 92 false (.bin .neq),gV 95 [.hS 92,.iK (.bool true),.hS 94] .pick,Gt 96 95,cS 97 [.sl 15] 96 false .i_,cS 98 [.hP 97] 96 false .xe,cS 99 [.sl 13] 96 false .i_,cS 100 [.hP 99] 96 false .xe,cS 101 [.hS 100,.iK (.int .i64 2)] 96 false (.bin .add),cS 102 [.hS 98,.hS 101] 96 false (.bin .gtr),gV 103 [.hS 96,.iK (.bool true),.hS 102] .pick,Gt 104 103,cS 105 [.sl 13] 104 false .i_,cS 106 [.hP 105] 104 false .xe,cS 107 [.sl 15] 104 false .i_,cS 108 [.hP 107] 104 false .xe,cS 109 [.hS 108,.iK (.int .i64 2)] 104 false (.bin .add),cS 110 [.hS 106,.hS 109] 104 false (.bin .gtr),gV 111 [.hS 104,.iK (.bool true),.hS 110] .pick] (.cond (.sl 111) (GD [gV 6 [.iK (.bool false)] .i_] .ret) .skip)) (.seq (GD [Gr 17 0] (.block 0 Ro)) (GD [gV 136 [.iK (.func 17 [] [])] (.call 3),Gt 6 136] .ret))))))))))
theorem ahb:zm Tryz.prog R6 10=some (acg,137,[.tmp 6]):=by kernel_rfl
def Mh (b:qk) (left right:Int) (qE:(ql×Int)) (sb:(ql×Int)) (qi:Unit→Option Bool):Nat→Int→Option Bool
 | 0,_=>none
 | m+1,s1 =>
   if (decide (s1<b.1))=true then
    (NT qE.1 s1).bind fun HR =>
    (NT sb.1 s1).bind fun Jl =>
    if ((!(HR == Jl)) == (!((decide (s1=((w left).tmod b.1))) == (decide (s1=((w right).tmod b.1))))))=true then
     Mh b left right qE sb qi m (w (s1+(1:Int)))
    else
     some false
   else
    qi ()
def QY (b:qk) (left right:Int):Option Bool :=
 (Mw b).bind fun r1 =>
 if r1=true then
  if (decide ((10:Int)≤(b.2.length:Int)))=true then
   (Il).bind fun r2 =>
   some r2
  else
   qh (b.1≠0) <|
   qh (b.1≠0) <|
   qh ((([]:List (Int×Int)).length+b.2.length)*16≤140737488355328) <|
   qh (((([]:List (Int×Int))++b.2).length+1)*16≤140737488355328) <|
   (K0 b).bind fun eJ =>
   (K0 (b.1,((([]:List (Int×Int))++b.2)++[(((w left).tmod b.1),((w right).tmod b.1))]))).bind fun qA =>
   (JZ b).bind fun qE =>
   (JZ (b.1,((([]:List (Int×Int))++b.2)++[(((w left).tmod b.1),((w right).tmod b.1))]))).bind fun sb =>
   if eJ.2=true then
    if qA.2=true then
     if (decide ((w (eJ.1+(1:Int)))<qA.1))=true then
      some false
     else
      if (decide ((w (qA.1+(1:Int)))<eJ.1))=true then
       some false
      else
       if (decide (qE.2≠(0:Int)))=true then
        some false
       else
        if (decide (sb.2≠(0:Int)))=true then
         some false
        else
         if (decide ((w ((qE.1.length:Int)+(2:Int)))<(sb.1.length:Int)))=true then
          some false
         else
          if (decide ((w ((sb.1.length:Int)+(2:Int)))<(qE.1.length:Int)))=true then
           some false
          else
           Mh b left right qE sb (fun _ =>
             (Il).bind fun Hy =>
             some Hy) qe (0:Int)
    else
     some false
   else
    some false
 else
  (Il).bind fun Hf =>
  some Hf
theorem alC {b:qk} {left:Int} {right:Int} {qE:(ql×Int)} {sb:(ql×Int)} {qi:Unit→Option Bool} {s1:Int} {v:Bool} {Q:q8} {kY:au}  (jG:qK [.tmp 6] Q (fun v=>(B v)) v) (rD:∀ (bD bS:au) (p8:List I),qi ()=some v→qO 137 [] p8→Q (.exit 0) p8 [bD,bS,kY]) {T:List I} (bZ:eX (ED false [3,1,3,1,5,1,1,1,1,1,119]) T=GI 137 [(3,(.ptr 0 0)),(7,(.ptr 1 0)),(13,(qG qE.1 .shared)),(15,(qG sb.1 .shared)),(17,(hY s1))]) (h:Mh b left right qE sb qi qe s1=some v) :
  dG Tryz.prog R6 10 0 none Ro T [qI b,au.cells [(hY ((w left).tmod b.1)),(hY ((w right).tmod b.1))],kY] Q:=by
 unfold Ro;refine wp_loop bZ ?_;refine .intro (fun m T H=>∃ (s1:Int),T=GI 137 [(3,(.ptr 0 0)),(7,(.ptr 1 0)),(13,(qG qE.1 .shared)),(15,(qG sb.1 .shared)),(17,(hY s1))]∧H=[qI b,au.cells [(hY ((w left).tmod b.1)),(hY ((w right).tmod b.1))],kY]∧Mh b left right qE sb qi m s1=some v) qe ⟨s1,rfl,rfl,h⟩ ?_;clear h bZ;rintro m T H ⟨s1,rfl,rfl,h⟩;cases m
 ·exact q_ h
 rename_i m;rw [Mh.eq_2] at h;conv=>whnf
 refine bs h (fun rX h=>?_) fun rX h=>?_
 ·rw [rX];conv=>whnf
  obtain ⟨HR,Hd,h⟩:=qj h;refine ⟨qt.pl,_,abU Hd,?_⟩;conv=>whnf
  obtain ⟨Jl,sf,h⟩:=qj h;refine ⟨qt.pl,_,abU sf,?_⟩;conv=>whnf
  refine bs h (fun HV h=>?_) fun HV h=>?_
  ·rw [HV];(conv=>whnf);exact ⟨m,sv m,(w (s1+(1:Int))),rfl,rfl,h⟩
  ·rw [HV];(conv=>whnf);exact qc h jG rfl rfl
 ·rw [rX];conv=>whnf
  exact rD _ _ _ h ⟨rfl,rfl⟩
theorem alD {b:qk} {left:Int} {right:Int} {v:Bool} (h:QY b left right=some v):qD 10 [(.agg [(hY b.1),(.ay (b.2.flatMap p4) b.2.length .shared)]),(qQ left),(qQ right)] (B v):=by
 refine qZ dM ahb rfl rfl fun Q bo=>?_;have jG:qK [.tmp 6] Q (fun v=>(B v)) v:=fun T H bK=>bo _ T H bK;unfold QY at h;unfold acg;obtain ⟨HD,qS⟩:∃ c,Ro=c:=⟨_,rfl⟩;rw [qS];conv=>whnf
 obtain ⟨r1,e0,h⟩:=qj h;refine ⟨qt.pl,_,VK e0,?_⟩;conv=>whnf
 cases r1
 ·conv=>whnf
  replace h:=r0 rfl h;obtain ⟨Hf,Is,h⟩:=qj h;refine ⟨rfl,_,JX Is,?_⟩;conv=>whnf
  exact qc h jG rfl rfl
 ·conv=>whnf
  replace h:=rZ rfl h;refine bs h (fun fs h=>?_) fun fs h=>?_
  ·rw [fs];(conv=>whnf);obtain ⟨r2,qp,h⟩:=qj h;refine ⟨rfl,_,JX qp,?_⟩;(conv=>whnf);exact qc h jG rfl rfl
  ·rw [fs];(conv=>whnf);refine qw h id fun qC h=>?_;(conv=>whnf);refine qw h id fun qH h=>?_;(conv=>whnf);obtain ⟨qW,h⟩:=qF h;refine ⟨by first | rfl | (simp;done) | exact ry p4 _ qy _,by have:=qW;omega,rfl,qW,?_⟩
   erw [Sj p4 ([]:List (Int×Int)) b.2];(conv=>whnf);obtain ⟨qU,h⟩:=qF h;refine ⟨by first | rfl | (simp;done) | exact ry p4 _ qy _,by have:=qU;omega,rfl,qU,?_⟩
   erw [rI p4 (([]:List (Int×Int))++b.2) (((w left).tmod b.1),((w right).tmod b.1))];(conv=>whnf);obtain ⟨eJ,qX,h⟩:=qj h;refine ⟨qt.pl,_,VM qX,?_⟩;(conv=>whnf);obtain ⟨qA,ra,h⟩:=qj h;refine ⟨qt.pl,_,VM ra,?_⟩;(conv=>whnf);obtain ⟨qE,qL,h⟩:=qj h;refine ⟨qt.pl,_,Pk qL,?_⟩;(conv=>whnf);obtain ⟨sb,q9,h⟩:=qj h;refine ⟨qt.pl,_,Pk q9,?_⟩;(conv=>whnf);refine bs h (fun rn h=>?_) fun rn h=>?_
   ·rw [rn];(conv=>whnf);refine bs h (fun rb h=>?_) fun rb h=>?_
    ·rw [rb];(conv=>whnf);refine bs h (fun rY h=>?_) fun rY h=>?_
     ·rw [rY];(conv=>whnf);exact qc h jG rfl rfl
     ·rw [rY];(conv=>whnf);refine bs h (fun GY h=>?_) fun GY h=>?_
      ·rw [GY];(conv=>whnf);exact qc h jG rfl rfl
      ·rw [GY];(conv=>whnf);refine bs h (fun sa h=>?_) fun sa h=>?_
       ·rw [sa];(conv=>whnf);exact qc h jG rfl rfl
       ·rw [sa];(conv=>whnf);refine bs h (fun G_ h=>?_) fun G_ h=>?_
        ·rw [G_];(conv=>whnf);exact qc h jG rfl rfl
        ·rw [G_];(conv=>whnf);refine bs h (fun rT h=>?_) fun rT h=>?_
         ·rw [rT];(conv=>whnf);exact qc h jG rfl rfl
         ·rw [rT];(conv=>whnf);refine bs h (fun Hn h=>?_) fun Hn h=>?_
          ·rw [Hn];(conv=>whnf);exact qc h jG rfl rfl
          ·rw [Hn];(conv=>whnf);subst qS;refine alC ?_ ?_ (by exact rfl) h
           ·exact fun T H bK=>jG T H bK
           ·intro bD bS p8 h qf;obtain ⟨qJ,rfl⟩:=qf.ex;(conv=>whnf);obtain ⟨Hy,HW,h⟩:=qj h;refine ⟨rfl,_,JX HW,?_⟩;(conv=>whnf);exact qc h jG rfl rfl
    ·rw [rb];(conv=>whnf);exact qc h jG rfl rfl
   ·rw [rn];(conv=>whnf);exact qc h jG rfl rfl
end Go.Proofs.YtfakoboiahbhaaaGreat.Ab


namespace Go.Proofs.YtfakoboiahbhaaaGreat.Ab
open Go
section
def Jw (b c:qb) (n:Nat):Prop:=∀ i:Nat,i<n→ix b.2 (i:Int)=ix c.2 (i:Int)
variable {b c:qb} {n:Nat}
theorem Jw.at (h:Jw b c n) {x:Int} (al:0≤x∧x<(n:Int)):ix b.2 x=ix c.2 x:=by
 obtain ⟨i,rfl⟩:∃ i:Nat,x=i:=⟨x.toNat,by omega⟩;exact h i (by omega)
theorem Jw.ends (h:Jw b c n) {p:Int×Int} (aC:0≤p.1∧p.1<(n:Int)):qP b p=qP c p∧fin b p=fin c p:=by
 unfold qP fin;rw [h.at aC];exact ⟨rfl,rfl⟩
theorem Jw.run (h:Jw b c n):∀ (l:Row) (a:Int),(∀ p∈l,0≤p.1∧p.1<(n:Int))→qV b a l=qV c a l
 | [],_,_=>rfl
 | p::l,a,ak=>by
   obtain ⟨e1,cm⟩:=h.ends (ak p (by simp));have bb:=fun a=>h.run l a fun q a5=>ak q (by simp [a5]);unfold qV;rw [e1,cm,bb]
theorem Jw.ae4 (h:Jw b c n) {S:List Int} (cp:∀ x∈S,0≤x∧x<(n:Int)) (f:Int):qN b S f=qN c S f:=by
 unfold qN;refine congrArg List.sum (tY fun x al=>?_);rw [h.at (cp x al)]
theorem Vv {n:Nat}:∀ x∈upto n,0≤x∧x<(n:Int):=fun _ al=>Hq.1 al
theorem Jw.rows (h:Jw b c n) {S:List Int} {R:List Row} (aN:n≤c.2.length) (ag:∀ r∈R,∀ p∈r,0≤p.1∧p.1<(n:Int)) (jG:RowsOf b S R):RowsOf c S R :=
 ⟨fun r aj p aC=>⟨(jG.ok r aj p aC).1,by have:=(ag r aj p aC).2;omega,(jG.ok r aj p aC).2.2⟩,fun r aj=>by
  obtain ⟨a,e,aO⟩:=jG.go r aj
  exact ⟨a,e,by rw [←h.run r a (ag r aj)];exact aO⟩,jG.all⟩
theorem RowsOf.G2 {S:List Int} {R:List Row} (h:RowsOf b S R) {r:Row} (aj:r∈R) {p:Int×Int} (aC:p∈r):p.1∈S :=
 h.all.mem_iff.1 (List.mem_map_of_mem (tZ.2 ⟨r,aj,aC⟩))
theorem RowsOf.drop {S:List Int} {R:List Row} {s:Int} (h:RowsOf b (s::S) R):∃ JH,RowsOf b S JH∧JH.length≤R.length+1:=by
 have ai:s∈(R.flatten).map (·.1):=h.all.mem_iff.2 (by simp);obtain ⟨p,aC,rfl⟩:=sJ.1 ai;obtain ⟨r,aj,aC⟩:=tZ.1 aC;obtain ⟨adh,ly,e1⟩:=vm aj;obtain ⟨dO,kS,cm⟩:=vm aC;subst cm e1;obtain ⟨a,e,aO⟩:=h.go _ aj;rw [JE] at aO;cases ad:qV b a dO with
 | none=>rw [ad] at aO;cases aO
 | some x =>
   rw [ad,sq] at aO;obtain ⟨_,af⟩:=I0.1 aO;refine ⟨adh++[dO,kS]++ly,⟨fun q a5 t ax=>?_,fun q a5=>?_,?_⟩,by simp;omega⟩
   ·simp only [te,sH,uc,or_false] at a5;rcases a5 with (a5 | rfl | rfl) | a5
    ·exact h.ok q (by simp [a5]) t ax
    ·exact h.ok _ aj t (by simp [ax])
    ·exact h.ok _ aj t (by simp [ax])
    ·exact h.ok q (by simp [a5]) t ax
   ·simp only [te,sH,uc,or_false] at a5;rcases a5 with (a5 | rfl | rfl) | a5
    ·exact h.go q (by simp [a5])
    ·exact ⟨_,_,ad⟩
    ·exact ⟨_,_,af⟩
    ·exact h.go q (by simp [a5])
   ·have db:=h.all;refine (List.perm_cons p.1).1 (List.Perm.trans ?_ db);simp only [vl,tG,List.flatten_nil,ti,sy,sU,sD];refine wJ.symm.trans ?_;refine List.Perm.append_left _ ?_;exact wJ.symm
def rW (b:qb) (s:Int×Int):qb:=(b.1,b.2++[s])
theorem R5 {s:Int×Int}:Jw b (rW b s) b.2.length:=fun i hi=>by
 rw [rm hi,rm (show i<(rW b s).2.length by unfold rW;simp;omega)];unfold rW;simp [hi]
theorem adn {s:Int×Int}:ix (rW b s).2 (b.2.length:Int)=s:=by
 rw [rm (show b.2.length<(rW b s).2.length by unfold rW;simp)];unfold rW;simp
theorem adl {s:Int×Int} (p7:qM b) (ak:b.2.length<10) (ad:0≤s.1∧s.1<b.1) (af:0≤s.2∧s.2<b.1):qM (rW b s):=by
 refine Hi.1 ?_;have ag:=Hi.2 p7;unfold ri rW at *;have M8:=p7.f1;have anC:=p7.f6;rw [if_neg (by simp;omega)];have ga:¬ (b.2.any (I5 b.1)=true):=fun h=>by
  rw [if_neg (by omega),if_pos h] at ag;cases ag
 rw [if_neg];simp only [List.any_append,List.any_cons,List.any_nil,Bool.or_false,tX];rintro (h | h)
 ·exact ga h
 ·unfold I5 at h;simp only [tX,Ng] at h;omega
theorem afg {s:Int×Int} (p7:qM b) (KL:qM (rW b s)):G9 (rW b s)≤G9 b+1∧G9 b≤G9 (rW b s)+1:=by
 have hlen:(rW b s).2.length=b.2.length+1:=by unfold rW;simp
 constructor
 ·obtain ⟨_,rk⟩:=Nx p7;have jG:=R5 (b:=b) (s:=s) |>.rows (by omega) (fun r aj p aC=>Vv _ (rk.toRowsOf.G2 aj aC)) rk.toRowsOf
  have eu:RowsOf (rW b s) [(b.2.length:Int)] [[((b.2.length:Int),0)]]:=⟨fun r aj p aC=>by
   rw [sQ.1 aj] at aC;rw [sQ.1 aC];exact ⟨Int.natCast_nonneg _,show (b.2.length:Int)<((rW b s).2.length:Int) by omega,by simp,by simp⟩,fun r aj=>by
   rw [sQ.1 aj];exact ⟨_,_,Ks.2 ⟨rfl,rfl⟩⟩,by simp⟩
  have:=jG.app eu;rw [←KZ,←hlen] at this;have:=SF KL this;rw [sA,tx,rk.len] at this;exact this
 ·obtain ⟨_,rk⟩:=Nx KL;have jG:=rk.toRowsOf;rw [hlen,KZ] at jG;have KK:RowsOf (rW b s) ((b.2.length:Int)::upto b.2.length) (KX (rW b s)):=⟨jG.ok,jG.go,jG.all.trans (List.perm_append_singleton _ _)⟩;obtain ⟨JH,ad,af⟩:=KK.drop;have aG:RowsOf b (upto b.2.length) JH:=Jw.rows (b:=rW b s) (c:=b) (n:=b.2.length) (fun i hi=>(R5 i hi).symm) (sx _) (fun r aj p aC=>Vv _ (ad.G2 aj aC)) ad;have:=SF p7 aG;rw [rk.len] at af;omega
theorem SA {s:Int×Int} (f:Int):qN (rW b s) (upto (rW b s).2.length) f=qN b (upto b.2.length) f+H7 s f:=by
 have hlen:(rW b s).2.length=b.2.length+1:=by unfold rW;simp
 rw [hlen,KZ,MX,←(R5 (b:=b) (s:=s)).ae4 Vv,LS,KH,adn];omega
theorem YQ (b:qb):(q6 b).length=((upto 6).map fun f=>if qN b (upto b.2.length) f % 2=1 then 1 else 0).sum:=by
 unfold q6 q3;rw [SI];simp only [decide_eq_true_eq]
theorem sum_add {α:Type} (f g:α→Nat):∀ l:List α,(l.map fun x=>f x+g x).sum=(l.map f).sum+(l.map g).sum
 | []=>rfl
 | x::l=>by simp only [sy,tn,sum_add f g l];omega
theorem ae7 {s:Int×Int} (ad:0≤s.1∧s.1<6) (af:0≤s.2∧s.2<6):((upto 6).map fun f=>H7 s f).sum=2:=by
 have:=ZX (b:=(6,[s])) 6 [0] fun i hi=>by
  rw [sQ.1 hi];exact ⟨ad.1,ad.2,af.1,af.2⟩
 refine Eq.trans (congrArg List.sum (tY fun f _=>?_)) this;rw [LS,KH];rfl
theorem aif {s:Int×Int} (ad:0≤s.1∧s.1<6) (af:0≤s.2∧s.2<6):(q6 (rW b s)).length≤(q6 b).length+2∧(q6 b).length≤(q6 (rW b s)).length+2:=by
 have ai:=ae7 ad af;rw [YQ,YQ];constructor
 ·have e:=NA (fun f=>if qN (rW b s) (upto (rW b s).2.length) f % 2=1 then 1 else 0) (fun f=>(if qN b (upto b.2.length) f % 2=1 then 1 else 0)+H7 s f) (upto 6) fun f _=>by
   rw [SA];split <;> split <;> omega
  rw [sum_add,ai] at e;exact e
 ·have e:=NA (fun f=>if qN b (upto b.2.length) f % 2=1 then 1 else 0) (fun f=>(if qN (rW b s) (upto (rW b s).2.length) f % 2=1 then 1 else 0)+H7 s f) (upto 6) fun f _=>by
   rw [SA];split <;> split <;> omega
  rw [sum_add,ai] at e;exact e
theorem YP {f:Int} (aQ:0≤f∧f<6):(q6 b).any (fun x=>decide (x=f))=decide (qN b (upto b.2.length) f % 2=1):=by
 by_cases h:qN b (upto b.2.length) f % 2=1
 ·rw [decide_eq_true h,List.any_eq_true];exact ⟨f,Lo.2 ⟨aQ,h⟩,by simp⟩
 ·rw [decide_eq_false h,uF];intro x al;simp only [decide_eq_true_eq];rintro rfl;exact h (Lo.1 al).2
theorem abd (p7:qM b) {left right:Int} (ak:0≤left∧left≤255) (aj:0≤right∧right≤255) {k:Unit→Option Bool}:∀ (m i:Nat) (z:Int),z=i→(i:Int)≤b.1→b.1.toNat-i<m →
  Mh b left right (q6 b,0) (q6 (rW b ((w left).tmod b.1,(w right).tmod b.1)),0) k m z=k ()
 | 0,_,_,_,_,h=>absurd h (by omega)
 | m+1,i,_,rfl,hi,hm=>by
   have ad:=p7.f1;have bX:=p7.f6;rw [Mh];by_cases h:(i:Int)<b.1
   ·have cg:=Qk (b:=b);have ag:=Qk (b:=rW b ((w left).tmod b.1,(w right).tmod b.1));rw [if_pos (decide_eq_true h),abS _ _ (show (q6 b).length≤1000 by omega),sq,abS _ _ (show (q6 (rW b _)).length≤1000 by omega),sq,YP ⟨by omega,by omega⟩,YP ⟨by omega,by omega⟩,SA,r4 i (by omega)];rw [if_pos]
    ·exact abd p7 ak aj m (i+1) _ rfl (by omega) (by omega)
    ·unfold H7;generalize qN b (upto b.2.length) (i:Int)=d;generalize (w left).tmod b.1=x;generalize (w right).tmod b.1=y;have key:∀ (a c q:Bool) (e:Nat),(e % 2=1↔q=true)→(a=decide (d % 2=1))→(c=decide ((d+e) % 2=1))→((!(a == c)) == q)=true:=fun a c q e ad af aG=>by
      subst af aG;by_cases a1:d % 2=1 <;> by_cases he:e % 2=1
      ·rw [ad.1 he,decide_eq_true a1,decide_eq_false (by omega)];rfl
      ·have:q=false:=by cases q <;> simp_all
       rw [this,decide_eq_true a1,decide_eq_true (by omega)];rfl
      ·rw [ad.1 he,decide_eq_false a1,decide_eq_true (by omega)];rfl
      ·have:q=false:=by cases q <;> simp_all
       rw [this,decide_eq_false a1,decide_eq_false (by omega)];rfl
     refine key _ _ _ _ ?_ rfl rfl;by_cases al:x=(i:Int)
     ·by_cases a2:y=(i:Int)
      ·simp [al,a2]
      ·have TD:¬ (i:Int)=y:=fun e=>a2 e.symm;simp [al,a2,TD]
     ·have nG:¬ (i:Int)=x:=fun e=>al e.symm;by_cases a2:y=(i:Int)
      ·simp [al,nG,a2]
      ·have TD:¬ (i:Int)=y:=fun e=>a2 e.symm;simp [al,nG,a2,TD]
   ·rw [if_neg (by simpa using h)]
theorem alB (b:qb) {left right:Int} (ak:0≤left∧left≤255) (aj:0≤right∧right≤255):QY b left right=some true:=by
 rw [QY,VJ,sq];by_cases aQ:(decide (b.2.length≤14) && decide (ri b=0))=true
 case neg=>rw [if_neg aQ];simp only [JY,sq]
 rw [if_pos aQ];simp only [sM,decide_eq_true_eq] at aQ;have p7:=Hi.1 aQ.2;have dD:=p7.len;have ad:=p7.f1;have bX:=p7.f6;by_cases h:(10:Int)≤(b.2.length:Int)
 ·rw [if_pos (decide_eq_true h)];simp only [JY,sq]
 have al:=YN (x:=w left) (n:=b.1) (by rw [HF (by omega)];omega) ad;have a2:=YN (x:=w right) (n:=b.1) (by rw [HF (by omega)];omega) ad;have KL:=adl (s:=((w left).tmod b.1,(w right).tmod b.1)) p7 (by omega) al a2;have hlen:(rW b ((w left).tmod b.1,(w right).tmod b.1)).2.length=b.2.length+1:=by unfold rW;simp
 obtain ⟨cd,b_⟩:=afg p7 KL;obtain ⟨bD,bS⟩:=aif (b:=b) (s:=((w left).tmod b.1,(w right).tmod b.1)) (by dsimp only;omega) (by dsimp only;omega);have Cv:=(Nx p7).2.short p7;have pk:G9 b≤10:=by rw [←(Nx p7).2.len];exact Cv.1
 have fM:=Qk (b:=b);rw [if_neg (by simpa using h),qx (by omega),qx (by omega),List.nil_append,qx (by simp;omega),qx (by omega)];show ((K0 b).bind fun eJ=>(K0 (rW b ((w left).tmod b.1,(w right).tmod b.1))).bind fun qA=>(JZ b).bind fun qE=>(JZ (rW b ((w left).tmod b.1,(w right).tmod b.1))).bind fun sb=>_)=_;rw [VL p7,sq,VL KL,sq,Pj (by omega),sq,Pj (by omega),sq,Nf p7,Nf KL];dsimp only;rw [if_pos rfl,if_pos rfl,HF (by omega),if_neg (by rw [decide_eq_true_eq];omega),HF (by omega),if_neg (by rw [decide_eq_true_eq];omega),if_neg (by simp),if_neg (by simp),HF (by omega),if_neg (by rw [decide_eq_true_eq];omega),HF (by omega),if_neg (by rw [decide_eq_true_eq];omega)];rw [abd p7 ak aj qe 0 0 rfl (by omega) (rR (by omega))];simp only [JY,sq]
theorem anO {b:qb} {left right:Int} (ak:0≤left∧left≤255) (aj:0≤right∧right≤255):qD 10 [.agg [hY b.1,.ay (b.2.flatMap p4) b.2.length .shared],qQ left,qQ right] (B true):=alD (alB b ak aj)
end
end Go.Proofs.YtfakoboiahbhaaaGreat.Ab
