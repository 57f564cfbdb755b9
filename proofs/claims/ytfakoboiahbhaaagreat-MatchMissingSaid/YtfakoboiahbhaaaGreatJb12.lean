
import Derived.Test.YtfakoboiahbhaaaGreatJb5
import Derived.Test.YtfakoboiahbhaaaGreatJb9
import Derived.KernelRfl
import Derived.Test.YtfakoboiahbhaaaGreatJb11
import Derived.Test.YtfakoboiahbhaaaGreatJb10
set_option linter.unusedSimpArgs false
set_option linter.unusedVariables false
set_option linter.unusedSectionVars false

open Bool renaming and_eq_true→sO,not_eq_true'→wM
open Decidable renaming not_not→vF
open List renaming any_eq_false→uQ,append_assoc→sH,append_nil→sW,drop_eq_getElem_cons→tn,filter_cons→tx,filter_nil→u_,find?_eq_none→vH,flatMap_append→vn,flatten_append→vJ,flatten_cons→tO,getElem?_append→sy,getElem?_append_left→sQ,getElem?_eq_some_iff→sv,getElem_mem→sU,length_append→sC,length_cons→sV,length_eq_zero_iff→tu,length_filter_le→tW,length_map→td,length_pos_iff→tS,length_singleton→tz,length_take→tf,map_append→tj,map_cons→sG,map_nil→tL,mem_append→ti,mem_cons→sL,mem_filter→tc,mem_flatten→uG,mem_map→sM,mem_range→sX,mem_singleton→ta,nodup_append→u6,pairwise_iff_getElem→tG,range_succ→uZ,replicate_zero→we,set_set→te,take_append_drop→uW,take_length→tU,take_succ_eq_append_getElem→tT,take_zero→tD
open List.Perm renaming append_right→wg
open Nat renaming add_assoc→tZ,le_refl→sB,lt_succ_self→sA,min_eq_left→tI,mod_lt→vg,sub_self→tY,zero_le→sP
open Option renaming bind_some→sx
namespace Go.Proofs.YtfakoboiahbhaaaGreat.Ab
open Go
set_option maxRecDepth 20000
set_option maxHeartbeats 4000000
noncomputable def r4:fW :=
 .cond (.sl 56) (qK [pY 57 9,GC 58 [.Bt 12] (.zy (.str 2)),GC 59 [.Bt 58] (.yv 1 2 [.int .i64 0,.int .i64 0] [0]),GC 60 [.jh 57,.jh 59] (.app 2 16),pY 9 60]) .skip
noncomputable def IF:fW :=
 .seq (sj [p1 34 6,p1 35 10,GC 36 [.lT (.func 69 [] []),.sl 34,.sl 35] (.call 3),GC 37 [.Bt 36] (.un .not),pY 38 37,cS 39 [.sl 8] 38 true .mP,cS 40 [.jh 39] 38 true .zD,cS 41 [.Bt 40,.lT (.int .i64 0)] 38 true (.bin .eql),cS 42 [.jh 41] 38 true .mP,cS 43 [.sl 2] 42 false (.zy (.str 2)),cS 44 [.sl 8] 42 false .mP,cS 45 [.sl 8] 42 false .mP,cS 46 [.jh 45] 42 false .zD,cS 47 [.Bt 46,.lT (.int .i64 1)] 42 false (.bin .sub),cS 48 [.Bt 44,.Bt 47] 42 false (.kR 2),cS 49 [.Bt 48] 42 false (.zy (.str 2)),⟨some 50,[.lT (.func 70 [] []),.sl 43,.sl 49],some (42,false),none,.call 3⟩,cS 51 [.sl 2] 42 false (.zy (.str 2)),cS 52 [.sl 12] 42 false (.zy (.str 2)),⟨some 53,[.lT (.func 57 [] []),.sl 51,.sl 52],some (42,false),none,.call 3⟩,cS 54 [.Bt 50,.Bt 53] 42 false (.bin .eql),cS 55 [.sl 42,.lT (.bool true),.Bt 54] 38 true .pick,GC 56 [.sl 38,.Bt 55,.lT (.bool false)] .pick]) r4
noncomputable def rG:fW :=
 .oj false [pY 29 11,qU 30 29 1,pY 11 30]
noncomputable def I7:fW :=
 .seq (.block 7 (pZ [p1 31 10,p1 32 11,GC 33 [.Bt 31,.Bt 32] (.build [.int .i64 0,.int .i64 0] [(0,1),(1,1)]),GC 12 [] (.alloc [.int .i64 0,.int .i64 0]),⟨none,[.sl 12,.jh 33],none,none,.st 2⟩] IF)) rG
noncomputable def H_:fW :=
 .loop (some (qb false [1,2,2,7,87])) (.seq (pZ [p1 27 11,qA 28 27 2 .lss] (.cond (.sl 28) .skip (.exit 6))) I7)
noncomputable def JI:fW :=
 .block 6 H_
noncomputable def I6:fW :=
 .oj false [pY 25 10,qU 26 25 1,pY 10 26]
noncomputable def Kq:fW :=
 .seq (.block 5 (pZ [qd 11 0] JI)) I6
noncomputable def JJ:fW :=
 .loop (some (qb false [1,2,2,6,88])) (.seq (pZ [p1 20 10,GC 21 [.sl 2] (.yH 1),qo 22 21,qI 23 22,qT 24 20 23 .lss] (.cond (.sl 24) .skip (.exit 4))) Kq)
noncomputable def Le:fW :=
 .block 4 JJ
noncomputable def JN:fW :=
 .oj false [pY 78 7,qU 79 78 1,pY 7 79]
noncomputable def JM:fW :=
 .cond (.sl 66) (pZ [p1 67 1,p1 68 7,p1 69 1,qI 70 69,qT 71 68 70 .rem,qZ 72 67 71 1,qo 73 72,GC 74 [.Bt 73] (.conv .i64),p1 75 9,qI 76 75,qT 77 74 76 .rem,pY 13 77] JN) .skip
noncomputable def Ia:fW :=
 .oj true [pY 80 8,p1 81 9,p1 82 13,qZ 83 81 82 2,GC 84 [.Bt 83] (.zy (.str 2)),GC 85 [.Bt 84] (.yv 1 2 [.int .i64 0,.int .i64 0] [0]),GC 86 [.jh 80,.jh 85] (.app 2 16),pY 87 6,p1 88 9,p1 89 13,qZ 90 88 89 2,GC 91 [.Bt 90] (.zy (.str 2)),GC 92 [.Bt 91] (.yv 1 2 [.int .i64 0,.int .i64 0] [0]),GC 93 [.jh 87,.jh 92] (.app 2 16),pY 8 86,pY 6 93]
noncomputable def JL:fW :=
 .seq (pZ [p1 64 1,qI 65 64,qA 66 65 0 .gtr] JM) Ia
noncomputable def JK:fW :=
 pZ [qd 13 0] JL
noncomputable def Kp:fW :=
 .seq (pZ [p1 61 9,qI 62 61,qA 63 62 0 .eql] (.cond (.sl 63) (.exit 2) .skip)) JK
noncomputable def MY:fW :=
 .seq (pZ [qd 10 0] Le) Kp
noncomputable def MW:fW :=
 .loop (some (qb false [1,2,2,4,90])) (.block 3 (pZ [GC 9 [.lT (.ax [] 0 .full)] (.nil 2)] MY))
noncomputable def MX:fW :=
 .oj false [pY 94 5,pY 95 8,GC 96 [.Bt 95] (.yv 1 1 [.ax [] 0 .full] [0]),GC 97 [.jh 94,.jh 96] (.app 1 24),pY 5 97]
noncomputable def Pu:fW :=
 .seq (.block 2 MW) MX
noncomputable def RB:fW :=
 .block 1 (pZ [GC 8 [.lT (.ax [] 0 .full)] (.nil 2)] Pu)
noncomputable def RA:fW :=
 .loop (some (qb false [1,2,2,3,91])) (.seq (pZ [p1 14 6,qI 15 14,GC 16 [.sl 2] (.yH 1),qo 17 16,qI 18 17,qT 19 15 18 .lss] (.cond (.sl 19) .skip (.exit 0))) RB)
noncomputable def VL:fW :=
 pZ [pY 98 5,pY 4 98] .ret
noncomputable def VK:fW :=
 .seq (.block 0 RA) VL
noncomputable def VJ:fW :=
 pZ [qd 7 0] VK
noncomputable def VI:fW :=
 pZ [GC 6 [.lT (.ax [] 0 .full)] (.nil 2)] VJ
noncomputable def VH:fW :=
 pZ [GC 5 [.lT (.ax [] 0 .full)] (.nil 1)] VI
noncomputable def ab1:fW :=
 pZ [GC 2 [.jh 0] .box,GC 4 [.lT (.ax [] 0 .full)] (.nil 1)] VH
theorem agK:zE Tryz.prog HT 50=some (ab1,99,[.tmp 4]):=by kernel_rfl
def Ht (b:qn) (G' p':p8) (qa:Int) (sd:p8→Option qh):Nat→p8→Int→Option qh
 | 0,_,_=>none
 | m+1,qj,qf =>
   if (decide (qf<(2:Int)))=true then
    (ML G' qa).bind fun aT =>
    if aT=true then
     Ht b G' p' qa sd m qj (w (qf+(1:Int)))
    else
     if (decide ((p'.length:Int)=(0:Int)))=true then
      qg ((qj.length+1)*16≤140737488355328) <|
      Ht b G' p' qa sd m (qj++[(qa,qf)]) (w (qf+(1:Int)))
     else
      qg (0≤(w ((p'.length:Int)-(1:Int)))∧(w ((p'.length:Int)-(1:Int)))<(p'.length:Int)) <|
      (MN b (ix p' (w ((p'.length:Int)-(1:Int))))).bind fun r2 =>
      (MK b (qa,qf)).bind fun eL =>
      if (decide (r2=eL))=true then
       qg ((qj.length+1)*16≤140737488355328) <|
       Ht b G' p' qa sd m (qj++[(qa,qf)]) (w (qf+(1:Int)))
      else
       Ht b G' p' qa sd m qj (w (qf+(1:Int)))
   else
    sd qj
def IE (b:qn) (G' p':p8) (rk:p8→Option qh):Nat→p8→Int→Option qh
 | 0,_,_=>none
 | m+1,q_,qa =>
   if (decide (qa<(b.2.length:Int)))=true then
    Ht b G' p' qa (fun yh =>
      IE b G' p' rk m yh (w (qa+(1:Int)))) qc q_ (0:Int)
   else
    rk q_
def Ih (G' p' oJ:p8) (H8:p8→Int→p8→Option qh) (dB dq:Int):Option qh :=
 qg (0≤dq∧dq<(oJ.length:Int)) <|
 qg ((p'.length+1)*16≤140737488355328) <|
 qg (0≤dq∧dq<(oJ.length:Int)) <|
 qg ((G'.length+1)*16≤140737488355328) <|
 H8 (G'++[(ix oJ dq)]) dB (p'++[(ix oJ dq)])
def Jo (b:qn) (p_:qt) (qM:p8→Int→p8→Option qh):Nat→p8→Int→p8→Option qh
 | 0,_,_,_=>none
 | m+1,G',qu,p' =>
   IE b G' p' (fun oJ =>
     if (decide ((oJ.length:Int)=(0:Int)))=true then
      qM G' qu p'
     else
      if (decide ((0:Int)<(p_.length:Int)))=true then
       qg ((p_.length:Int)≠0) <|
       qg (0≤(qu.tmod (p_.length:Int))∧(qu.tmod (p_.length:Int))<(p_.length:Int)) <|
       qg ((oJ.length:Int)≠0) <|
       Ih G' p' oJ (fun r0 si HJ =>
         Jo b p_ qM m r0 si HJ) (w (qu+(1:Int))) ((w (ix p_ (qu.tmod (p_.length:Int)))).tmod (oJ.length:Int))
      else
       Ih G' p' oJ (fun r0 si HJ =>
         Jo b p_ qM m r0 si HJ) qu (0:Int)) qc ([]:List (Int×Int)) (0:Int)
def LQ (b:qn) (p_:qt) (qq:qh→Option qh):Nat→qh→p8→Int→Option qh
 | 0,_,_,_=>none
 | m+1,s1,s2,di =>
   if (decide ((s2.length:Int)<(b.2.length:Int)))=true then
    Jo b p_ (fun Gx rU rH =>
      qg ((s1.length+1)*24≤140737488355328) <|
      LQ b p_ qq m (s1++[rH]) Gx rU) qc s2 di ([]:List (Int×Int))
   else
    qq s1
def Q9 (b:qn) (p_:qt):Option qh :=
 LQ b p_ (fun r0 =>
   some r0) qc ([]:List p8) ([]:List (Int×Int)) (0:Int)
theorem ak9 {b:qn} {G':p8} {p':p8} {qa:Int} {sd:p8→Option qh} {qj:p8} {qf:Int} {p_:qt} {s1:qh} {qu:Int} {v:qh} {Q:rf}  {ss:List ar} {q9:hv} (J':∀ (yh:p8) (ql:List ar) (p7:List I),sd yh=some v→qQ 99 [(1,(.ax (p_.map qO) p_.length .shared)),(2,(.ptr 0 0)),(5,(.ax (s1.map (qk p0)) s1.length (.uniq 1))),(6,(p4 G' (.own 2))),(7,(hW qu)),(8,(p4 p' (.uniq 2))),(9,(p4 yh (.uniq 2))),(10,(hW qa))] p7→Q (.exit 6) p7 (qD b::ql)) (Ti:∀ (yh:p8) (ql:List ar) (p7:List I),sd yh=some v→qQ 99 [(1,(.ax (p_.map qO) p_.length .shared)),(2,(.ptr 0 0)),(5,(.ax (s1.map (qk p0)) s1.length (.uniq 1))),(6,(p4 G' (.own 2))),(7,(hW qu)),(8,(p4 p' (.own 2))),(9,(p4 yh (.uniq 2))),(10,(hW qa))] p7→Q (.exit 6) p7 (qD b::ql)) (HG:(q9=(.uniq 2)∨q9=(.own 2))) {T:List I} (bX:e0 (qb false [1,2,2,7,87]) T=Hc 99 [(1,(.ax (p_.map qO) p_.length .shared)),(2,(.ptr 0 0)),(5,(.ax (s1.map (qk p0)) s1.length (.uniq 1))),(6,(p4 G' (.own 2))),(7,(hW qu)),(8,(.ax (p'.flatMap p0) p'.length q9)),(9,(p4 qj (.uniq 2))),(10,(hW qa)),(11,(hW qf))]) (h:Ht b G' p' qa sd qc qj qf=some v) :
  dR Tryz.prog HT 50 0 none H_ T (qD b::ss) Q:=by
 unfold H_;obtain ⟨Oh,H4⟩:∃ c,I7=c:=⟨_,rfl⟩;rw [H4];refine wp_loop bX ?_;refine .intro (fun m T H=>∃ (qj:p8) (qf:Int) (Ij:List ar) (q9:hv),(q9=(.uniq 2)∨q9=(.own 2))∧T=Hc 99 [(1,(.ax (p_.map qO) p_.length .shared)),(2,(.ptr 0 0)),(5,(.ax (s1.map (qk p0)) s1.length (.uniq 1))),(6,(p4 G' (.own 2))),(7,(hW qu)),(8,(.ax (p'.flatMap p0) p'.length q9)),(9,(p4 qj (.uniq 2))),(10,(hW qa)),(11,(hW qf))]∧H=(qD b::Ij)∧Ht b G' p' qa sd m qj qf=some v) qc ⟨qj,qf,ss,_,HG,rfl,rfl,h⟩ ?_;clear h bX;rintro m T H ⟨qj,qf,Ij,q9,HG,rfl,rfl,h⟩;cases m
 ·exact rj h
 rename_i m;rw [Ht.eq_2] at h;rcases HG with rfl | rfl
 ·conv=>whnf
  refine bs h (fun qs h=>?_) fun qs h=>?_
  ·rw [qs];(conv=>whnf);subst H4;unfold I7;obtain ⟨L4,ri⟩:∃ c,rG=c:=⟨_,rfl⟩;rw [ri];obtain ⟨L5,HD⟩:∃ c,IF=c:=⟨_,rfl⟩;rw [HD];(conv=>whnf);refine Es (x:=ar.cells [(hW (0:Int)),(hW (0:Int))]) (by first | exact qy.h | rfl | (simp [sy,I.settle];done)) ?_
   (conv=>whnf);rw [rB];subst HD;unfold IF;obtain ⟨L6,rP⟩:∃ c,r4=c:=⟨_,rfl⟩;rw [rP];(conv=>whnf);obtain ⟨aT,qF,h⟩:=qm h;refine ⟨qw.pl,_,Kn qF,HS,?_⟩;(conv=>whnf);cases aT
   ·(conv=>whnf);replace h:=Hl rfl h;refine bs h (fun qH h=>?_) fun qH h=>?_
    ·rw [qH];(conv=>whnf);subst rP;unfold r4;(conv=>whnf);refine Es (x:=ar.cells [(hW qa),(hW qf)]) (by first | exact qy.h | rfl | (simp [sy,I.settle];done)) ?_
     (conv=>whnf);obtain ⟨ra,h⟩:=qC h;refine ⟨by first | rfl | (simp;done) | exact rz p0 _ qv _,by have:=ra;omega,rfl,ra,?_⟩
     erw [rK p0 qj (qa,qf)];(conv=>whnf);subst ri;unfold rG;(conv=>whnf);exact ⟨m,sA m,(qj++[(qa,qf)]),(w (qf+(1:Int))),_,_,(.inr rfl),rfl,rfl,h⟩
    ·rw [qH];(conv=>whnf);refine qx h id fun q7 h=>?_;rw [qX p0 2 qv p' (w ((p'.length:Int)-(1:Int))) q7];(conv=>whnf);obtain ⟨r2,q8,h⟩:=qm h;refine ⟨qw.pl,_,KU q8,Ib rfl,?_⟩;(conv=>whnf);refine Es (x:=ar.cells [(hW qa),(hW qf)]) (by first | exact qy.h | rfl | (simp [sy,I.settle];done)) ?_
     (conv=>whnf);obtain ⟨eL,rp,h⟩:=qm h;refine ⟨qw.pl,_,KS rp,Ib rfl,?_⟩;(conv=>whnf);subst rP;unfold r4;(conv=>whnf);refine bs h (fun qP h=>?_) fun qP h=>?_
     ·rw [qP];(conv=>whnf);refine Es (x:=ar.cells [(hW qa),(hW qf)]) (by first | exact qy.h | rfl | (simp [sy,I.settle];done)) ?_
      (conv=>whnf);obtain ⟨rq,h⟩:=qC h;refine ⟨by first | rfl | (simp;done) | exact rz p0 _ qv _,by have:=rq;omega,rfl,rq,?_⟩
      erw [rK p0 qj (qa,qf)];(conv=>whnf);subst ri;unfold rG;(conv=>whnf);exact ⟨m,sA m,(qj++[(qa,qf)]),(w (qf+(1:Int))),_,_,(.inr rfl),rfl,rfl,h⟩
     ·rw [qP];(conv=>whnf);subst ri;unfold rG;(conv=>whnf);exact ⟨m,sA m,qj,(w (qf+(1:Int))),_,_,(.inr rfl),rfl,rfl,h⟩
   ·(conv=>whnf);replace h:=Hm rfl h;subst rP;unfold r4;(conv=>whnf);subst ri;unfold rG;(conv=>whnf);exact ⟨m,sA m,qj,(w (qf+(1:Int))),_,_,(.inl rfl),rfl,rfl,h⟩
  ·rw [qs];(conv=>whnf);exact J' _ _ _ h ⟨rfl,rfl⟩
 ·conv=>whnf
  refine bs h (fun qs h=>?_) fun qs h=>?_
  ·rw [qs];(conv=>whnf);subst H4;unfold I7;obtain ⟨L4,ri⟩:∃ c,rG=c:=⟨_,rfl⟩;rw [ri];obtain ⟨L5,HD⟩:∃ c,IF=c:=⟨_,rfl⟩;rw [HD];(conv=>whnf);refine Es (x:=ar.cells [(hW (0:Int)),(hW (0:Int))]) (by first | exact qy.h | rfl | (simp [sy,I.settle];done)) ?_
   (conv=>whnf);rw [rB];subst HD;unfold IF;obtain ⟨L6,rP⟩:∃ c,r4=c:=⟨_,rfl⟩;rw [rP];(conv=>whnf);obtain ⟨aT,qF,h⟩:=qm h;refine ⟨qw.pl,_,Kn qF,HS,?_⟩;(conv=>whnf);cases aT
   ·(conv=>whnf);replace h:=Hl rfl h;refine bs h (fun qH h=>?_) fun qH h=>?_
    ·rw [qH];(conv=>whnf);subst rP;unfold r4;(conv=>whnf);refine Es (x:=ar.cells [(hW qa),(hW qf)]) (by first | exact qy.h | rfl | (simp [sy,I.settle];done)) ?_
     (conv=>whnf);obtain ⟨ra,h⟩:=qC h;refine ⟨by first | rfl | (simp;done) | exact rz p0 _ qv _,by have:=ra;omega,rfl,ra,?_⟩
     erw [rK p0 qj (qa,qf)];(conv=>whnf);subst ri;unfold rG;(conv=>whnf);exact ⟨m,sA m,(qj++[(qa,qf)]),(w (qf+(1:Int))),_,_,(.inr rfl),rfl,rfl,h⟩
    ·rw [qH];(conv=>whnf);refine qx h id fun q7 h=>?_;rw [qX p0 2 qv p' (w ((p'.length:Int)-(1:Int))) q7];(conv=>whnf);obtain ⟨r2,q8,h⟩:=qm h;refine ⟨qw.pl,_,KU q8,Ib rfl,?_⟩;(conv=>whnf);refine Es (x:=ar.cells [(hW qa),(hW qf)]) (by first | exact qy.h | rfl | (simp [sy,I.settle];done)) ?_
     (conv=>whnf);obtain ⟨eL,rp,h⟩:=qm h;refine ⟨qw.pl,_,KS rp,Ib rfl,?_⟩;(conv=>whnf);subst rP;unfold r4;(conv=>whnf);refine bs h (fun qP h=>?_) fun qP h=>?_
     ·rw [qP];(conv=>whnf);refine Es (x:=ar.cells [(hW qa),(hW qf)]) (by first | exact qy.h | rfl | (simp [sy,I.settle];done)) ?_
      (conv=>whnf);obtain ⟨rq,h⟩:=qC h;refine ⟨by first | rfl | (simp;done) | exact rz p0 _ qv _,by have:=rq;omega,rfl,rq,?_⟩
      erw [rK p0 qj (qa,qf)];(conv=>whnf);subst ri;unfold rG;(conv=>whnf);exact ⟨m,sA m,(qj++[(qa,qf)]),(w (qf+(1:Int))),_,_,(.inr rfl),rfl,rfl,h⟩
     ·rw [qP];(conv=>whnf);subst ri;unfold rG;(conv=>whnf);exact ⟨m,sA m,qj,(w (qf+(1:Int))),_,_,(.inr rfl),rfl,rfl,h⟩
   ·(conv=>whnf);replace h:=Hm rfl h;subst rP;unfold r4;(conv=>whnf);subst ri;unfold rG;(conv=>whnf);exact ⟨m,sA m,qj,(w (qf+(1:Int))),_,_,(.inr rfl),rfl,rfl,h⟩
  ·rw [qs];(conv=>whnf);exact Ti _ _ _ h ⟨rfl,rfl⟩
theorem ald {b:qn} {G':p8} {p':p8} {qa:Int} {sd:p8→Option qh} {qj:p8} {qf:Int} {p_:qt} {s1:qh} {qu:Int} {v:qh} {Q:rf}  {ss:List ar} (J':∀ (yh:p8) (ql:List ar) (p7:List I),sd yh=some v→qQ 99 [(1,(.ax (p_.map qO) p_.length .shared)),(2,(.ptr 0 0)),(5,(.ax (s1.map (qk p0)) s1.length (.uniq 1))),(6,(p4 G' (.own 2))),(7,(hW qu)),(8,(p4 p' (.own 2))),(9,(p4 yh (.uniq 2))),(10,(hW qa))] p7→Q (.exit 6) p7 (qD b::ql)) {T:List I} (bX:e0 (qb false [1,2,2,7,87]) T=Hc 99 [(1,(.ax (p_.map qO) p_.length .shared)),(2,(.ptr 0 0)),(5,(.ax (s1.map (qk p0)) s1.length (.uniq 1))),(6,(p4 G' (.own 2))),(7,(hW qu)),(8,(p4 p' (.own 2))),(9,(p4 qj (.uniq 2))),(10,(hW qa)),(11,(hW qf))]) (h:Ht b G' p' qa sd qc qj qf=some v) :
  dR Tryz.prog HT 50 0 none H_ T (qD b::ss) Q:=by
 unfold H_;obtain ⟨Oh,H4⟩:∃ c,I7=c:=⟨_,rfl⟩;rw [H4];refine wp_loop bX ?_;refine .intro (fun m T H=>∃ (qj:p8) (qf:Int) (Ij:List ar),T=Hc 99 [(1,(.ax (p_.map qO) p_.length .shared)),(2,(.ptr 0 0)),(5,(.ax (s1.map (qk p0)) s1.length (.uniq 1))),(6,(p4 G' (.own 2))),(7,(hW qu)),(8,(p4 p' (.own 2))),(9,(p4 qj (.uniq 2))),(10,(hW qa)),(11,(hW qf))]∧H=(qD b::Ij)∧Ht b G' p' qa sd m qj qf=some v) qc ⟨qj,qf,ss,rfl,rfl,h⟩ ?_;clear h bX;rintro m T H ⟨qj,qf,Ij,rfl,rfl,h⟩;cases m
 ·exact rj h
 rename_i m;rw [Ht.eq_2] at h;conv=>whnf
 refine bs h (fun qs h=>?_) fun qs h=>?_
 ·rw [qs];conv=>whnf
  subst H4;unfold I7;obtain ⟨L4,ri⟩:∃ c,rG=c:=⟨_,rfl⟩;rw [ri];obtain ⟨L5,HD⟩:∃ c,IF=c:=⟨_,rfl⟩;rw [HD];conv=>whnf
  refine Es (x:=ar.cells [(hW (0:Int)),(hW (0:Int))]) (by first | exact qy.h | rfl | (simp [sy,I.settle];done)) ?_
  conv=>whnf
  rw [rB];subst HD;unfold IF;obtain ⟨L6,rP⟩:∃ c,r4=c:=⟨_,rfl⟩;rw [rP];conv=>whnf
  obtain ⟨aT,qF,h⟩:=qm h;refine ⟨qw.pl,_,Kn qF,HS,?_⟩;conv=>whnf
  cases aT
  ·(conv=>whnf);replace h:=Hl rfl h;refine bs h (fun qH h=>?_) fun qH h=>?_
   ·rw [qH];(conv=>whnf);subst rP;unfold r4;(conv=>whnf);refine Es (x:=ar.cells [(hW qa),(hW qf)]) (by first | exact qy.h | rfl | (simp [sy,I.settle];done)) ?_
    (conv=>whnf);obtain ⟨ra,h⟩:=qC h;refine ⟨by first | rfl | (simp;done) | exact rz p0 _ qv _,by have:=ra;omega,rfl,ra,?_⟩
    erw [rK p0 qj (qa,qf)];(conv=>whnf);subst ri;unfold rG;(conv=>whnf);exact ⟨m,sA m,(qj++[(qa,qf)]),(w (qf+(1:Int))),_,rfl,rfl,h⟩
   ·rw [qH];(conv=>whnf);refine qx h id fun q7 h=>?_;rw [qX p0 2 qv p' (w ((p'.length:Int)-(1:Int))) q7];(conv=>whnf);obtain ⟨r2,q8,h⟩:=qm h;refine ⟨qw.pl,_,KU q8,Ib rfl,?_⟩;(conv=>whnf);refine Es (x:=ar.cells [(hW qa),(hW qf)]) (by first | exact qy.h | rfl | (simp [sy,I.settle];done)) ?_
    (conv=>whnf);obtain ⟨eL,rp,h⟩:=qm h;refine ⟨qw.pl,_,KS rp,Ib rfl,?_⟩;(conv=>whnf);subst rP;unfold r4;(conv=>whnf);refine bs h (fun qP h=>?_) fun qP h=>?_
    ·rw [qP];(conv=>whnf);refine Es (x:=ar.cells [(hW qa),(hW qf)]) (by first | exact qy.h | rfl | (simp [sy,I.settle];done)) ?_
     (conv=>whnf);obtain ⟨rq,h⟩:=qC h;refine ⟨by first | rfl | (simp;done) | exact rz p0 _ qv _,by have:=rq;omega,rfl,rq,?_⟩
     erw [rK p0 qj (qa,qf)];(conv=>whnf);subst ri;unfold rG;(conv=>whnf);exact ⟨m,sA m,(qj++[(qa,qf)]),(w (qf+(1:Int))),_,rfl,rfl,h⟩
    ·rw [qP];(conv=>whnf);subst ri;unfold rG;(conv=>whnf);exact ⟨m,sA m,qj,(w (qf+(1:Int))),_,rfl,rfl,h⟩
  ·(conv=>whnf);replace h:=Hm rfl h;subst rP;unfold r4;(conv=>whnf);subst ri;unfold rG;(conv=>whnf);exact ⟨m,sA m,qj,(w (qf+(1:Int))),_,rfl,rfl,h⟩
 ·rw [qs];conv=>whnf
  exact J' _ _ _ h ⟨rfl,rfl⟩
theorem ak5 {b:qn} {G':p8} {p':p8} {rk:p8→Option qh} {q_:p8} {qa:Int} {p_:qt} {s1:qh} {qu:Int} {v:qh} {Q:rf}  {Ik:List ar} {q9:hv} (I3:∀ (oJ:p8) (ql:List ar) (p7:List I),rk oJ=some v→qQ 99 [(1,(.ax (p_.map qO) p_.length .shared)),(2,(.ptr 0 0)),(5,(.ax (s1.map (qk p0)) s1.length (.uniq 1))),(6,(p4 G' (.own 2))),(7,(hW qu)),(8,(p4 p' (.uniq 2))),(9,(p4 oJ (.uniq 2)))] p7→Q (.exit 4) p7 (qD b::ql)) (OL:∀ (oJ:p8) (ql:List ar) (p7:List I),rk oJ=some v→qQ 99 [(1,(.ax (p_.map qO) p_.length .shared)),(2,(.ptr 0 0)),(5,(.ax (s1.map (qk p0)) s1.length (.uniq 1))),(6,(p4 G' (.own 2))),(7,(hW qu)),(8,(p4 p' (.own 2))),(9,(p4 oJ (.uniq 2)))] p7→Q (.exit 4) p7 (qD b::ql)) (HG:(q9=(.uniq 2)∨q9=(.own 2))) {T:List I} (bX:e0 (qb false [1,2,2,6,88]) T=Hc 99 [(1,(.ax (p_.map qO) p_.length .shared)),(2,(.ptr 0 0)),(5,(.ax (s1.map (qk p0)) s1.length (.uniq 1))),(6,(p4 G' (.own 2))),(7,(hW qu)),(8,(.ax (p'.flatMap p0) p'.length q9)),(9,(p4 q_ (.uniq 2))),(10,(hW qa))]) (h:IE b G' p' rk qc q_ qa=some v) :
  dR Tryz.prog HT 50 0 none JJ T (qD b::Ik) Q:=by
 unfold JJ;obtain ⟨Sf,Jx⟩:∃ c,Kq=c:=⟨_,rfl⟩;rw [Jx];refine wp_loop bX ?_;refine .intro (fun m T H=>∃ (q_:p8) (qa:Int) (ss:List ar) (q9:hv),(q9=(.uniq 2)∨q9=(.own 2))∧T=Hc 99 [(1,(.ax (p_.map qO) p_.length .shared)),(2,(.ptr 0 0)),(5,(.ax (s1.map (qk p0)) s1.length (.uniq 1))),(6,(p4 G' (.own 2))),(7,(hW qu)),(8,(.ax (p'.flatMap p0) p'.length q9)),(9,(p4 q_ (.uniq 2))),(10,(hW qa))]∧H=(qD b::ss)∧IE b G' p' rk m q_ qa=some v) qc ⟨q_,qa,Ik,_,HG,rfl,rfl,h⟩ ?_;clear h bX;rintro m T H ⟨q_,qa,ss,q9,HG,rfl,rfl,h⟩;cases m
 ·exact rj h
 rename_i m;rw [IE.eq_2] at h;rcases HG with rfl | rfl
 ·conv=>whnf
  refine bs h (fun gH h=>?_) fun gH h=>?_
  ·rw [gH];(conv=>whnf);subst Jx;unfold Kq;obtain ⟨Of,H3⟩:∃ c,I6=c:=⟨_,rfl⟩;rw [H3];obtain ⟨Og,Iq⟩:∃ c,JI=c:=⟨_,rfl⟩;rw [Iq];(conv=>whnf);subst Iq;unfold JI;obtain ⟨Oi,Ir⟩:∃ c,H_=c:=⟨_,rfl⟩;rw [Ir];(conv=>whnf);subst Ir;refine ak9 ?_ ?_ (.inl rfl) (by exact rfl) h
   ·intro yh ql p7 h qe;obtain ⟨qG,rfl⟩:=qe.ex;(conv=>whnf);subst H3;unfold I6;(conv=>whnf);exact ⟨m,sA m,yh,(w (qa+(1:Int))),_,_,(.inl rfl),rfl,rfl,h⟩
   ·intro yh ql p7 h qe;obtain ⟨qG,rfl⟩:=qe.ex;(conv=>whnf);subst H3;unfold I6;(conv=>whnf);exact ⟨m,sA m,yh,(w (qa+(1:Int))),_,_,(.inr rfl),rfl,rfl,h⟩
  ·rw [gH];(conv=>whnf);exact I3 _ _ _ h ⟨rfl,rfl⟩
 ·conv=>whnf
  refine bs h (fun gH h=>?_) fun gH h=>?_
  ·rw [gH];(conv=>whnf);subst Jx;unfold Kq;obtain ⟨Of,H3⟩:∃ c,I6=c:=⟨_,rfl⟩;rw [H3];obtain ⟨Og,Iq⟩:∃ c,JI=c:=⟨_,rfl⟩;rw [Iq];(conv=>whnf);subst Iq;unfold JI;obtain ⟨Oi,Ir⟩:∃ c,H_=c:=⟨_,rfl⟩;rw [Ir];(conv=>whnf);subst Ir;refine ald ?_ (by exact rfl) h;intro yh ql p7 h qe;obtain ⟨qG,rfl⟩:=qe.ex;(conv=>whnf);subst H3;unfold I6;(conv=>whnf);exact ⟨m,sA m,yh,(w (qa+(1:Int))),_,_,(.inr rfl),rfl,rfl,h⟩
  ·rw [gH];(conv=>whnf);exact OL _ _ _ h ⟨rfl,rfl⟩
theorem aa5 {G':p8} {p':p8} {oJ:p8} {H8:p8→Int→p8→Option qh} {dB:Int} {dq:Int} {b:qn} {p_:qt} {s1:qh} {v:qh} {Q:rf} {ql:List ar} {p7:List I}  (J_:∀ (r0:p8) (si:Int) (HJ:p8) (ql:List ar) (p7:List I),H8 r0 si HJ=some v→qQ 99 [(1,(.ax (p_.map qO) p_.length .shared)),(2,(.ptr 0 0)),(5,(.ax (s1.map (qk p0)) s1.length (.uniq 1))),(6,(p4 r0 (.own 2))),(7,(hW si)),(8,(p4 HJ (.uniq 2)))] p7→Q .normal p7 (qD b::ql)) (qe:qQ 99 [(1,(.ax (p_.map qO) p_.length .shared)),(2,(.ptr 0 0)),(5,(.ax (s1.map (qk p0)) s1.length (.uniq 1))),(6,(p4 G' (.own 2))),(7,(hW dB)),(8,(p4 p' (.uniq 2))),(9,(p4 oJ (.own 2))),(13,(hW dq))] p7) (h:Ih G' p' oJ H8 dB dq=some v) :
  dR Tryz.prog HT 50 0 none Ia p7 (qD b::ql) Q:=by
 obtain ⟨qG,rfl⟩:=qe.ex;unfold Ih at h;unfold Ia;conv=>whnf
 refine qx h id fun Ix h=>?_;rw [qX p0 2 qv oJ dq Ix];conv=>whnf
 obtain ⟨sg,h⟩:=qC h;refine ⟨by first | rfl | (simp;done) | exact rz p0 _ qv _,by have:=sg;omega,rfl,sg,?_⟩
 erw [rK p0 p' (ix oJ dq)];conv=>whnf
 refine qx h id fun H7 h=>?_;rw [qX p0 2 qv oJ dq H7];conv=>whnf
 obtain ⟨Hn,h⟩:=qC h;refine ⟨by first | rfl | (simp;done) | exact rz p0 _ qv _,by have:=Hn;omega,rfl,Hn,?_⟩
 erw [rK p0 G' (ix oJ dq)];conv=>whnf
 exact J_ _ _ _ _ _ h ⟨rfl,rfl⟩
theorem aa_ {G':p8} {p':p8} {oJ:p8} {H8:p8→Int→p8→Option qh} {mD:Int} {mE:Int} {b:qn} {p_:qt} {s1:qh} {v:qh} {Q:rf} {ql:List ar} {p7:List I}  (J_:∀ (JO:p8) (IG:Int) (HR:p8) (ql:List ar) (p7:List I),H8 JO IG HR=some v→qQ 99 [(1,(.ax (p_.map qO) p_.length .shared)),(2,(.ptr 0 0)),(5,(.ax (s1.map (qk p0)) s1.length (.uniq 1))),(6,(p4 JO (.own 2))),(7,(hW IG)),(8,(p4 HR (.own 2)))] p7→Q .normal p7 (qD b::ql)) (qe:qQ 99 [(1,(.ax (p_.map qO) p_.length .shared)),(2,(.ptr 0 0)),(5,(.ax (s1.map (qk p0)) s1.length (.uniq 1))),(6,(p4 G' (.own 2))),(7,(hW mD)),(8,(p4 p' (.own 2))),(9,(p4 oJ (.own 2))),(13,(hW mE))] p7) (h:Ih G' p' oJ H8 mD mE=some v) :
  dR Tryz.prog HT 50 0 none Ia p7 (qD b::ql) Q:=by
 obtain ⟨qG,rfl⟩:=qe.ex;unfold Ih at h;unfold Ia;conv=>whnf
 refine qx h id fun Iy h=>?_;rw [qX p0 2 qv oJ mE Iy];conv=>whnf
 obtain ⟨JX,h⟩:=qC h;refine ⟨by first | rfl | (simp;done) | exact rz p0 _ qv _,by have:=JX;omega,rfl,JX,?_⟩
 erw [rK p0 p' (ix oJ mE)];conv=>whnf
 refine qx h id fun Lt h=>?_;rw [qX p0 2 qv oJ mE Lt];conv=>whnf
 obtain ⟨KF,h⟩:=qC h;refine ⟨by first | rfl | (simp;done) | exact rz p0 _ qv _,by have:=KF;omega,rfl,KF,?_⟩
 erw [rK p0 G' (ix oJ mE)];conv=>whnf
 exact J_ _ _ _ _ _ h ⟨rfl,rfl⟩
theorem alc {b:qn} {G':p8} {p':p8} {qa:Int} {sd:p8→Option qh} {qj:p8} {qf:Int} {p_:qt} {s1:qh} {qu:Int} {v:qh} {Q:rf}  {ss:List ar} (J':∀ (yh:p8) (ql:List ar) (p7:List I),sd yh=some v→qQ 99 [(1,(.ax (p_.map qO) p_.length .shared)),(2,(.ptr 0 0)),(5,(.ax (s1.map (qk p0)) s1.length (.uniq 1))),(6,(p4 G' (.own 2))),(7,(hW qu)),(8,(p4 p' (.own 2))),(9,(p4 yh (.uniq 2))),(10,(hW qa))] p7→Q (.exit 6) p7 (qD b::ql)) {T:List I} (bX:e0 (qb false [1,2,2,7,87]) T=Hc 99 [(1,(.ax (p_.map qO) p_.length .shared)),(2,(.ptr 0 0)),(5,(.ax (s1.map (qk p0)) s1.length (.uniq 1))),(6,(p4 G' (.own 2))),(7,(hW qu)),(8,(p4 p' (.own 2))),(9,(p4 qj (.uniq 2))),(10,(hW qa)),(11,(hW qf))]) (h:Ht b G' p' qa sd qc qj qf=some v) :
  dR Tryz.prog HT 50 0 none H_ T (qD b::ss) Q:=by
 unfold H_;obtain ⟨Oh,H4⟩:∃ c,I7=c:=⟨_,rfl⟩;rw [H4];refine wp_loop bX ?_;refine .intro (fun m T H=>∃ (qj:p8) (qf:Int) (Ij:List ar),T=Hc 99 [(1,(.ax (p_.map qO) p_.length .shared)),(2,(.ptr 0 0)),(5,(.ax (s1.map (qk p0)) s1.length (.uniq 1))),(6,(p4 G' (.own 2))),(7,(hW qu)),(8,(p4 p' (.own 2))),(9,(p4 qj (.uniq 2))),(10,(hW qa)),(11,(hW qf))]∧H=(qD b::Ij)∧Ht b G' p' qa sd m qj qf=some v) qc ⟨qj,qf,ss,rfl,rfl,h⟩ ?_;clear h bX;rintro m T H ⟨qj,qf,Ij,rfl,rfl,h⟩;cases m
 ·exact rj h
 rename_i m;rw [Ht.eq_2] at h;conv=>whnf
 refine bs h (fun qs h=>?_) fun qs h=>?_
 ·rw [qs];conv=>whnf
  subst H4;unfold I7;obtain ⟨L4,ri⟩:∃ c,rG=c:=⟨_,rfl⟩;rw [ri];obtain ⟨L5,HD⟩:∃ c,IF=c:=⟨_,rfl⟩;rw [HD];conv=>whnf
  refine Es (x:=ar.cells [(hW (0:Int)),(hW (0:Int))]) (by first | exact qy.h | rfl | (simp [sy,I.settle];done)) ?_
  conv=>whnf
  rw [rB];subst HD;unfold IF;obtain ⟨L6,rP⟩:∃ c,r4=c:=⟨_,rfl⟩;rw [rP];conv=>whnf
  obtain ⟨aT,qF,h⟩:=qm h;refine ⟨qw.pl,_,Kn qF,HS,?_⟩;conv=>whnf
  cases aT
  ·(conv=>whnf);replace h:=Hl rfl h;refine bs h (fun qH h=>?_) fun qH h=>?_
   ·rw [qH];(conv=>whnf);subst rP;unfold r4;(conv=>whnf);refine Es (x:=ar.cells [(hW qa),(hW qf)]) (by first | exact qy.h | rfl | (simp [sy,I.settle];done)) ?_
    (conv=>whnf);obtain ⟨ra,h⟩:=qC h;refine ⟨by first | rfl | (simp;done) | exact rz p0 _ qv _,by have:=ra;omega,rfl,ra,?_⟩
    erw [rK p0 qj (qa,qf)];(conv=>whnf);subst ri;unfold rG;(conv=>whnf);exact ⟨m,sA m,(qj++[(qa,qf)]),(w (qf+(1:Int))),_,rfl,rfl,h⟩
   ·rw [qH];(conv=>whnf);refine qx h id fun q7 h=>?_;rw [qX p0 2 qv p' (w ((p'.length:Int)-(1:Int))) q7];(conv=>whnf);obtain ⟨r2,q8,h⟩:=qm h;refine ⟨qw.pl,_,KU q8,Ib rfl,?_⟩;(conv=>whnf);refine Es (x:=ar.cells [(hW qa),(hW qf)]) (by first | exact qy.h | rfl | (simp [sy,I.settle];done)) ?_
    (conv=>whnf);obtain ⟨eL,rp,h⟩:=qm h;refine ⟨qw.pl,_,KS rp,Ib rfl,?_⟩;(conv=>whnf);subst rP;unfold r4;(conv=>whnf);refine bs h (fun qP h=>?_) fun qP h=>?_
    ·rw [qP];(conv=>whnf);refine Es (x:=ar.cells [(hW qa),(hW qf)]) (by first | exact qy.h | rfl | (simp [sy,I.settle];done)) ?_
     (conv=>whnf);obtain ⟨rq,h⟩:=qC h;refine ⟨by first | rfl | (simp;done) | exact rz p0 _ qv _,by have:=rq;omega,rfl,rq,?_⟩
     erw [rK p0 qj (qa,qf)];(conv=>whnf);subst ri;unfold rG;(conv=>whnf);exact ⟨m,sA m,(qj++[(qa,qf)]),(w (qf+(1:Int))),_,rfl,rfl,h⟩
    ·rw [qP];(conv=>whnf);subst ri;unfold rG;(conv=>whnf);exact ⟨m,sA m,qj,(w (qf+(1:Int))),_,rfl,rfl,h⟩
  ·(conv=>whnf);replace h:=Hm rfl h;subst rP;unfold r4;(conv=>whnf);subst ri;unfold rG;(conv=>whnf);exact ⟨m,sA m,qj,(w (qf+(1:Int))),_,rfl,rfl,h⟩
 ·rw [qs];conv=>whnf
  exact J' _ _ _ h ⟨rfl,rfl⟩
theorem ak8 {b:qn} {G':p8} {p':p8} {rk:p8→Option qh} {q_:p8} {qa:Int} {p_:qt} {s1:qh} {qu:Int} {v:qh} {Q:rf}  {Ik:List ar} (I3:∀ (oJ:p8) (ql:List ar) (p7:List I),rk oJ=some v→qQ 99 [(1,(.ax (p_.map qO) p_.length .shared)),(2,(.ptr 0 0)),(5,(.ax (s1.map (qk p0)) s1.length (.uniq 1))),(6,(p4 G' (.own 2))),(7,(hW qu)),(8,(p4 p' (.own 2))),(9,(p4 oJ (.uniq 2)))] p7→Q (.exit 4) p7 (qD b::ql)) {T:List I} (bX:e0 (qb false [1,2,2,6,88]) T=Hc 99 [(1,(.ax (p_.map qO) p_.length .shared)),(2,(.ptr 0 0)),(5,(.ax (s1.map (qk p0)) s1.length (.uniq 1))),(6,(p4 G' (.own 2))),(7,(hW qu)),(8,(p4 p' (.own 2))),(9,(p4 q_ (.uniq 2))),(10,(hW qa))]) (h:IE b G' p' rk qc q_ qa=some v) :
  dR Tryz.prog HT 50 0 none JJ T (qD b::Ik) Q:=by
 unfold JJ;obtain ⟨Sf,Jx⟩:∃ c,Kq=c:=⟨_,rfl⟩;rw [Jx];refine wp_loop bX ?_;refine .intro (fun m T H=>∃ (q_:p8) (qa:Int) (ss:List ar),T=Hc 99 [(1,(.ax (p_.map qO) p_.length .shared)),(2,(.ptr 0 0)),(5,(.ax (s1.map (qk p0)) s1.length (.uniq 1))),(6,(p4 G' (.own 2))),(7,(hW qu)),(8,(p4 p' (.own 2))),(9,(p4 q_ (.uniq 2))),(10,(hW qa))]∧H=(qD b::ss)∧IE b G' p' rk m q_ qa=some v) qc ⟨q_,qa,Ik,rfl,rfl,h⟩ ?_;clear h bX;rintro m T H ⟨q_,qa,ss,rfl,rfl,h⟩;cases m
 ·exact rj h
 rename_i m;rw [IE.eq_2] at h;conv=>whnf
 refine bs h (fun gH h=>?_) fun gH h=>?_
 ·rw [gH];conv=>whnf
  subst Jx;unfold Kq;obtain ⟨Of,H3⟩:∃ c,I6=c:=⟨_,rfl⟩;rw [H3];obtain ⟨Og,Iq⟩:∃ c,JI=c:=⟨_,rfl⟩;rw [Iq];conv=>whnf
  subst Iq;unfold JI;obtain ⟨Oi,Ir⟩:∃ c,H_=c:=⟨_,rfl⟩;rw [Ir];conv=>whnf
  subst Ir;refine alc ?_ (by exact rfl) h;intro yh ql p7 h qe;obtain ⟨qG,rfl⟩:=qe.ex;conv=>whnf
  subst H3;unfold I6;conv=>whnf
  exact ⟨m,sA m,yh,(w (qa+(1:Int))),_,rfl,rfl,h⟩
 ·rw [gH];conv=>whnf
  exact I3 _ _ _ h ⟨rfl,rfl⟩
theorem aa9 {G':p8} {p':p8} {oJ:p8} {H8:p8→Int→p8→Option qh} {dB:Int} {dq:Int} {b:qn} {p_:qt} {s1:qh} {v:qh} {Q:rf} {ql:List ar} {p7:List I}  (J_:∀ (Gx:p8) (rU:Int) (rH:p8) (ql:List ar) (p7:List I),H8 Gx rU rH=some v→qQ 99 [(1,(.ax (p_.map qO) p_.length .shared)),(2,(.ptr 0 0)),(5,(.ax (s1.map (qk p0)) s1.length (.uniq 1))),(6,(p4 Gx (.own 2))),(7,(hW rU)),(8,(p4 rH (.own 2)))] p7→Q .normal p7 (qD b::ql)) (qe:qQ 99 [(1,(.ax (p_.map qO) p_.length .shared)),(2,(.ptr 0 0)),(5,(.ax (s1.map (qk p0)) s1.length (.uniq 1))),(6,(p4 G' (.own 2))),(7,(hW dB)),(8,(p4 p' (.own 2))),(9,(p4 oJ (.own 2))),(13,(hW dq))] p7) (h:Ih G' p' oJ H8 dB dq=some v) :
  dR Tryz.prog HT 50 0 none Ia p7 (qD b::ql) Q:=by
 obtain ⟨qG,rfl⟩:=qe.ex;unfold Ih at h;unfold Ia;conv=>whnf
 refine qx h id fun Ix h=>?_;rw [qX p0 2 qv oJ dq Ix];conv=>whnf
 obtain ⟨sg,h⟩:=qC h;refine ⟨by first | rfl | (simp;done) | exact rz p0 _ qv _,by have:=sg;omega,rfl,sg,?_⟩
 erw [rK p0 p' (ix oJ dq)];conv=>whnf
 refine qx h id fun H7 h=>?_;rw [qX p0 2 qv oJ dq H7];conv=>whnf
 obtain ⟨Hn,h⟩:=qC h;refine ⟨by first | rfl | (simp;done) | exact rz p0 _ qv _,by have:=Hn;omega,rfl,Hn,?_⟩
 erw [rK p0 G' (ix oJ dq)];conv=>whnf
 exact J_ _ _ _ _ _ h ⟨rfl,rfl⟩
theorem ak3 {b:qn} {p_:qt} {qM:p8→Int→p8→Option qh} {G':p8} {qu:Int} {p':p8} {s1:qh} {v:qh} {Q:rf}  {Lk:List ar} {q9:hv} (Ie:∀ (Gx:p8) (rU:Int) (rH:p8) (ql:List ar) (p7:List I),qM Gx rU rH=some v→qQ 99 [(1,(.ax (p_.map qO) p_.length .shared)),(2,(.ptr 0 0)),(5,(.ax (s1.map (qk p0)) s1.length (.uniq 1))),(6,(p4 Gx (.own 2))),(7,(hW rU)),(8,(p4 rH (.uniq 2)))] p7→Q (.exit 2) p7 (qD b::ql)) (Mj:∀ (Gx:p8) (rU:Int) (rH:p8) (ql:List ar) (p7:List I),qM Gx rU rH=some v→qQ 99 [(1,(.ax (p_.map qO) p_.length .shared)),(2,(.ptr 0 0)),(5,(.ax (s1.map (qk p0)) s1.length (.uniq 1))),(6,(p4 Gx (.own 2))),(7,(hW rU)),(8,(p4 rH (.own 2)))] p7→Q (.exit 2) p7 (qD b::ql)) (HG:(q9=(.uniq 2)∨q9=(.own 2))) {T:List I} (bX:e0 (qb false [1,2,2,4,90]) T=Hc 99 [(1,(.ax (p_.map qO) p_.length .shared)),(2,(.ptr 0 0)),(5,(.ax (s1.map (qk p0)) s1.length (.uniq 1))),(6,(p4 G' (.own 2))),(7,(hW qu)),(8,(.ax (p'.flatMap p0) p'.length q9))]) (h:Jo b p_ qM qc G' qu p'=some v) :
  dR Tryz.prog HT 50 0 none MW T (qD b::Lk) Q:=by
 unfold MW;obtain ⟨adO,Mb⟩:∃ c,MY=c:=⟨_,rfl⟩;rw [Mb];refine wp_loop bX ?_;refine .intro (fun m T H=>∃ (G':p8) (qu:Int) (p':p8) (Ik:List ar) (q9:hv),(q9=(.uniq 2)∨q9=(.own 2))∧T=Hc 99 [(1,(.ax (p_.map qO) p_.length .shared)),(2,(.ptr 0 0)),(5,(.ax (s1.map (qk p0)) s1.length (.uniq 1))),(6,(p4 G' (.own 2))),(7,(hW qu)),(8,(.ax (p'.flatMap p0) p'.length q9))]∧H=(qD b::Ik)∧Jo b p_ qM m G' qu p'=some v) qc ⟨G',qu,p',Lk,_,HG,rfl,rfl,h⟩ ?_;clear h bX;rintro m T H ⟨G',qu,p',Ik,q9,HG,rfl,rfl,h⟩;cases m
 ·exact rj h
 rename_i m;rw [Jo.eq_2] at h;rcases HG with rfl | rfl
 ·conv=>whnf
  subst Mb;unfold MY;obtain ⟨Sd,Jw⟩:∃ c,Kp=c:=⟨_,rfl⟩;rw [Jw];obtain ⟨Se,J6⟩:∃ c,Le=c:=⟨_,rfl⟩;rw [J6];conv=>whnf
  subst J6;unfold Le;obtain ⟨Sg,J7⟩:∃ c,JJ=c:=⟨_,rfl⟩;rw [J7];conv=>whnf
  subst J7;refine ak5 ?_ ?_ (.inl rfl) (by exact rfl) h
  ·intro oJ ql p7 h qe;obtain ⟨qG,rfl⟩:=qe.ex;(conv=>whnf);subst Jw;unfold Kp;obtain ⟨Oj,Is⟩:∃ c,JK=c:=⟨_,rfl⟩;rw [Is];(conv=>whnf);refine bs h (fun rV h=>?_) fun rV h=>?_
   ·rw [rV];(conv=>whnf);exact Ie _ _ _ _ _ h ⟨rfl,rfl⟩
   ·rw [rV];(conv=>whnf);subst Is;unfold JK;obtain ⟨Ol,It⟩:∃ c,JL=c:=⟨_,rfl⟩;rw [It];(conv=>whnf);subst It;unfold JL;obtain ⟨Om,Iu⟩:∃ c,JM=c:=⟨_,rfl⟩;rw [Iu];obtain ⟨Oo,HE⟩:∃ c,Ia=c:=⟨_,rfl⟩;rw [HE];(conv=>whnf);subst Iu;unfold JM;obtain ⟨On,Iv⟩:∃ c,JN=c:=⟨_,rfl⟩;rw [Iv];(conv=>whnf);refine bs h (fun rD h=>?_) fun rD h=>?_
    ·rw [rD];(conv=>whnf);refine qx h id fun HF h=>?_;(conv=>whnf);refine qx h id fun IK h=>?_;rw [se qO p_ (qu.tmod (p_.length:Int)) IK];(conv=>whnf);refine qx h id fun HV h=>?_;(conv=>whnf);subst Iv;unfold JN;(conv=>whnf);subst HE;refine aa5 ?_ (by exact ⟨rfl,rfl⟩) h;intro r0 si HJ ql p7 h qe;obtain ⟨qG,rfl⟩:=qe.ex;(conv=>whnf);exact ⟨m,sA m,r0,si,HJ,_,_,(.inl rfl),rfl,rfl,h⟩
    ·rw [rD];(conv=>whnf);subst HE;refine aa5 ?_ (by exact ⟨rfl,rfl⟩) h;intro r0 si HJ ql p7 h qe;obtain ⟨qG,rfl⟩:=qe.ex;(conv=>whnf);exact ⟨m,sA m,r0,si,HJ,_,_,(.inl rfl),rfl,rfl,h⟩
  ·intro oJ ql p7 h qe;obtain ⟨qG,rfl⟩:=qe.ex;(conv=>whnf);subst Jw;unfold Kp;obtain ⟨Oj,Is⟩:∃ c,JK=c:=⟨_,rfl⟩;rw [Is];(conv=>whnf);refine bs h (fun HW h=>?_) fun HW h=>?_
   ·rw [HW];(conv=>whnf);exact Mj _ _ _ _ _ h ⟨rfl,rfl⟩
   ·rw [HW];(conv=>whnf);subst Is;unfold JK;obtain ⟨Ol,It⟩:∃ c,JL=c:=⟨_,rfl⟩;rw [It];(conv=>whnf);subst It;unfold JL;obtain ⟨Om,Iu⟩:∃ c,JM=c:=⟨_,rfl⟩;rw [Iu];obtain ⟨Oo,HE⟩:∃ c,Ia=c:=⟨_,rfl⟩;rw [HE];(conv=>whnf);subst Iu;unfold JM;obtain ⟨On,Iv⟩:∃ c,JN=c:=⟨_,rfl⟩;rw [Iv];(conv=>whnf);refine bs h (fun HO h=>?_) fun HO h=>?_
    ·rw [HO];(conv=>whnf);refine qx h id fun Jz h=>?_;(conv=>whnf);refine qx h id fun JV h=>?_;rw [se qO p_ (qu.tmod (p_.length:Int)) JV];(conv=>whnf);refine qx h id fun JW h=>?_;(conv=>whnf);subst Iv;unfold JN;(conv=>whnf);subst HE;refine aa_ ?_ (by exact ⟨rfl,rfl⟩) h;intro JO IG HR ql p7 h qe;obtain ⟨qG,rfl⟩:=qe.ex;(conv=>whnf);exact ⟨m,sA m,JO,IG,HR,_,_,(.inr rfl),rfl,rfl,h⟩
    ·rw [HO];(conv=>whnf);subst HE;refine aa_ ?_ (by exact ⟨rfl,rfl⟩) h;intro JO IG HR ql p7 h qe;obtain ⟨qG,rfl⟩:=qe.ex;(conv=>whnf);exact ⟨m,sA m,JO,IG,HR,_,_,(.inr rfl),rfl,rfl,h⟩
 ·conv=>whnf
  subst Mb;unfold MY;obtain ⟨Sd,Jw⟩:∃ c,Kp=c:=⟨_,rfl⟩;rw [Jw];obtain ⟨Se,J6⟩:∃ c,Le=c:=⟨_,rfl⟩;rw [J6];conv=>whnf
  subst J6;unfold Le;obtain ⟨Sg,J7⟩:∃ c,JJ=c:=⟨_,rfl⟩;rw [J7];conv=>whnf
  subst J7;refine ak8 ?_ (by exact rfl) h;intro oJ ql p7 h qe;obtain ⟨qG,rfl⟩:=qe.ex;conv=>whnf
  subst Jw;unfold Kp;obtain ⟨Oj,Is⟩:∃ c,JK=c:=⟨_,rfl⟩;rw [Is];conv=>whnf
  refine bs h (fun rV h=>?_) fun rV h=>?_
  ·rw [rV];(conv=>whnf);exact Mj _ _ _ _ _ h ⟨rfl,rfl⟩
  ·rw [rV];(conv=>whnf);subst Is;unfold JK;obtain ⟨Ol,It⟩:∃ c,JL=c:=⟨_,rfl⟩;rw [It];(conv=>whnf);subst It;unfold JL;obtain ⟨Om,Iu⟩:∃ c,JM=c:=⟨_,rfl⟩;rw [Iu];obtain ⟨Oo,HE⟩:∃ c,Ia=c:=⟨_,rfl⟩;rw [HE];(conv=>whnf);subst Iu;unfold JM;obtain ⟨On,Iv⟩:∃ c,JN=c:=⟨_,rfl⟩;rw [Iv];(conv=>whnf);refine bs h (fun rD h=>?_) fun rD h=>?_
   ·rw [rD];(conv=>whnf);refine qx h id fun HF h=>?_;(conv=>whnf);refine qx h id fun IK h=>?_;rw [se qO p_ (qu.tmod (p_.length:Int)) IK];(conv=>whnf);refine qx h id fun HV h=>?_;(conv=>whnf);subst Iv;unfold JN;(conv=>whnf);subst HE;refine aa9 ?_ (by exact ⟨rfl,rfl⟩) h;intro Gx rU rH ql p7 h qe;obtain ⟨qG,rfl⟩:=qe.ex;(conv=>whnf);exact ⟨m,sA m,Gx,rU,rH,_,_,(.inr rfl),rfl,rfl,h⟩
   ·rw [rD];(conv=>whnf);subst HE;refine aa9 ?_ (by exact ⟨rfl,rfl⟩) h;intro Gx rU rH ql p7 h qe;obtain ⟨qG,rfl⟩:=qe.ex;(conv=>whnf);exact ⟨m,sA m,Gx,rU,rH,_,_,(.inr rfl),rfl,rfl,h⟩
theorem ak_ {b:qn} {G':p8} {p':p8} {qa:Int} {sd:p8→Option qh} {qj:p8} {qf:Int} {p_:qt} {s1:qh} {qu:Int} {v:qh} {Q:rf}  {ss:List ar} {q9:hv} (J':∀ (yh:p8) (ql:List ar) (p7:List I),sd yh=some v→qQ 99 [(1,(.ax (p_.map qO) p_.length .shared)),(2,(.ptr 0 0)),(5,(.ax (s1.map (qk p0)) s1.length (.uniq 1))),(6,(p4 G' (.own 2))),(7,(hW qu)),(8,(p4 p' (.uniq 2))),(9,(p4 yh (.uniq 2))),(10,(hW qa))] p7→Q (.exit 6) p7 (qD b::ql)) (Ti:∀ (yh:p8) (ql:List ar) (p7:List I),sd yh=some v→qQ 99 [(1,(.ax (p_.map qO) p_.length .shared)),(2,(.ptr 0 0)),(5,(.ax (s1.map (qk p0)) s1.length (.uniq 1))),(6,(p4 G' (.own 2))),(7,(hW qu)),(8,(p4 p' (.own 2))),(9,(p4 yh (.uniq 2))),(10,(hW qa))] p7→Q (.exit 6) p7 (qD b::ql)) (HG:(q9=(.uniq 2)∨q9=(.own 2))) {T:List I} (bX:e0 (qb false [1,2,2,7,87]) T=Hc 99 [(1,(.ax (p_.map qO) p_.length .shared)),(2,(.ptr 0 0)),(5,(.ax (s1.map (qk p0)) s1.length (.uniq 1))),(6,(p4 G' (.own 2))),(7,(hW qu)),(8,(.ax (p'.flatMap p0) p'.length q9)),(9,(p4 qj (.uniq 2))),(10,(hW qa)),(11,(hW qf))]) (h:Ht b G' p' qa sd qc qj qf=some v) :
  dR Tryz.prog HT 50 0 none H_ T (qD b::ss) Q:=by
 unfold H_;obtain ⟨Oh,H4⟩:∃ c,I7=c:=⟨_,rfl⟩;rw [H4];refine wp_loop bX ?_;refine .intro (fun m T H=>∃ (qj:p8) (qf:Int) (Ij:List ar) (q9:hv),(q9=(.uniq 2)∨q9=(.own 2))∧T=Hc 99 [(1,(.ax (p_.map qO) p_.length .shared)),(2,(.ptr 0 0)),(5,(.ax (s1.map (qk p0)) s1.length (.uniq 1))),(6,(p4 G' (.own 2))),(7,(hW qu)),(8,(.ax (p'.flatMap p0) p'.length q9)),(9,(p4 qj (.uniq 2))),(10,(hW qa)),(11,(hW qf))]∧H=(qD b::Ij)∧Ht b G' p' qa sd m qj qf=some v) qc ⟨qj,qf,ss,_,HG,rfl,rfl,h⟩ ?_;clear h bX;rintro m T H ⟨qj,qf,Ij,q9,HG,rfl,rfl,h⟩;cases m
 ·exact rj h
 rename_i m;rw [Ht.eq_2] at h;rcases HG with rfl | rfl
 ·conv=>whnf
  refine bs h (fun qs h=>?_) fun qs h=>?_
  ·rw [qs];(conv=>whnf);subst H4;unfold I7;obtain ⟨L4,ri⟩:∃ c,rG=c:=⟨_,rfl⟩;rw [ri];obtain ⟨L5,HD⟩:∃ c,IF=c:=⟨_,rfl⟩;rw [HD];(conv=>whnf);refine Es (x:=ar.cells [(hW (0:Int)),(hW (0:Int))]) (by first | exact qy.h | rfl | (simp [sy,I.settle];done)) ?_
   (conv=>whnf);rw [rB];subst HD;unfold IF;obtain ⟨L6,rP⟩:∃ c,r4=c:=⟨_,rfl⟩;rw [rP];(conv=>whnf);obtain ⟨aT,qF,h⟩:=qm h;refine ⟨qw.pl,_,Kn qF,HS,?_⟩;(conv=>whnf);cases aT
   ·(conv=>whnf);replace h:=Hl rfl h;refine bs h (fun qH h=>?_) fun qH h=>?_
    ·rw [qH];(conv=>whnf);subst rP;unfold r4;(conv=>whnf);refine Es (x:=ar.cells [(hW qa),(hW qf)]) (by first | exact qy.h | rfl | (simp [sy,I.settle];done)) ?_
     (conv=>whnf);obtain ⟨ra,h⟩:=qC h;refine ⟨by first | rfl | (simp;done) | exact rz p0 _ qv _,by have:=ra;omega,rfl,ra,?_⟩
     erw [rK p0 qj (qa,qf)];(conv=>whnf);subst ri;unfold rG;(conv=>whnf);exact ⟨m,sA m,(qj++[(qa,qf)]),(w (qf+(1:Int))),_,_,(.inr rfl),rfl,rfl,h⟩
    ·rw [qH];(conv=>whnf);refine qx h id fun q7 h=>?_;rw [qX p0 2 qv p' (w ((p'.length:Int)-(1:Int))) q7];(conv=>whnf);obtain ⟨r2,q8,h⟩:=qm h;refine ⟨qw.pl,_,KU q8,Ib rfl,?_⟩;(conv=>whnf);refine Es (x:=ar.cells [(hW qa),(hW qf)]) (by first | exact qy.h | rfl | (simp [sy,I.settle];done)) ?_
     (conv=>whnf);obtain ⟨eL,rp,h⟩:=qm h;refine ⟨qw.pl,_,KS rp,Ib rfl,?_⟩;(conv=>whnf);subst rP;unfold r4;(conv=>whnf);refine bs h (fun qP h=>?_) fun qP h=>?_
     ·rw [qP];(conv=>whnf);refine Es (x:=ar.cells [(hW qa),(hW qf)]) (by first | exact qy.h | rfl | (simp [sy,I.settle];done)) ?_
      (conv=>whnf);obtain ⟨rq,h⟩:=qC h;refine ⟨by first | rfl | (simp;done) | exact rz p0 _ qv _,by have:=rq;omega,rfl,rq,?_⟩
      erw [rK p0 qj (qa,qf)];(conv=>whnf);subst ri;unfold rG;(conv=>whnf);exact ⟨m,sA m,(qj++[(qa,qf)]),(w (qf+(1:Int))),_,_,(.inr rfl),rfl,rfl,h⟩
     ·rw [qP];(conv=>whnf);subst ri;unfold rG;(conv=>whnf);exact ⟨m,sA m,qj,(w (qf+(1:Int))),_,_,(.inr rfl),rfl,rfl,h⟩
   ·(conv=>whnf);replace h:=Hm rfl h;subst rP;unfold r4;(conv=>whnf);subst ri;unfold rG;(conv=>whnf);exact ⟨m,sA m,qj,(w (qf+(1:Int))),_,_,(.inl rfl),rfl,rfl,h⟩
  ·rw [qs];(conv=>whnf);exact J' _ _ _ h ⟨rfl,rfl⟩
 ·conv=>whnf
  refine bs h (fun qs h=>?_) fun qs h=>?_
  ·rw [qs];(conv=>whnf);subst H4;unfold I7;obtain ⟨L4,ri⟩:∃ c,rG=c:=⟨_,rfl⟩;rw [ri];obtain ⟨L5,HD⟩:∃ c,IF=c:=⟨_,rfl⟩;rw [HD];(conv=>whnf);refine Es (x:=ar.cells [(hW (0:Int)),(hW (0:Int))]) (by first | exact qy.h | rfl | (simp [sy,I.settle];done)) ?_
   (conv=>whnf);rw [rB];subst HD;unfold IF;obtain ⟨L6,rP⟩:∃ c,r4=c:=⟨_,rfl⟩;rw [rP];(conv=>whnf);obtain ⟨aT,qF,h⟩:=qm h;refine ⟨qw.pl,_,Kn qF,HS,?_⟩;(conv=>whnf);cases aT
   ·(conv=>whnf);replace h:=Hl rfl h;refine bs h (fun qH h=>?_) fun qH h=>?_
    ·rw [qH];(conv=>whnf);subst rP;unfold r4;(conv=>whnf);refine Es (x:=ar.cells [(hW qa),(hW qf)]) (by first | exact qy.h | rfl | (simp [sy,I.settle];done)) ?_
     (conv=>whnf);obtain ⟨ra,h⟩:=qC h;refine ⟨by first | rfl | (simp;done) | exact rz p0 _ qv _,by have:=ra;omega,rfl,ra,?_⟩
     erw [rK p0 qj (qa,qf)];(conv=>whnf);subst ri;unfold rG;(conv=>whnf);exact ⟨m,sA m,(qj++[(qa,qf)]),(w (qf+(1:Int))),_,_,(.inr rfl),rfl,rfl,h⟩
    ·rw [qH];(conv=>whnf);refine qx h id fun q7 h=>?_;rw [qX p0 2 qv p' (w ((p'.length:Int)-(1:Int))) q7];(conv=>whnf);obtain ⟨r2,q8,h⟩:=qm h;refine ⟨qw.pl,_,KU q8,Ib rfl,?_⟩;(conv=>whnf);refine Es (x:=ar.cells [(hW qa),(hW qf)]) (by first | exact qy.h | rfl | (simp [sy,I.settle];done)) ?_
     (conv=>whnf);obtain ⟨eL,rp,h⟩:=qm h;refine ⟨qw.pl,_,KS rp,Ib rfl,?_⟩;(conv=>whnf);subst rP;unfold r4;(conv=>whnf);refine bs h (fun qP h=>?_) fun qP h=>?_
     ·rw [qP];(conv=>whnf);refine Es (x:=ar.cells [(hW qa),(hW qf)]) (by first | exact qy.h | rfl | (simp [sy,I.settle];done)) ?_
      (conv=>whnf);obtain ⟨rq,h⟩:=qC h;refine ⟨by first | rfl | (simp;done) | exact rz p0 _ qv _,by have:=rq;omega,rfl,rq,?_⟩
      erw [rK p0 qj (qa,qf)];(conv=>whnf);subst ri;unfold rG;(conv=>whnf);exact ⟨m,sA m,(qj++[(qa,qf)]),(w (qf+(1:Int))),_,_,(.inr rfl),rfl,rfl,h⟩
     ·rw [qP];(conv=>whnf);subst ri;unfold rG;(conv=>whnf);exact ⟨m,sA m,qj,(w (qf+(1:Int))),_,_,(.inr rfl),rfl,rfl,h⟩
   ·(conv=>whnf);replace h:=Hm rfl h;subst rP;unfold r4;(conv=>whnf);subst ri;unfold rG;(conv=>whnf);exact ⟨m,sA m,qj,(w (qf+(1:Int))),_,_,(.inr rfl),rfl,rfl,h⟩
  ·rw [qs];(conv=>whnf);exact Ti _ _ _ h ⟨rfl,rfl⟩
theorem alb {b:qn} {G':p8} {p':p8} {qa:Int} {sd:p8→Option qh} {qj:p8} {qf:Int} {p_:qt} {s1:qh} {qu:Int} {v:qh} {Q:rf}  {ss:List ar} (J':∀ (yh:p8) (ql:List ar) (p7:List I),sd yh=some v→qQ 99 [(1,(.ax (p_.map qO) p_.length .shared)),(2,(.ptr 0 0)),(5,(.ax (s1.map (qk p0)) s1.length (.uniq 1))),(6,(p4 G' (.own 2))),(7,(hW qu)),(8,(p4 p' (.own 2))),(9,(p4 yh (.uniq 2))),(10,(hW qa))] p7→Q (.exit 6) p7 (qD b::ql)) {T:List I} (bX:e0 (qb false [1,2,2,7,87]) T=Hc 99 [(1,(.ax (p_.map qO) p_.length .shared)),(2,(.ptr 0 0)),(5,(.ax (s1.map (qk p0)) s1.length (.uniq 1))),(6,(p4 G' (.own 2))),(7,(hW qu)),(8,(p4 p' (.own 2))),(9,(p4 qj (.uniq 2))),(10,(hW qa)),(11,(hW qf))]) (h:Ht b G' p' qa sd qc qj qf=some v) :
  dR Tryz.prog HT 50 0 none H_ T (qD b::ss) Q:=by
 unfold H_;obtain ⟨Oh,H4⟩:∃ c,I7=c:=⟨_,rfl⟩;rw [H4];refine wp_loop bX ?_;refine .intro (fun m T H=>∃ (qj:p8) (qf:Int) (Ij:List ar),T=Hc 99 [(1,(.ax (p_.map qO) p_.length .shared)),(2,(.ptr 0 0)),(5,(.ax (s1.map (qk p0)) s1.length (.uniq 1))),(6,(p4 G' (.own 2))),(7,(hW qu)),(8,(p4 p' (.own 2))),(9,(p4 qj (.uniq 2))),(10,(hW qa)),(11,(hW qf))]∧H=(qD b::Ij)∧Ht b G' p' qa sd m qj qf=some v) qc ⟨qj,qf,ss,rfl,rfl,h⟩ ?_;clear h bX;rintro m T H ⟨qj,qf,Ij,rfl,rfl,h⟩;cases m
 ·exact rj h
 rename_i m;rw [Ht.eq_2] at h;conv=>whnf
 refine bs h (fun qs h=>?_) fun qs h=>?_
 ·rw [qs];conv=>whnf
  subst H4;unfold I7;obtain ⟨L4,ri⟩:∃ c,rG=c:=⟨_,rfl⟩;rw [ri];obtain ⟨L5,HD⟩:∃ c,IF=c:=⟨_,rfl⟩;rw [HD];conv=>whnf
  refine Es (x:=ar.cells [(hW (0:Int)),(hW (0:Int))]) (by first | exact qy.h | rfl | (simp [sy,I.settle];done)) ?_
  conv=>whnf
  rw [rB];subst HD;unfold IF;obtain ⟨L6,rP⟩:∃ c,r4=c:=⟨_,rfl⟩;rw [rP];conv=>whnf
  obtain ⟨aT,qF,h⟩:=qm h;refine ⟨qw.pl,_,Kn qF,HS,?_⟩;conv=>whnf
  cases aT
  ·(conv=>whnf);replace h:=Hl rfl h;refine bs h (fun qH h=>?_) fun qH h=>?_
   ·rw [qH];(conv=>whnf);subst rP;unfold r4;(conv=>whnf);refine Es (x:=ar.cells [(hW qa),(hW qf)]) (by first | exact qy.h | rfl | (simp [sy,I.settle];done)) ?_
    (conv=>whnf);obtain ⟨ra,h⟩:=qC h;refine ⟨by first | rfl | (simp;done) | exact rz p0 _ qv _,by have:=ra;omega,rfl,ra,?_⟩
    erw [rK p0 qj (qa,qf)];(conv=>whnf);subst ri;unfold rG;(conv=>whnf);exact ⟨m,sA m,(qj++[(qa,qf)]),(w (qf+(1:Int))),_,rfl,rfl,h⟩
   ·rw [qH];(conv=>whnf);refine qx h id fun q7 h=>?_;rw [qX p0 2 qv p' (w ((p'.length:Int)-(1:Int))) q7];(conv=>whnf);obtain ⟨r2,q8,h⟩:=qm h;refine ⟨qw.pl,_,KU q8,Ib rfl,?_⟩;(conv=>whnf);refine Es (x:=ar.cells [(hW qa),(hW qf)]) (by first | exact qy.h | rfl | (simp [sy,I.settle];done)) ?_
    (conv=>whnf);obtain ⟨eL,rp,h⟩:=qm h;refine ⟨qw.pl,_,KS rp,Ib rfl,?_⟩;(conv=>whnf);subst rP;unfold r4;(conv=>whnf);refine bs h (fun qP h=>?_) fun qP h=>?_
    ·rw [qP];(conv=>whnf);refine Es (x:=ar.cells [(hW qa),(hW qf)]) (by first | exact qy.h | rfl | (simp [sy,I.settle];done)) ?_
     (conv=>whnf);obtain ⟨rq,h⟩:=qC h;refine ⟨by first | rfl | (simp;done) | exact rz p0 _ qv _,by have:=rq;omega,rfl,rq,?_⟩
     erw [rK p0 qj (qa,qf)];(conv=>whnf);subst ri;unfold rG;(conv=>whnf);exact ⟨m,sA m,(qj++[(qa,qf)]),(w (qf+(1:Int))),_,rfl,rfl,h⟩
    ·rw [qP];(conv=>whnf);subst ri;unfold rG;(conv=>whnf);exact ⟨m,sA m,qj,(w (qf+(1:Int))),_,rfl,rfl,h⟩
  ·(conv=>whnf);replace h:=Hm rfl h;subst rP;unfold r4;(conv=>whnf);subst ri;unfold rG;(conv=>whnf);exact ⟨m,sA m,qj,(w (qf+(1:Int))),_,rfl,rfl,h⟩
 ·rw [qs];conv=>whnf
  exact J' _ _ _ h ⟨rfl,rfl⟩
theorem ak6 {b:qn} {G':p8} {p':p8} {rk:p8→Option qh} {q_:p8} {qa:Int} {p_:qt} {s1:qh} {qu:Int} {v:qh} {Q:rf}  {Ik:List ar} {q9:hv} (I3:∀ (oJ:p8) (ql:List ar) (p7:List I),rk oJ=some v→qQ 99 [(1,(.ax (p_.map qO) p_.length .shared)),(2,(.ptr 0 0)),(5,(.ax (s1.map (qk p0)) s1.length (.uniq 1))),(6,(p4 G' (.own 2))),(7,(hW qu)),(8,(p4 p' (.uniq 2))),(9,(p4 oJ (.uniq 2)))] p7→Q (.exit 4) p7 (qD b::ql)) (OL:∀ (oJ:p8) (ql:List ar) (p7:List I),rk oJ=some v→qQ 99 [(1,(.ax (p_.map qO) p_.length .shared)),(2,(.ptr 0 0)),(5,(.ax (s1.map (qk p0)) s1.length (.uniq 1))),(6,(p4 G' (.own 2))),(7,(hW qu)),(8,(p4 p' (.own 2))),(9,(p4 oJ (.uniq 2)))] p7→Q (.exit 4) p7 (qD b::ql)) (HG:(q9=(.uniq 2)∨q9=(.own 2))) {T:List I} (bX:e0 (qb false [1,2,2,6,88]) T=Hc 99 [(1,(.ax (p_.map qO) p_.length .shared)),(2,(.ptr 0 0)),(5,(.ax (s1.map (qk p0)) s1.length (.uniq 1))),(6,(p4 G' (.own 2))),(7,(hW qu)),(8,(.ax (p'.flatMap p0) p'.length q9)),(9,(p4 q_ (.uniq 2))),(10,(hW qa))]) (h:IE b G' p' rk qc q_ qa=some v) :
  dR Tryz.prog HT 50 0 none JJ T (qD b::Ik) Q:=by
 unfold JJ;obtain ⟨Sf,Jx⟩:∃ c,Kq=c:=⟨_,rfl⟩;rw [Jx];refine wp_loop bX ?_;refine .intro (fun m T H=>∃ (q_:p8) (qa:Int) (ss:List ar) (q9:hv),(q9=(.uniq 2)∨q9=(.own 2))∧T=Hc 99 [(1,(.ax (p_.map qO) p_.length .shared)),(2,(.ptr 0 0)),(5,(.ax (s1.map (qk p0)) s1.length (.uniq 1))),(6,(p4 G' (.own 2))),(7,(hW qu)),(8,(.ax (p'.flatMap p0) p'.length q9)),(9,(p4 q_ (.uniq 2))),(10,(hW qa))]∧H=(qD b::ss)∧IE b G' p' rk m q_ qa=some v) qc ⟨q_,qa,Ik,_,HG,rfl,rfl,h⟩ ?_;clear h bX;rintro m T H ⟨q_,qa,ss,q9,HG,rfl,rfl,h⟩;cases m
 ·exact rj h
 rename_i m;rw [IE.eq_2] at h;rcases HG with rfl | rfl
 ·conv=>whnf
  refine bs h (fun gH h=>?_) fun gH h=>?_
  ·rw [gH];(conv=>whnf);subst Jx;unfold Kq;obtain ⟨Of,H3⟩:∃ c,I6=c:=⟨_,rfl⟩;rw [H3];obtain ⟨Og,Iq⟩:∃ c,JI=c:=⟨_,rfl⟩;rw [Iq];(conv=>whnf);subst Iq;unfold JI;obtain ⟨Oi,Ir⟩:∃ c,H_=c:=⟨_,rfl⟩;rw [Ir];(conv=>whnf);subst Ir;refine ak_ ?_ ?_ (.inl rfl) (by exact rfl) h
   ·intro yh ql p7 h qe;obtain ⟨qG,rfl⟩:=qe.ex;(conv=>whnf);subst H3;unfold I6;(conv=>whnf);exact ⟨m,sA m,yh,(w (qa+(1:Int))),_,_,(.inl rfl),rfl,rfl,h⟩
   ·intro yh ql p7 h qe;obtain ⟨qG,rfl⟩:=qe.ex;(conv=>whnf);subst H3;unfold I6;(conv=>whnf);exact ⟨m,sA m,yh,(w (qa+(1:Int))),_,_,(.inr rfl),rfl,rfl,h⟩
  ·rw [gH];(conv=>whnf);exact I3 _ _ _ h ⟨rfl,rfl⟩
 ·conv=>whnf
  refine bs h (fun gH h=>?_) fun gH h=>?_
  ·rw [gH];(conv=>whnf);subst Jx;unfold Kq;obtain ⟨Of,H3⟩:∃ c,I6=c:=⟨_,rfl⟩;rw [H3];obtain ⟨Og,Iq⟩:∃ c,JI=c:=⟨_,rfl⟩;rw [Iq];(conv=>whnf);subst Iq;unfold JI;obtain ⟨Oi,Ir⟩:∃ c,H_=c:=⟨_,rfl⟩;rw [Ir];(conv=>whnf);subst Ir;refine alb ?_ (by exact rfl) h;intro yh ql p7 h qe;obtain ⟨qG,rfl⟩:=qe.ex;(conv=>whnf);subst H3;unfold I6;(conv=>whnf);exact ⟨m,sA m,yh,(w (qa+(1:Int))),_,_,(.inr rfl),rfl,rfl,h⟩
  ·rw [gH];(conv=>whnf);exact OL _ _ _ h ⟨rfl,rfl⟩
theorem aa6 {G':p8} {p':p8} {oJ:p8} {H8:p8→Int→p8→Option qh} {dB:Int} {dq:Int} {b:qn} {p_:qt} {s1:qh} {v:qh} {Q:rf} {ql:List ar} {p7:List I}  (J_:∀ (r0:p8) (si:Int) (HJ:p8) (ql:List ar) (p7:List I),H8 r0 si HJ=some v→qQ 99 [(1,(.ax (p_.map qO) p_.length .shared)),(2,(.ptr 0 0)),(5,(.ax (s1.map (qk p0)) s1.length (.uniq 1))),(6,(p4 r0 (.own 2))),(7,(hW si)),(8,(p4 HJ (.uniq 2)))] p7→Q .normal p7 (qD b::ql)) (qe:qQ 99 [(1,(.ax (p_.map qO) p_.length .shared)),(2,(.ptr 0 0)),(5,(.ax (s1.map (qk p0)) s1.length (.uniq 1))),(6,(p4 G' (.own 2))),(7,(hW dB)),(8,(p4 p' (.uniq 2))),(9,(p4 oJ (.own 2))),(13,(hW dq))] p7) (h:Ih G' p' oJ H8 dB dq=some v) :
  dR Tryz.prog HT 50 0 none Ia p7 (qD b::ql) Q:=by
 obtain ⟨qG,rfl⟩:=qe.ex;unfold Ih at h;unfold Ia;conv=>whnf
 refine qx h id fun Ix h=>?_;rw [qX p0 2 qv oJ dq Ix];conv=>whnf
 obtain ⟨sg,h⟩:=qC h;refine ⟨by first | rfl | (simp;done) | exact rz p0 _ qv _,by have:=sg;omega,rfl,sg,?_⟩
 erw [rK p0 p' (ix oJ dq)];conv=>whnf
 refine qx h id fun H7 h=>?_;rw [qX p0 2 qv oJ dq H7];conv=>whnf
 obtain ⟨Hn,h⟩:=qC h;refine ⟨by first | rfl | (simp;done) | exact rz p0 _ qv _,by have:=Hn;omega,rfl,Hn,?_⟩
 erw [rK p0 G' (ix oJ dq)];conv=>whnf
 exact J_ _ _ _ _ _ h ⟨rfl,rfl⟩
theorem aa8 {G':p8} {p':p8} {oJ:p8} {H8:p8→Int→p8→Option qh} {mD:Int} {mE:Int} {b:qn} {p_:qt} {s1:qh} {v:qh} {Q:rf} {ql:List ar} {p7:List I}  (J_:∀ (JO:p8) (IG:Int) (HR:p8) (ql:List ar) (p7:List I),H8 JO IG HR=some v→qQ 99 [(1,(.ax (p_.map qO) p_.length .shared)),(2,(.ptr 0 0)),(5,(.ax (s1.map (qk p0)) s1.length (.uniq 1))),(6,(p4 JO (.own 2))),(7,(hW IG)),(8,(p4 HR (.own 2)))] p7→Q .normal p7 (qD b::ql)) (qe:qQ 99 [(1,(.ax (p_.map qO) p_.length .shared)),(2,(.ptr 0 0)),(5,(.ax (s1.map (qk p0)) s1.length (.uniq 1))),(6,(p4 G' (.own 2))),(7,(hW mD)),(8,(p4 p' (.own 2))),(9,(p4 oJ (.own 2))),(13,(hW mE))] p7) (h:Ih G' p' oJ H8 mD mE=some v) :
  dR Tryz.prog HT 50 0 none Ia p7 (qD b::ql) Q:=by
 obtain ⟨qG,rfl⟩:=qe.ex;unfold Ih at h;unfold Ia;conv=>whnf
 refine qx h id fun Iy h=>?_;rw [qX p0 2 qv oJ mE Iy];conv=>whnf
 obtain ⟨JX,h⟩:=qC h;refine ⟨by first | rfl | (simp;done) | exact rz p0 _ qv _,by have:=JX;omega,rfl,JX,?_⟩
 erw [rK p0 p' (ix oJ mE)];conv=>whnf
 refine qx h id fun Lt h=>?_;rw [qX p0 2 qv oJ mE Lt];conv=>whnf
 obtain ⟨KF,h⟩:=qC h;refine ⟨by first | rfl | (simp;done) | exact rz p0 _ qv _,by have:=KF;omega,rfl,KF,?_⟩
 erw [rK p0 G' (ix oJ mE)];conv=>whnf
 exact J_ _ _ _ _ _ h ⟨rfl,rfl⟩
theorem ala {b:qn} {G':p8} {p':p8} {qa:Int} {sd:p8→Option qh} {qj:p8} {qf:Int} {p_:qt} {s1:qh} {qu:Int} {v:qh} {Q:rf}  {ss:List ar} (J':∀ (yh:p8) (ql:List ar) (p7:List I),sd yh=some v→qQ 99 [(1,(.ax (p_.map qO) p_.length .shared)),(2,(.ptr 0 0)),(5,(.ax (s1.map (qk p0)) s1.length (.uniq 1))),(6,(p4 G' (.own 2))),(7,(hW qu)),(8,(p4 p' (.own 2))),(9,(p4 yh (.uniq 2))),(10,(hW qa))] p7→Q (.exit 6) p7 (qD b::ql)) {T:List I} (bX:e0 (qb false [1,2,2,7,87]) T=Hc 99 [(1,(.ax (p_.map qO) p_.length .shared)),(2,(.ptr 0 0)),(5,(.ax (s1.map (qk p0)) s1.length (.uniq 1))),(6,(p4 G' (.own 2))),(7,(hW qu)),(8,(p4 p' (.own 2))),(9,(p4 qj (.uniq 2))),(10,(hW qa)),(11,(hW qf))]) (h:Ht b G' p' qa sd qc qj qf=some v) :
  dR Tryz.prog HT 50 0 none H_ T (qD b::ss) Q:=by
 unfold H_;obtain ⟨Oh,H4⟩:∃ c,I7=c:=⟨_,rfl⟩;rw [H4];refine wp_loop bX ?_;refine .intro (fun m T H=>∃ (qj:p8) (qf:Int) (Ij:List ar),T=Hc 99 [(1,(.ax (p_.map qO) p_.length .shared)),(2,(.ptr 0 0)),(5,(.ax (s1.map (qk p0)) s1.length (.uniq 1))),(6,(p4 G' (.own 2))),(7,(hW qu)),(8,(p4 p' (.own 2))),(9,(p4 qj (.uniq 2))),(10,(hW qa)),(11,(hW qf))]∧H=(qD b::Ij)∧Ht b G' p' qa sd m qj qf=some v) qc ⟨qj,qf,ss,rfl,rfl,h⟩ ?_;clear h bX;rintro m T H ⟨qj,qf,Ij,rfl,rfl,h⟩;cases m
 ·exact rj h
 rename_i m;rw [Ht.eq_2] at h;conv=>whnf
 refine bs h (fun qs h=>?_) fun qs h=>?_
 ·rw [qs];conv=>whnf
  subst H4;unfold I7;obtain ⟨L4,ri⟩:∃ c,rG=c:=⟨_,rfl⟩;rw [ri];obtain ⟨L5,HD⟩:∃ c,IF=c:=⟨_,rfl⟩;rw [HD];conv=>whnf
  refine Es (x:=ar.cells [(hW (0:Int)),(hW (0:Int))]) (by first | exact qy.h | rfl | (simp [sy,I.settle];done)) ?_
  conv=>whnf
  rw [rB];subst HD;unfold IF;obtain ⟨L6,rP⟩:∃ c,r4=c:=⟨_,rfl⟩;rw [rP];conv=>whnf
  obtain ⟨aT,qF,h⟩:=qm h;refine ⟨qw.pl,_,Kn qF,HS,?_⟩;conv=>whnf
  cases aT
  ·(conv=>whnf);replace h:=Hl rfl h;refine bs h (fun qH h=>?_) fun qH h=>?_
   ·rw [qH];(conv=>whnf);subst rP;unfold r4;(conv=>whnf);refine Es (x:=ar.cells [(hW qa),(hW qf)]) (by first | exact qy.h | rfl | (simp [sy,I.settle];done)) ?_
    (conv=>whnf);obtain ⟨ra,h⟩:=qC h;refine ⟨by first | rfl | (simp;done) | exact rz p0 _ qv _,by have:=ra;omega,rfl,ra,?_⟩
    erw [rK p0 qj (qa,qf)];(conv=>whnf);subst ri;unfold rG;(conv=>whnf);exact ⟨m,sA m,(qj++[(qa,qf)]),(w (qf+(1:Int))),_,rfl,rfl,h⟩
   ·rw [qH];(conv=>whnf);refine qx h id fun q7 h=>?_;rw [qX p0 2 qv p' (w ((p'.length:Int)-(1:Int))) q7];(conv=>whnf);obtain ⟨r2,q8,h⟩:=qm h;refine ⟨qw.pl,_,KU q8,Ib rfl,?_⟩;(conv=>whnf);refine Es (x:=ar.cells [(hW qa),(hW qf)]) (by first | exact qy.h | rfl | (simp [sy,I.settle];done)) ?_
    (conv=>whnf);obtain ⟨eL,rp,h⟩:=qm h;refine ⟨qw.pl,_,KS rp,Ib rfl,?_⟩;(conv=>whnf);subst rP;unfold r4;(conv=>whnf);refine bs h (fun qP h=>?_) fun qP h=>?_
    ·rw [qP];(conv=>whnf);refine Es (x:=ar.cells [(hW qa),(hW qf)]) (by first | exact qy.h | rfl | (simp [sy,I.settle];done)) ?_
     (conv=>whnf);obtain ⟨rq,h⟩:=qC h;refine ⟨by first | rfl | (simp;done) | exact rz p0 _ qv _,by have:=rq;omega,rfl,rq,?_⟩
     erw [rK p0 qj (qa,qf)];(conv=>whnf);subst ri;unfold rG;(conv=>whnf);exact ⟨m,sA m,(qj++[(qa,qf)]),(w (qf+(1:Int))),_,rfl,rfl,h⟩
    ·rw [qP];(conv=>whnf);subst ri;unfold rG;(conv=>whnf);exact ⟨m,sA m,qj,(w (qf+(1:Int))),_,rfl,rfl,h⟩
  ·(conv=>whnf);replace h:=Hm rfl h;subst rP;unfold r4;(conv=>whnf);subst ri;unfold rG;(conv=>whnf);exact ⟨m,sA m,qj,(w (qf+(1:Int))),_,rfl,rfl,h⟩
 ·rw [qs];conv=>whnf
  exact J' _ _ _ h ⟨rfl,rfl⟩
theorem ak7 {b:qn} {G':p8} {p':p8} {rk:p8→Option qh} {q_:p8} {qa:Int} {p_:qt} {s1:qh} {qu:Int} {v:qh} {Q:rf}  {Ik:List ar} (I3:∀ (oJ:p8) (ql:List ar) (p7:List I),rk oJ=some v→qQ 99 [(1,(.ax (p_.map qO) p_.length .shared)),(2,(.ptr 0 0)),(5,(.ax (s1.map (qk p0)) s1.length (.uniq 1))),(6,(p4 G' (.own 2))),(7,(hW qu)),(8,(p4 p' (.own 2))),(9,(p4 oJ (.uniq 2)))] p7→Q (.exit 4) p7 (qD b::ql)) {T:List I} (bX:e0 (qb false [1,2,2,6,88]) T=Hc 99 [(1,(.ax (p_.map qO) p_.length .shared)),(2,(.ptr 0 0)),(5,(.ax (s1.map (qk p0)) s1.length (.uniq 1))),(6,(p4 G' (.own 2))),(7,(hW qu)),(8,(p4 p' (.own 2))),(9,(p4 q_ (.uniq 2))),(10,(hW qa))]) (h:IE b G' p' rk qc q_ qa=some v) :
  dR Tryz.prog HT 50 0 none JJ T (qD b::Ik) Q:=by
 unfold JJ;obtain ⟨Sf,Jx⟩:∃ c,Kq=c:=⟨_,rfl⟩;rw [Jx];refine wp_loop bX ?_;refine .intro (fun m T H=>∃ (q_:p8) (qa:Int) (ss:List ar),T=Hc 99 [(1,(.ax (p_.map qO) p_.length .shared)),(2,(.ptr 0 0)),(5,(.ax (s1.map (qk p0)) s1.length (.uniq 1))),(6,(p4 G' (.own 2))),(7,(hW qu)),(8,(p4 p' (.own 2))),(9,(p4 q_ (.uniq 2))),(10,(hW qa))]∧H=(qD b::ss)∧IE b G' p' rk m q_ qa=some v) qc ⟨q_,qa,Ik,rfl,rfl,h⟩ ?_;clear h bX;rintro m T H ⟨q_,qa,ss,rfl,rfl,h⟩;cases m
 ·exact rj h
 rename_i m;rw [IE.eq_2] at h;conv=>whnf
 refine bs h (fun gH h=>?_) fun gH h=>?_
 ·rw [gH];conv=>whnf
  subst Jx;unfold Kq;obtain ⟨Of,H3⟩:∃ c,I6=c:=⟨_,rfl⟩;rw [H3];obtain ⟨Og,Iq⟩:∃ c,JI=c:=⟨_,rfl⟩;rw [Iq];conv=>whnf
  subst Iq;unfold JI;obtain ⟨Oi,Ir⟩:∃ c,H_=c:=⟨_,rfl⟩;rw [Ir];conv=>whnf
  subst Ir;refine ala ?_ (by exact rfl) h;intro yh ql p7 h qe;obtain ⟨qG,rfl⟩:=qe.ex;conv=>whnf
  subst H3;unfold I6;conv=>whnf
  exact ⟨m,sA m,yh,(w (qa+(1:Int))),_,rfl,rfl,h⟩
 ·rw [gH];conv=>whnf
  exact I3 _ _ _ h ⟨rfl,rfl⟩
theorem aa7 {G':p8} {p':p8} {oJ:p8} {H8:p8→Int→p8→Option qh} {dB:Int} {dq:Int} {b:qn} {p_:qt} {s1:qh} {v:qh} {Q:rf} {ql:List ar} {p7:List I}  (J_:∀ (Gx:p8) (rU:Int) (rH:p8) (ql:List ar) (p7:List I),H8 Gx rU rH=some v→qQ 99 [(1,(.ax (p_.map qO) p_.length .shared)),(2,(.ptr 0 0)),(5,(.ax (s1.map (qk p0)) s1.length (.uniq 1))),(6,(p4 Gx (.own 2))),(7,(hW rU)),(8,(p4 rH (.own 2)))] p7→Q .normal p7 (qD b::ql)) (qe:qQ 99 [(1,(.ax (p_.map qO) p_.length .shared)),(2,(.ptr 0 0)),(5,(.ax (s1.map (qk p0)) s1.length (.uniq 1))),(6,(p4 G' (.own 2))),(7,(hW dB)),(8,(p4 p' (.own 2))),(9,(p4 oJ (.own 2))),(13,(hW dq))] p7) (h:Ih G' p' oJ H8 dB dq=some v) :
  dR Tryz.prog HT 50 0 none Ia p7 (qD b::ql) Q:=by
 obtain ⟨qG,rfl⟩:=qe.ex;unfold Ih at h;unfold Ia;conv=>whnf
 refine qx h id fun Ix h=>?_;rw [qX p0 2 qv oJ dq Ix];conv=>whnf
 obtain ⟨sg,h⟩:=qC h;refine ⟨by first | rfl | (simp;done) | exact rz p0 _ qv _,by have:=sg;omega,rfl,sg,?_⟩
 erw [rK p0 p' (ix oJ dq)];conv=>whnf
 refine qx h id fun H7 h=>?_;rw [qX p0 2 qv oJ dq H7];conv=>whnf
 obtain ⟨Hn,h⟩:=qC h;refine ⟨by first | rfl | (simp;done) | exact rz p0 _ qv _,by have:=Hn;omega,rfl,Hn,?_⟩
 erw [rK p0 G' (ix oJ dq)];conv=>whnf
 exact J_ _ _ _ _ _ h ⟨rfl,rfl⟩
theorem ak4 {b:qn} {p_:qt} {qM:p8→Int→p8→Option qh} {G':p8} {qu:Int} {p':p8} {s1:qh} {v:qh} {Q:rf}  {Lk:List ar} {q9:hv} (Ie:∀ (Gx:p8) (rU:Int) (rH:p8) (ql:List ar) (p7:List I),qM Gx rU rH=some v→qQ 99 [(1,(.ax (p_.map qO) p_.length .shared)),(2,(.ptr 0 0)),(5,(.ax (s1.map (qk p0)) s1.length (.uniq 1))),(6,(p4 Gx (.own 2))),(7,(hW rU)),(8,(p4 rH (.uniq 2)))] p7→Q (.exit 2) p7 (qD b::ql)) (Mj:∀ (Gx:p8) (rU:Int) (rH:p8) (ql:List ar) (p7:List I),qM Gx rU rH=some v→qQ 99 [(1,(.ax (p_.map qO) p_.length .shared)),(2,(.ptr 0 0)),(5,(.ax (s1.map (qk p0)) s1.length (.uniq 1))),(6,(p4 Gx (.own 2))),(7,(hW rU)),(8,(p4 rH (.own 2)))] p7→Q (.exit 2) p7 (qD b::ql)) (HG:(q9=(.uniq 2)∨q9=(.own 2))) {T:List I} (bX:e0 (qb false [1,2,2,4,90]) T=Hc 99 [(1,(.ax (p_.map qO) p_.length .shared)),(2,(.ptr 0 0)),(5,(.ax (s1.map (qk p0)) s1.length (.uniq 1))),(6,(p4 G' (.own 2))),(7,(hW qu)),(8,(.ax (p'.flatMap p0) p'.length q9))]) (h:Jo b p_ qM qc G' qu p'=some v) :
  dR Tryz.prog HT 50 0 none MW T (qD b::Lk) Q:=by
 unfold MW;obtain ⟨adO,Mb⟩:∃ c,MY=c:=⟨_,rfl⟩;rw [Mb];refine wp_loop bX ?_;refine .intro (fun m T H=>∃ (G':p8) (qu:Int) (p':p8) (Ik:List ar) (q9:hv),(q9=(.uniq 2)∨q9=(.own 2))∧T=Hc 99 [(1,(.ax (p_.map qO) p_.length .shared)),(2,(.ptr 0 0)),(5,(.ax (s1.map (qk p0)) s1.length (.uniq 1))),(6,(p4 G' (.own 2))),(7,(hW qu)),(8,(.ax (p'.flatMap p0) p'.length q9))]∧H=(qD b::Ik)∧Jo b p_ qM m G' qu p'=some v) qc ⟨G',qu,p',Lk,_,HG,rfl,rfl,h⟩ ?_;clear h bX;rintro m T H ⟨G',qu,p',Ik,q9,HG,rfl,rfl,h⟩;cases m
 ·exact rj h
 rename_i m;rw [Jo.eq_2] at h;rcases HG with rfl | rfl
 ·conv=>whnf
  subst Mb;unfold MY;obtain ⟨Sd,Jw⟩:∃ c,Kp=c:=⟨_,rfl⟩;rw [Jw];obtain ⟨Se,J6⟩:∃ c,Le=c:=⟨_,rfl⟩;rw [J6];conv=>whnf
  subst J6;unfold Le;obtain ⟨Sg,J7⟩:∃ c,JJ=c:=⟨_,rfl⟩;rw [J7];conv=>whnf
  subst J7;refine ak6 ?_ ?_ (.inl rfl) (by exact rfl) h
  ·intro oJ ql p7 h qe;obtain ⟨qG,rfl⟩:=qe.ex;(conv=>whnf);subst Jw;unfold Kp;obtain ⟨Oj,Is⟩:∃ c,JK=c:=⟨_,rfl⟩;rw [Is];(conv=>whnf);refine bs h (fun rV h=>?_) fun rV h=>?_
   ·rw [rV];(conv=>whnf);exact Ie _ _ _ _ _ h ⟨rfl,rfl⟩
   ·rw [rV];(conv=>whnf);subst Is;unfold JK;obtain ⟨Ol,It⟩:∃ c,JL=c:=⟨_,rfl⟩;rw [It];(conv=>whnf);subst It;unfold JL;obtain ⟨Om,Iu⟩:∃ c,JM=c:=⟨_,rfl⟩;rw [Iu];obtain ⟨Oo,HE⟩:∃ c,Ia=c:=⟨_,rfl⟩;rw [HE];(conv=>whnf);subst Iu;unfold JM;obtain ⟨On,Iv⟩:∃ c,JN=c:=⟨_,rfl⟩;rw [Iv];(conv=>whnf);refine bs h (fun rD h=>?_) fun rD h=>?_
    ·rw [rD];(conv=>whnf);refine qx h id fun HF h=>?_;(conv=>whnf);refine qx h id fun IK h=>?_;rw [se qO p_ (qu.tmod (p_.length:Int)) IK];(conv=>whnf);refine qx h id fun HV h=>?_;(conv=>whnf);subst Iv;unfold JN;(conv=>whnf);subst HE;refine aa6 ?_ (by exact ⟨rfl,rfl⟩) h;intro r0 si HJ ql p7 h qe;obtain ⟨qG,rfl⟩:=qe.ex;(conv=>whnf);exact ⟨m,sA m,r0,si,HJ,_,_,(.inl rfl),rfl,rfl,h⟩
    ·rw [rD];(conv=>whnf);subst HE;refine aa6 ?_ (by exact ⟨rfl,rfl⟩) h;intro r0 si HJ ql p7 h qe;obtain ⟨qG,rfl⟩:=qe.ex;(conv=>whnf);exact ⟨m,sA m,r0,si,HJ,_,_,(.inl rfl),rfl,rfl,h⟩
  ·intro oJ ql p7 h qe;obtain ⟨qG,rfl⟩:=qe.ex;(conv=>whnf);subst Jw;unfold Kp;obtain ⟨Oj,Is⟩:∃ c,JK=c:=⟨_,rfl⟩;rw [Is];(conv=>whnf);refine bs h (fun HW h=>?_) fun HW h=>?_
   ·rw [HW];(conv=>whnf);exact Mj _ _ _ _ _ h ⟨rfl,rfl⟩
   ·rw [HW];(conv=>whnf);subst Is;unfold JK;obtain ⟨Ol,It⟩:∃ c,JL=c:=⟨_,rfl⟩;rw [It];(conv=>whnf);subst It;unfold JL;obtain ⟨Om,Iu⟩:∃ c,JM=c:=⟨_,rfl⟩;rw [Iu];obtain ⟨Oo,HE⟩:∃ c,Ia=c:=⟨_,rfl⟩;rw [HE];(conv=>whnf);subst Iu;unfold JM;obtain ⟨On,Iv⟩:∃ c,JN=c:=⟨_,rfl⟩;rw [Iv];(conv=>whnf);refine bs h (fun HO h=>?_) fun HO h=>?_
    ·rw [HO];(conv=>whnf);refine qx h id fun Jz h=>?_;(conv=>whnf);refine qx h id fun JV h=>?_;rw [se qO p_ (qu.tmod (p_.length:Int)) JV];(conv=>whnf);refine qx h id fun JW h=>?_;(conv=>whnf);subst Iv;unfold JN;(conv=>whnf);subst HE;refine aa8 ?_ (by exact ⟨rfl,rfl⟩) h;intro JO IG HR ql p7 h qe;obtain ⟨qG,rfl⟩:=qe.ex;(conv=>whnf);exact ⟨m,sA m,JO,IG,HR,_,_,(.inr rfl),rfl,rfl,h⟩
    ·rw [HO];(conv=>whnf);subst HE;refine aa8 ?_ (by exact ⟨rfl,rfl⟩) h;intro JO IG HR ql p7 h qe;obtain ⟨qG,rfl⟩:=qe.ex;(conv=>whnf);exact ⟨m,sA m,JO,IG,HR,_,_,(.inr rfl),rfl,rfl,h⟩
 ·conv=>whnf
  subst Mb;unfold MY;obtain ⟨Sd,Jw⟩:∃ c,Kp=c:=⟨_,rfl⟩;rw [Jw];obtain ⟨Se,J6⟩:∃ c,Le=c:=⟨_,rfl⟩;rw [J6];conv=>whnf
  subst J6;unfold Le;obtain ⟨Sg,J7⟩:∃ c,JJ=c:=⟨_,rfl⟩;rw [J7];conv=>whnf
  subst J7;refine ak7 ?_ (by exact rfl) h;intro oJ ql p7 h qe;obtain ⟨qG,rfl⟩:=qe.ex;conv=>whnf
  subst Jw;unfold Kp;obtain ⟨Oj,Is⟩:∃ c,JK=c:=⟨_,rfl⟩;rw [Is];conv=>whnf
  refine bs h (fun rV h=>?_) fun rV h=>?_
  ·rw [rV];(conv=>whnf);exact Mj _ _ _ _ _ h ⟨rfl,rfl⟩
  ·rw [rV];(conv=>whnf);subst Is;unfold JK;obtain ⟨Ol,It⟩:∃ c,JL=c:=⟨_,rfl⟩;rw [It];(conv=>whnf);subst It;unfold JL;obtain ⟨Om,Iu⟩:∃ c,JM=c:=⟨_,rfl⟩;rw [Iu];obtain ⟨Oo,HE⟩:∃ c,Ia=c:=⟨_,rfl⟩;rw [HE];(conv=>whnf);subst Iu;unfold JM;obtain ⟨On,Iv⟩:∃ c,JN=c:=⟨_,rfl⟩;rw [Iv];(conv=>whnf);refine bs h (fun rD h=>?_) fun rD h=>?_
   ·rw [rD];(conv=>whnf);refine qx h id fun HF h=>?_;(conv=>whnf);refine qx h id fun IK h=>?_;rw [se qO p_ (qu.tmod (p_.length:Int)) IK];(conv=>whnf);refine qx h id fun HV h=>?_;(conv=>whnf);subst Iv;unfold JN;(conv=>whnf);subst HE;refine aa7 ?_ (by exact ⟨rfl,rfl⟩) h;intro Gx rU rH ql p7 h qe;obtain ⟨qG,rfl⟩:=qe.ex;(conv=>whnf);exact ⟨m,sA m,Gx,rU,rH,_,_,(.inr rfl),rfl,rfl,h⟩
   ·rw [rD];(conv=>whnf);subst HE;refine aa7 ?_ (by exact ⟨rfl,rfl⟩) h;intro Gx rU rH ql p7 h qe;obtain ⟨qG,rfl⟩:=qe.ex;(conv=>whnf);exact ⟨m,sA m,Gx,rU,rH,_,_,(.inr rfl),rfl,rfl,h⟩
theorem ak2 {b:qn} {p_:qt} {qq:qh→Option qh} {s1:qh} {s2:p8} {di:Int} {v:qh} {Q:rf}   {Im:hv} (r9:∀ (r0:qh) (bE:ar) (ql:List ar) (p7:List I),qq r0=some v→qQ 99 [(5,(.ax (r0.map (qk p0)) r0.length (.uniq 1)))] p7→Q (.exit 0) p7 (bE::ql)) (Me:(Im=(.uniq 2)∨Im=(.own 2))) {T:List I} (bX:e0 (qb false [1,2,2,3,91]) T=Hc 99 [(1,(.ax (p_.map qO) p_.length .shared)),(2,(.ptr 0 0)),(5,(.ax (s1.map (qk p0)) s1.length (.uniq 1))),(6,(.ax (s2.flatMap p0) s2.length Im)),(7,(hW di))]) (h:LQ b p_ qq qc s1 s2 di=some v) :
  dR Tryz.prog HT 50 0 none RA T [qD b] Q:=by
 unfold RA;obtain ⟨al5,Sz⟩:∃ c,RB=c:=⟨_,rfl⟩;rw [Sz];refine wp_loop bX ?_;refine .intro (fun m T H=>∃ (s1:qh) (s2:p8) (di:Int) (Lk:List ar) (Im:hv),(Im=(.uniq 2)∨Im=(.own 2))∧T=Hc 99 [(1,(.ax (p_.map qO) p_.length .shared)),(2,(.ptr 0 0)),(5,(.ax (s1.map (qk p0)) s1.length (.uniq 1))),(6,(.ax (s2.flatMap p0) s2.length Im)),(7,(hW di))]∧H=(qD b::Lk)∧LQ b p_ qq m s1 s2 di=some v) qc ⟨s1,s2,di,[],_,Me,rfl,rfl,h⟩ ?_;clear h bX;rintro m T H ⟨s1,s2,di,Lk,Im,Me,rfl,rfl,h⟩;cases m
 ·exact rj h
 rename_i m;rw [LQ.eq_2] at h;rcases Me with rfl | rfl
 ·conv=>whnf
  refine bs h (fun gG h=>?_) fun gG h=>?_
  ·rw [gG];(conv=>whnf);subst Sz;unfold RB;obtain ⟨adM,OA⟩:∃ c,Pu=c:=⟨_,rfl⟩;rw [OA];(conv=>whnf);subst OA;unfold Pu;obtain ⟨adN,Ma⟩:∃ c,MX=c:=⟨_,rfl⟩;rw [Ma];obtain ⟨adJ,Oy⟩:∃ c,MW=c:=⟨_,rfl⟩;rw [Oy];(conv=>whnf);subst Oy;refine ak3 ?_ ?_ (.inl rfl) (by exact rfl) h
   ·intro Gx rU rH ql p7 h qe;obtain ⟨qG,rfl⟩:=qe.ex;(conv=>whnf);subst Ma;unfold MX;(conv=>whnf);obtain ⟨HW,h⟩:=qC h;refine ⟨by first | rfl | simp,by have:=HW;omega,rfl,HW,?_⟩
    erw [Kx (qk p0) s1 rH];(conv=>whnf);exact ⟨m,sA m,(s1++[rH]),Gx,rU,_,_,(.inr rfl),rfl,rfl,h⟩
   ·intro Gx rU rH ql p7 h qe;obtain ⟨qG,rfl⟩:=qe.ex;(conv=>whnf);subst Ma;unfold MX;(conv=>whnf);obtain ⟨HO,h⟩:=qC h;refine ⟨by first | rfl | simp,by have:=HO;omega,rfl,HO,?_⟩
    erw [Kx (qk p0) s1 rH];(conv=>whnf);exact ⟨m,sA m,(s1++[rH]),Gx,rU,_,_,(.inr rfl),rfl,rfl,h⟩
  ·rw [gG];(conv=>whnf);exact r9 _ _ _ _ h ⟨rfl,rfl⟩
 ·conv=>whnf
  refine bs h (fun gG h=>?_) fun gG h=>?_
  ·rw [gG];(conv=>whnf);subst Sz;unfold RB;obtain ⟨adM,OA⟩:∃ c,Pu=c:=⟨_,rfl⟩;rw [OA];(conv=>whnf);subst OA;unfold Pu;obtain ⟨adN,Ma⟩:∃ c,MX=c:=⟨_,rfl⟩;rw [Ma];obtain ⟨adJ,Oy⟩:∃ c,MW=c:=⟨_,rfl⟩;rw [Oy];(conv=>whnf);subst Oy;refine ak4 ?_ ?_ (.inl rfl) (by exact rfl) h
   ·intro Gx rU rH ql p7 h qe;obtain ⟨qG,rfl⟩:=qe.ex;(conv=>whnf);subst Ma;unfold MX;(conv=>whnf);obtain ⟨HW,h⟩:=qC h;refine ⟨by first | rfl | simp,by have:=HW;omega,rfl,HW,?_⟩
    erw [Kx (qk p0) s1 rH];(conv=>whnf);exact ⟨m,sA m,(s1++[rH]),Gx,rU,_,_,(.inr rfl),rfl,rfl,h⟩
   ·intro Gx rU rH ql p7 h qe;obtain ⟨qG,rfl⟩:=qe.ex;(conv=>whnf);subst Ma;unfold MX;(conv=>whnf);obtain ⟨HO,h⟩:=qC h;refine ⟨by first | rfl | simp,by have:=HO;omega,rfl,HO,?_⟩
    erw [Kx (qk p0) s1 rH];(conv=>whnf);exact ⟨m,sA m,(s1++[rH]),Gx,rU,_,_,(.inr rfl),rfl,rfl,h⟩
  ·rw [gG];(conv=>whnf);exact r9 _ _ _ _ h ⟨rfl,rfl⟩
theorem ale {b:qn} {p_:qt} {v:qh} (h:Q9 b p_=some v):qB 50 [(.agg [(hW b.1),(.ax (b.2.flatMap p0) b.2.length .shared)]),(.ax (p_.map qO) p_.length .shared)] (.ax (v.map (qk p0)) v.length .shared):=by
 refine q5 et agK rfl (r7 (fun _=>(q4 (fun _=>(p2 rfl (p2 rfl rfl))) _ _ _)) _ _ _) fun Q bp=>?_;have jD:qR [.tmp 4] Q (fun v=>(.ax (v.map (qk p0)) v.length .shared)) v:=fun T H bI=>bp _ T H bI;unfold Q9 at h;unfold ab1;obtain ⟨II,q'⟩:∃ c,VH=c:=⟨_,rfl⟩;rw [q'];conv=>whnf
 subst q';unfold VH;obtain ⟨L7,Hj⟩:∃ c,VI=c:=⟨_,rfl⟩;rw [Hj];conv=>whnf
 subst Hj;unfold VI;obtain ⟨W0,Ln⟩:∃ c,VJ=c:=⟨_,rfl⟩;rw [Ln];conv=>whnf
 subst Ln;unfold VJ;obtain ⟨adK,KA⟩:∃ c,VK=c:=⟨_,rfl⟩;rw [KA];conv=>whnf
 subst KA;unfold VK;obtain ⟨adL,Oz⟩:∃ c,VL=c:=⟨_,rfl⟩;rw [Oz];obtain ⟨al4,XB⟩:∃ c,RA=c:=⟨_,rfl⟩;rw [XB];conv=>whnf
 subst XB;refine ak2 ?_ (.inl rfl) (by exact rfl) h;intro r0 bE ql p7 h qe;obtain ⟨qG,rfl⟩:=qe.ex;conv=>whnf
 subst Oz;unfold VL;conv=>whnf
 exact qi h jD rfl rfl
end Go.Proofs.YtfakoboiahbhaaaGreat.Ab


namespace Go.Proofs.YtfakoboiahbhaaaGreat.Ab
open Go
section
variable {b:p9}
theorem YI (p5:qS b):(parts b).flatten.Perm (upto b.2.length):=(VB p5).2.1.flat (IQ _)
def Ig (b:p9) (done own:Row) (p:Int×Int):Bool:=!(done.any fun q=>decide (q.1=p.1)) && (decide (own=[]) || decide (fin b (own.getD (own.length-1) default)=qE b p))
def Ke (b:p9) (done own:Row) (i:Int):Row:=[(i,0),(i,1)].filter (Ig b done own)
def Je (b:p9) (done own:Row):Row:=(upto b.2.length).flatMap (Ke b done own)
theorem ag_ {done own:Row} {i:Int}:(Ke b done own i).length≤2:=tW _ _
theorem TC {done own:Row}:∀ n:Nat,((upto n).flatMap (Ke b done own)).length≤2*n
 | 0=>by simp [upto]
 | n+1=>by
   have:=TC (done:=done) (own:=own) n;have af:=ag_ (b:=b) (done:=done) (own:=own) (i:=(n:Int));rw [NU,vn,sC];simp only [List.flatMap_cons,List.flatMap_nil,sW];omega
theorem Yw {done own:Row} {p:Int×Int}:p∈Je b done own↔Hx b p∧Ig b done own p=true:=by
 unfold Je Ke;rw [List.mem_flatMap];constructor
 ·rintro ⟨i,hi,aB⟩;rw [tc] at aB;have:=HP.1 hi;simp only [sL,List.not_mem_nil,or_false] at aB;rcases aB with ⟨rfl | rfl,h⟩
  ·exact ⟨⟨this.1,this.2,by simp,by simp⟩,h⟩
  ·exact ⟨⟨this.1,this.2,by simp,by simp⟩,h⟩
 ·rintro ⟨⟨ad,af,aG,a6⟩,h⟩;refine ⟨p.1,HP.2 ⟨ad,af⟩,tc.2 ⟨?_,h⟩⟩;obtain ⟨x,y⟩:=p;have al9:0≤y:=aG;have al_:y≤1:=a6;rcases (show y=0∨y=1 by omega) with rfl | rfl <;> simp
theorem abe (p5:qS b) {done own acc:Row} {i:Nat} (hi:i<b.2.length) (a3:done.length≤1000) (aq:own.length≤1000) (bQ:∀ p∈own,Hx b p) (cc:acc.length≤1000) {k:Row→Option (List Row)} :
  ∀ (m e:Nat) (z:Int),z=e→e≤2→2-e<m→Ht b done own (i:Int) k m (acc++([((i:Int),(0:Int)),((i:Int),1)].take e).filter (Ig b done own)) z=k (acc++Ke b done own i)
 | 0,_,_,_,_,h=>absurd h (by omega)
 | m+1,e,_,rfl,he,hm=>by
   rw [Ht];by_cases h:(e:Int)<(2:Int)
   ·have aB:Hr b ((i:Int),(e:Int))=false:=Mv.2 ⟨by simp,by simp;omega,by simp,by simp;omega⟩;have a_:=abe (k:=k) (acc:=acc) p5 hi a3 aq bQ cc m (e+1) _ rfl (by omega) (by omega);have cC:([((i:Int),(0:Int)),((i:Int),1)].take (e+1)).filter (Ig b done own)=([((i:Int),(0:Int)),((i:Int),1)].take e).filter (Ig b done own)++if Ig b done own ((i:Int),(e:Int))=true then [((i:Int),(e:Int))] else []:=by
     rcases (show e=0∨e=1 by omega) with rfl | rfl
     ·simp [tx]
     ·simp only [List.take_succ_cons,tD,tx,u_];split <;> simp
    have pz:(([((i:Int),(0:Int)),((i:Int),1)].take e).filter (Ig b done own)).length≤2:=by
     have:=tW (Ig b done own) ([((i:Int),(0:Int)),((i:Int),1)].take e);rw [tf] at this;simp at this;omega
    rw [if_pos (decide_eq_true h),Vx done _ a3,sx,sm e (by omega)];rw [cC] at a_;cases ai:done.any fun q=>decide (q.1=(i:Int)) with
    | true =>
      (have a0:Ig b done own ((i:Int),(e:Int))=false:=by unfold Ig;simp only [ai];rfl);rw [a0,if_neg (by decide),sW] at a_;rw [if_pos rfl];exact a_
    | false =>
      rw [if_neg (by decide)];by_cases aV:own=[]
      ·(have a0:Ig b done own ((i:Int),(e:Int))=true:=by unfold Ig;simp only [ai,aV];rfl);rw [a0,if_pos rfl,←sH] at a_;rw [if_pos (by simp [aV]),qz (by rw [sC];omega)];exact a_
      ·have SF:0<own.length:=tS.2 aV;(have hw:w ((own.length:Int)-1)=((own.length-1:Nat):Int):=by rw [JH (by omega)];omega);(have aS:own.length-1<own.length:=by omega);(have Lv:own.getD (own.length-1) default=own[own.length-1]:=by simp [aS]);have aft:=bQ _ (sU aS);rw [if_neg (by simpa using aV),hw,qz ⟨by omega,by omega⟩,ry aS,Vy (Mv.2 aft),sx,Vu aB,sx];by_cases Ni:fin b own[own.length-1]=qE b ((i:Int),(e:Int))
       ·(have a0:Ig b done own ((i:Int),(e:Int))=true:=by unfold Ig;simp only [ai,Lv,Ni];simp);rw [a0,if_pos rfl,←sH] at a_;rw [if_pos (decide_eq_true Ni),qz (by rw [sC];omega)];exact a_
       ·(have a0:Ig b done own ((i:Int),(e:Int))=false:=by unfold Ig;simp only [ai,Lv];simp [Ni,aV]);rw [a0,if_neg (by decide),sW] at a_;rw [if_neg (by simpa using Ni)];exact a_
   ·rw [if_neg (by simpa using h),show e=2 by omega];rfl
theorem abd (p5:qS b) {done own:Row} (a3:done.length≤1000) (aq:own.length≤1000) (bQ:∀ p∈own,Hx b p) {k:Row→Option (List Row)} :
  ∀ (m i:Nat) (z:Int),z=i→i≤b.2.length→b.2.length-i<m→IE b done own k m ((upto i).flatMap (Ke b done own)) z=k (Je b done own)
 | 0,_,_,_,_,h=>absurd h (by omega)
 | m+1,i,_,rfl,hi,hm=>by
   rw [IE];have dm:=p5.len;by_cases h:(i:Int)<(b.2.length:Int)
   ·have ao:=TC (b:=b) (done:=done) (own:=own) i;rw [if_pos (decide_eq_true h)];have key:=abe (b:=b) (done:=done) (own:=own) (acc:=(upto i).flatMap (Ke b done own)) p5 (i:=i) (by omega) a3 aq bQ (by omega) (k:=fun yh=>IE b done own k m yh (w ((i:Int)+(1:Int)))) qc 0 0 rfl (by omega) (r6 (by omega));rw [tD,u_,sW] at key;rw [key,sm i (by omega)];(have e:(upto i).flatMap (Ke b done own)++Ke b done own i=(upto (i+1)).flatMap (Ke b done own):=by rw [NU,vn];simp);rw [e];exact abd p5 a3 aq bQ m (i+1) _ rfl (by omega) (by omega)
   ·rw [if_neg (by simpa using h),show i=b.2.length by omega];rfl
structure Kv (b:p9) (D own:Row):Prop where
 ok:∀ p∈D++own,Hx b p
 sq:((D++own).map (·.1)).Nodup
 go:own=[]∨∃ a,qN b a own=some (fin b (own.getD (own.length-1) default))
theorem Kv.len {D own:Row} (h:Kv b D own):D.length+own.length≤b.2.length:=by
 have:=OQ h.sq (n:=b.2.length) fun x ak=>by
  obtain ⟨p,aB,rfl⟩:=sM.1 ak;exact ⟨(h.ok p aB).1,(h.ok p aB).2.1⟩
 simpa using this
theorem Kv.next {D own:Row} (h:Kv b D own) {p:Int×Int} (aB:p∈Je b (D++own) own):Kv b D (own++[p]):=by
 obtain ⟨bQ,aN⟩:=Yw.1 aB;unfold Ig at aN;simp only [sO,Bool.or_eq_true,wM,decide_eq_true_eq] at aN;refine ⟨fun q a0=>?_,?_,.inr ?_⟩
 ·rw [←sH] at a0;rcases ti.1 a0 with a0 | a0
  ·exact h.ok q a0
  ·rw [ta.1 a0];exact bQ
 ·rw [←sH,tj,u6];refine ⟨h.sq,by simp,fun x ak y aZ e=>?_⟩;simp only [sG,tL,ta] at aZ;subst aZ;subst e;obtain ⟨q,a0,e⟩:=sM.1 ak;have:=uQ.1 aN.1 q a0;simp [e] at this
 ·have Lv:(own++[p]).getD ((own++[p]).length-1) default=p:=by simp
  rw [Lv];rcases aN.2 with aV | aV
  ·subst aV;exact ⟨qE b p,Kh.2 ⟨rfl,rfl⟩⟩
  ·by_cases ad:own=[]
   ·subst ad;exact ⟨qE b p,Kh.2 ⟨rfl,rfl⟩⟩
   ·rcases h.go with af | ⟨a,af⟩
    ·exact absurd af ad
    ·refine ⟨a,?_⟩;rw [JG,af,sx];exact Kh.2 ⟨aV.symm,rfl⟩
theorem aha {D:Row} (h:Kv b D []) (ao:D.length<b.2.length):Je b (D++[]) []≠[]:=fun he=>by
 have cU:∀ x∈upto b.2.length,x∈D.map (·.1):=fun x ak=>by
  refine Classical.byContradiction fun aN=>?_;have hm:=HP.1 ak
  have:((x,0):Int×Int)∈Je b (D++[]) []:=Yw.2 ⟨⟨hm.1,hm.2,by simp,by simp⟩,by
   unfold Ig;simp only [sW,sO,wM,decide_true,Bool.true_or,and_true];rw [uQ];intro q a0 e
   exact aN (sM.2 ⟨q,a0,by simpa using e⟩)⟩
  rw [he] at this;simp at this
 have:=QY _ _ (IQ b.2.length) cU;rw [r_,td] at this;omega
section
variable {by_:List Int} (yW:by_.length≤1000) (KG:∀ x∈by_,0≤x∧x≤255)
include yW KG
theorem abb (p5:qS b) {D:Row} {k:Row→Int→Row→Option (List Row)}:∀ (m:Nat) (own:Row) (at_:Nat),Kv b D own→at_≤D.length+own.length→b.2.length-(D.length+own.length)<m→(own≠[]∨D.length<b.2.length) →
  ∃ IM L2,Kv b D IM∧IM≠[]∧L2≤D.length+IM.length∧Jo b by_ k m (D++own) at_ own=k (D++IM) ((L2:Nat):Int) IM
 | 0,_,_,_,_,h,_=>absurd h (by omega)
 | m+1,own,at_,kx,cc,hm,bO=>by
   have dm:=p5.len;have hlen:=kx.len;have cY:(Je b (D++own) own).length≤2*b.2.length:=TC (b:=b) (done:=D++own) (own:=own) b.2.length;have step:∀ (x PD:Nat),PD≤at_+1→(ak:x<(Je b (D++own) own).length) →
     ∃ IM L2,Kv b D IM∧IM≠[]∧L2≤D.length+IM.length∧Ih (D++own) own (Je b (D++own) own) (fun r0 si HJ=>Jo b by_ k m r0 si HJ) (PD:Int) ((x:Nat):Int)=k (D++IM) ((L2:Nat):Int) IM:=fun x PD af ak=>by
    (have XI:=kx.next (sU ak));have afs:=XI.len;rw [sC,tz] at afs;obtain ⟨o,t,cb,b6,er,iF⟩:=abb p5 (k:=k) m (own++[(Je b (D++own) own)[x]]) PD XI (by rw [sC,tz];omega) (by rw [sC,tz];omega) (.inl (by simp));refine ⟨o,t,cb,b6,er,?_⟩;rw [Ih,qz ⟨by omega,by omega⟩,qz (by omega),qz ⟨by omega,by omega⟩,qz (by rw [sC];omega),ry ak,sH];exact iF
   rw [Jo];have key:=abd (b:=b) (done:=D++own) (own:=own) p5 (by rw [sC];omega) (by omega) (fun p aB=>kx.ok p (List.mem_append_right _ aB))
    (k:=fun oJ =>
     if (decide ((oJ.length:Int)=(0:Int)))=true then
      k (D++own) (at_:Int) own
     else
      if (decide ((0:Int)<(by_.length:Int)))=true then
       qg ((by_.length:Int)≠0) <|
       qg (0≤((at_:Int).tmod (by_.length:Int))∧((at_:Int).tmod (by_.length:Int))<(by_.length:Int)) <|
       qg ((oJ.length:Int)≠0) <|
       Ih (D++own) own oJ (fun r0 si HJ =>
         Jo b by_ k m r0 si HJ) (w ((at_:Int)+(1:Int))) ((w (ix by_ ((at_:Int).tmod (by_.length:Int)))).tmod (oJ.length:Int))
      else
       Ih (D++own) own oJ (fun r0 si HJ =>
         Jo b by_ k m r0 si HJ) (at_:Int) (0:Int)) qc 0 0 rfl (by omega) (r6 (by omega))
   rw [show (upto 0).flatMap (Ke b (D++own) own)=[] from rfl] at key;rw [key];by_cases aV:Je b (D++own) own=[]
   ·have nK:own≠[]:=by
     rcases bO with h | h
     ·exact h
     ·rintro rfl;exact aha kx h aV
    exact ⟨own,at_,kx,nK,cc,by rw [if_pos (by simp [aV])]⟩
   ·have SF:0<(Je b (D++own) own).length:=tS.2 aV;rw [if_neg (by simpa using aV)];by_cases iI:0<by_.length
    ·have Tj:(at_:Int).tmod (by_.length:Int)=((at_ % by_.length:Nat):Int):=rfl;have jP:at_ % by_.length<by_.length:=vg _ iI;have ae:=KG _ (sU jP);(have hw:w by_[at_ % by_.length]=((by_[at_ % by_.length].toNat:Nat):Int):=by rw [JH (by omega)];omega);rw [if_pos (decide_eq_true (by omega)),qz (by omega),Tj,qz ⟨by omega,by omega⟩,qz (by omega),ry jP,hw,sm at_ (by omega)];have y5:((by_[at_ % by_.length].toNat:Nat):Int).tmod ((Je b (D++own) own).length:Int)=((by_[at_ % by_.length].toNat % (Je b (D++own) own).length:Nat):Int):=rfl;rw [y5];exact step _ (at_+1) (sB _) (vg _ SF)
    ·rw [if_neg (by rw [decide_eq_true_eq];omega)];exact step 0 at_ (by omega) SF
theorem aba (p5:qS b):∀ (m:Nat) (R:List Row) (at_:Nat),Kv b R.flatten []→(∀ r∈R,r≠[]∧∃ a c,qN b a r=some c)→at_≤R.flatten.length→b.2.length-R.flatten.length<m →
  ∃ M3,LQ b by_ (fun z=>some z) m R R.flatten (at_:Int)=some M3∧RowsOf b (upto b.2.length) M3∧∀ r∈M3,r≠[]
 | 0,_,_,_,_,_,h=>absurd h (by omega)
 | m+1,R,at_,kx,jD,cc,hm=>by
   have dm:=p5.len;have hlen:=kx.len;rw [LQ];by_cases h:(R.flatten.length:Int)<(b.2.length:Int)
   ·rw [if_pos (decide_eq_true h)];have XO:R.length≤R.flatten.length:=by
     clear kx cc hm hlen h
     induction R with
     | nil=>simp
     | cons r R a_ =>
       have:=tS.2 (jD r (by simp)).1;have:=a_ fun q a0=>jD q (by simp [a0]);rw [tO,sC,sV];omega
    obtain ⟨IM,L2,cb,b6,er,iF⟩:=abb yW KG p5 (D:=R.flatten) (k:=fun Gx rU rH=>qg ((R.length+1)*24≤140737488355328) <| LQ b by_ (fun z=>some z) m (R++[rH]) Gx rU) qc [] at_ kx (by simpa using cc) (by simp;exact r6 (by omega)) (.inr (by omega));rw [sW] at iF;have aml:=cb.len;have ad:0<IM.length:=tS.2 b6;(have e:(R++[IM]).flatten=R.flatten++IM:=by simp);rw [iF,qz (by omega)];rw [←e];refine aba p5 m (R++[IM]) L2 ?_ (fun r aj=>?_) ?_ ?_
    ·rw [e];refine ⟨by simpa using cb.ok,by simpa using cb.sq,.inl rfl⟩
    ·rcases ti.1 aj with aj | aj
     ·exact jD r aj
     ·obtain rfl:=ta.1 aj;rcases cb.go with h | ⟨a,h⟩
      ·exact absurd h b6
      ·exact ⟨b6,a,_,h⟩
    ·rw [e,sC];exact er
    ·rw [e,sC];omega
   ·rw [if_neg (by simpa using h)];refine ⟨R,rfl,⟨fun r aj p aB=>?_,fun r aj=>(jD r aj).2,?_⟩,fun r aj=>(jD r aj).1⟩
    ·exact kx.ok p (by rw [sW];exact uG.2 ⟨r,aj,aB⟩)
    ·(have jR:(R.flatten.map (·.1)).Nodup:=by simpa using kx.sq);have g6:∀ x∈R.flatten.map (·.1),x∈upto b.2.length:=fun x ak=>by
      obtain ⟨p,aB,rfl⟩:=sM.1 ak;have:=kx.ok p (by rw [sW];exact aB);exact HP.2 ⟨this.1,this.2.1⟩
     refine (List.perm_ext_iff_of_nodup jR (IQ _)).2 fun x=>⟨g6 x,fun ak=>?_⟩;refine Classical.byContradiction fun aN=>?_;have:=QY (x::R.flatten.map (·.1)) (upto b.2.length) (List.nodup_cons.2 ⟨aN,jR⟩) fun y aZ=>by
      rcases sL.1 aZ with rfl | aZ
      ·exact ak
      ·exact g6 y aZ
     rw [r_,sV,td] at this;omega
theorem ak1 (p5:qS b):∃ R,Q9 b by_=some R∧RowsOf b (upto b.2.length) R∧∀ r∈R,r≠[]:=by
 have dm:=p5.len;have:=aba yW KG p5 qc [] 0 ⟨by simp,by simp,.inl rfl⟩ (by simp) (by simp) (r6 (by omega));exact this
end
end
end Go.Proofs.YtfakoboiahbhaaaGreat.Ab


namespace Go.Proofs.YtfakoboiahbhaaaGreat.Ab
open Go
set_option maxRecDepth 20000
set_option maxHeartbeats 4000000
def rv (l:List Int):Nat→List Int
 | 0=>[]
 | k+1=>if 0<k∧l.getD k 0=l.getD (k-1) 0 then rv l k else rv l k++[l.getD k 0]
theorem Sl (l:List Int):∀ k,(rv l k).length≤k
 | 0=>sB _
 | k+1=>by
   have:=Sl l k;simp only [rv];split
   ·omega
   ·simp;omega
theorem ad3 (lo id off len:Nat) (H:List ar) (l:List I) (bC:lo≤id) (ah:H[id]?=some (.cells l)) (h:off+len=l.length) :
  k4 Go.Proofs.Tryz.prog lo #[38] H [.ref id off len none 1]=some (.tuple [],H.set id (.cells (l.take off++List.replicate len (hW 0)))):=by
 rw [Sk lo id off len H l bC ah (by omega),List.drop_eq_nil_of_le (by omega),sW]
theorem R' (l:List Int) (k x:Nat) (h:(rv l k).length≤x) (ak:x<l.length):((rv l k++l.drop (rv l k).length).map hW)[x]?=some (hW (l.getD x 0)):=by
 rw [List.getElem?_map,List.getElem?_append_right h,List.getElem?_drop,show (rv l k).length+(x-(rv l k).length)=x by omega,List.getElem?_eq_getElem ak];simp [ak]
theorem aiT (l:List Int) (A:List Int) (v:Int) (h:A.length<l.length):((A++l.drop A.length).map hW).set A.length (hW v)=((A++[v])++l.drop (A++[v]).length).map hW:=by
 rw [tj,List.set_append_right _ _ (by simp),td,tY,tn h,sG,List.set_cons_zero];simp
theorem X' (l:List Int) (x:Nat) (ak:x<l.length):(l.map hW)[x]?=some (hW (l.getD x 0)):=by simp [ak]
section
variable {H:List ar} {id lo:Nat}
theorem aee (bC:lo≤id) (l:List Int) (aV:0<l.length) (ao:l.length≤1000) (ah:H[id]?=some (.cells (l.map hW))) {Q:cA→List I→List ar→Prop}
  (bp:∀ T RT,c5 T 2=.ref id 0 (rv l l.length).length none 1→RT=H.set id (.cells ((rv l l.length++List.replicate (l.length-(rv l l.length).length) 0).map hW))→Q .ret T RT) :
  dR Go.Proofs.Tryz.prog R6 74 lo none NI (Hc 61 [(0,.ref id 0 l.length none 1),(2,.ax [] 0 (.uniq 1))]) H Q:=by
 have aE:=(sv.1 ah).1;have CI:Nat.ble lo id=true:=Nat.ble_eq_true_of_le bC;have gs:∀ c:ar,(H.set id c)[id]?=some c:=fun c=>by rw [List.getElem?_set_self aE]
 have Jb:∀ c e:ar,((H.set id c).set id e)[id]?=some e:=fun c e=>by rw [te,gs]
 have same:H.set id (.cells (l.map hW))=H:=by
  obtain ⟨ad,af⟩:=sv.1 ah;rw [←af,List.set_getElem_self]
 unfold NI;obtain ⟨nm,Hi⟩:∃ c,O9=c:=⟨_,rfl⟩;rw [Hi];conv=>whnf
 have fin:∀ T,c5 T 2=.ref id 0 l.length none 1→rv l l.length=l→Q .ret T H:=fun T bX e=>bp _ _ (by rw [bX,e]) (by rw [e,tY,we,sW,same]);by_cases af:((l.length:Nat):Int)<2
 ·rw [decide_eq_true af];conv=>whnf
  have:l.length=1:=by omega
  refine fin _ rfl ?_
  match l,this with
  | [x],_=>rfl
 rw [decide_eq_false af];conv=>whnf
 refine .intro (fun m T H'=>∃ k,1≤k∧k≤l.length∧m=l.length-k∧rv l k=l.take k∧T=Hc 61 [(0,.ref id 0 l.length none 1),(3,hW (k:Nat))]∧H=H') (l.length-1) ⟨1,by omega,by omega,rfl,?_,rfl,rfl⟩ ?_
 ·match l,aV with
  | x::r,_=>rfl
 rintro m T H' ⟨k,C_,pI,rfl,he,rfl,rfl⟩;subst Hi;unfold O9 Y1;obtain ⟨fZ,Hg⟩:∃ c,UD=c:=⟨_,rfl⟩;rw [Hg];conv=>whnf
 by_cases av:(k:Int)<(l.length:Int)
 ·rw [decide_eq_true av];conv=>whnf
  refine ⟨by omega,?_⟩;conv=>whnf
  refine Es ah ?_;conv=>whnf
  refine Es (x:=hW (l.getD k 0)) (by rw [show 0+(k:Int).toNat*1=k by simp];exact X' l k (by omega)) ?_;conv=>whnf
  rw [show IntKind.i64.wrap ((k:Int)-1)=((k-1:Nat):Int) by rw [Jn _ (by omega) (by omega)];omega];refine ⟨by omega,?_⟩;conv=>whnf
  refine Es ah ?_;conv=>whnf
  refine Es (x:=hW (l.getD (k-1) 0)) (by rw [show 0+(((k-1:Nat)):Int).toNat*1=k-1 by simp];exact X' l (k-1) (by omega)) ?_;conv=>whnf
  by_cases a3:l.getD k 0=l.getD (k-1) 0
  ·rw [decide_eq_true a3];(conv=>whnf);(have OJ:rv l (k+1)=l.take k:=by simp only [rv];rw [if_pos ⟨by omega,a3⟩,he]);subst Hg;unfold UD;obtain ⟨bt,er⟩:∃ c,UB=c:=⟨_,rfl⟩;obtain ⟨dY,Cs⟩:∃ c,UC=c:=⟨_,rfl⟩;rw [er,Cs];(conv=>whnf);refine ⟨rfl,by omega,fun _=>?_,fun h=>by omega⟩;(conv=>whnf);refine .intro (fun m T H'=>∃ q,1≤q∧k+q≤l.length∧m=l.length-q∧(rv l (k+q)).length+1≤k+q∧T=Hc 61 [(0,.ref id 0 l.length none 1),(3,hW (rv l (k+q)).length),(4,.ref id (0+(k:Int).toNat*1) (l.length-(k:Int).toNat) none 1),(5,hW (q:Nat))]∧H'=H.set id (.cells ((rv l (k+q)++l.drop (rv l (k+q)).length).map hW))) (l.length-1) ⟨1,sB _,by omega,rfl,by rw [OJ];simp;omega,?_,?_⟩ ?_
   ·rw [OJ,tf,tI (by omega)];rfl
   ·rw [OJ,tf,tI (by omega),uW];exact same.symm
   rintro m T H' ⟨q,afG,Dp,rfl,hw,rfl,rfl⟩;subst er;unfold UB YZ;obtain ⟨a',cb⟩:∃ c,UA=c:=⟨_,rfl⟩;rw [cb];(conv=>whnf);by_cases a0:(q:Int)<((l.length-k:Nat):Int)
   ·rw [show decide ((q:Int)<((l.length-(k:Int).toNat:Nat):Int))=true from decide_eq_true a0];(conv=>whnf);refine ⟨by simp;omega,?_⟩;(conv=>whnf);refine Es (gs _) ?_;(conv=>whnf);refine Es (x:=hW (l.getD (k+q) 0)) (by rw [show 0+(k:Int).toNat*1+(q:Int).toNat*1=k+q by simp];exact R' l (k+q) (k+q) (by omega) (by omega)) ?_;(conv=>whnf);rw [show IntKind.i64.wrap ((q:Int)-1)=((q-1:Nat):Int) by rw [Jn _ (by omega) (by omega)];omega];refine ⟨by simp;omega,?_⟩;(conv=>whnf);refine Es (gs _) ?_;(conv=>whnf);refine Es (x:=hW (l.getD (k+q-1) 0)) (by rw [show 0+(k:Int).toNat*1+(((q-1:Nat)):Int).toNat*1=k+q-1 by simp;omega];exact R' l (k+q) (k+q-1) (by omega) (by omega)) ?_;(conv=>whnf);by_cases ak:l.getD (k+q) 0=l.getD (k+q-1) 0
    ·rw [decide_eq_false (not_not_intro ak)];(conv=>whnf);(have e:rv l (k+(q+1))=rv l (k+q):=by rw [←tZ];simp only [rv];rw [if_pos ⟨by omega,ak⟩]);refine ⟨l.length-(q+1),by omega,q+1,by omega,by omega,rfl,by rw [e];omega,?_,by rw [e]⟩;rw [e,←rJ q (by omega)];rfl
    ·rw [decide_eq_true ak];(conv=>whnf);(have e:rv l (k+(q+1))=rv l (k+q)++[l.getD (k+q) 0]:=by rw [←tZ];simp only [rv];rw [if_neg fun h=>ak h.2]);subst cb;refine I5 fun nc Hv=>?_;unfold UA;(conv=>whnf);refine ⟨by simp;omega,?_⟩;(conv=>whnf);refine Es (gs _) ?_;(conv=>whnf);refine Es (x:=hW (l.getD (k+q) 0)) (by rw [show 0+(k:Int).toNat*1+(q:Int).toNat*1=k+q by simp];exact R' l (k+q) (k+q) (by omega) (by omega)) ?_;(conv=>whnf);refine ⟨by omega,?_⟩;(conv=>whnf);rw [CI];(conv=>whnf);refine Es (gs _) ?_;(conv=>whnf);refine Gm (by simp;omega) ?_;(conv=>whnf);refine Hv _ _ _ ?_;(conv=>whnf);refine ⟨l.length-(q+1),by omega,q+1,by omega,by omega,rfl,by rw [e,sC,tz];omega,?_,?_⟩
     ·rw [e,sC,tz,←rJ q (by omega),←rJ (rv l (k+q)).length (by omega)];rfl
     ·rw [te,e,show 0+((rv l (k+q)).length:Int).toNat*1=(rv l (k+q)).length by simp,aiT l (rv l (k+q)) _ (by omega)]
   ·rw [show decide ((q:Int)<((l.length-(k:Int).toNat:Nat):Int))=false from decide_eq_false a0];(conv=>whnf);(obtain rfl:q=l.length-k:=by omega);rw [show k+(l.length-k)=l.length by omega] at hw ⊢;subst Cs;unfold UC Y0;(conv=>whnf);refine ⟨rfl,by omega,fun _=>?_,fun h=>by omega⟩;(conv=>whnf);refine ⟨_,_,fun C=>(ad3 lo id _ _ _ _ bC (gs _) (by simp)),?_⟩;(conv=>whnf);refine ⟨rfl,by omega,?_⟩;(conv=>whnf);refine bp _ _ rfl ?_;rw [te];have e:(List.take (0+((rv l l.length).length:Int).toNat*1) ((rv l l.length++l.drop (rv l l.length).length).map hW)++List.replicate (l.length-((rv l l.length).length:Int).toNat) (hW 0))=(rv l l.length++List.replicate (l.length-(rv l l.length).length) 0).map hW:=by
     simp
    rw [←e]
  ·rw [decide_eq_false a3];(conv=>whnf);refine ⟨l.length-(k+1),by omega,k+1,by omega,by omega,rfl,?_,by rw [←rJ k (by omega)];rfl,rfl⟩;simp only [rv];rw [if_neg fun h=>a3 h.2,he,tT (by omega)];simp [show k<l.length by omega]
 ·rw [decide_eq_false av];conv=>whnf
  obtain rfl:k=l.length:=by omega
  exact fin _ rfl (by rw [he,tU])
theorem aed (l:List Int) (aV:0<l.length) (ao:l.length≤1000) (bC:lo≤H.length) :
  Sem Go.Proofs.Tryz.prog (.fn 74) [.ax (l.map hW) l.length (.uniq 1)] H lo (.ref H.length 0 (rv l l.length).length none 1) (H++[.cells ((rv l l.length++List.replicate (l.length-(rv l l.length).length) 0).map hW)]):=by
 refine HB et Yk rfl ⟨by simp,fun j ad af=>by rw [sQ af]⟩ fun Q bp=>?_;unfold Uz;obtain ⟨B8,JS⟩:∃ c,NI=c:=⟨_,rfl⟩;rw [JS];conv=>whnf
 subst JS;have h:=aee (H:=H++[.cells (l.map hW)]) (id:=H.length) bC l aV ao (by simp) (Q:=Q) fun T RT bX ak=>bp _ _ _ ⟨.inr rfl,by rw [ak,rB];exact ⟨rfl,fun j o aw=>.inr aw⟩,by simp only [j',bX,Option.map_some,hl]⟩;unfold NI at h ⊢;obtain ⟨nm,Hi⟩:∃ c,O9=c:=⟨_,rfl⟩;rw [Hi] at h ⊢;conv=>whnf
 refine .inl ⟨by omega,?_⟩;conv=>whnf
 conv at h=>whnf
 exact h
end

def VV (n:Nat):Prop:=∀ (l:List Int),l.length≤n→∀ (H:List ar) (id lo:Nat),lo≤id→H[id]?=some (.cells (l.map hW)) →
 ∃ N,Sem Tryz.prog (.fn 73) [.ref id 0 l.length none 1] H lo (.tuple []) (H.set id (.cells ((Hq l).map hW))++List.replicate N .dead)
theorem ai0:VV 12:=fun l h H id lo bC ah=>⟨0,by rw [we,sW];exact Zu l bC h rfl ah⟩
section
variable {H:List ar} {lo:Nat}
theorem afZ:Sem Go.Proofs.Tryz.prog (.fn 115) [.ax [] 0 (.own 1),hW 0,hW 0] H lo (.tuple []) H:=by
 refine HB et Yf rfl (bc.refl _ _) fun Q bp=>?_;unfold Uh;conv=>whnf
 refine .intro (fun m T H'=>T=Hc 49 [(0,.ax [] 0 (.own 1)),(1,hW 0),(2,hW 0),(6,hW 1)]∧H=H') 0 ⟨rfl,rfl⟩ ?_;rintro m T H' ⟨rfl,rfl⟩;conv=>whnf
 exact bp _ _ _ ⟨.inl rfl,⟨by simp,fun j o aw=>.inr aw⟩,rfl⟩
theorem ahx {Kd:Int}:Sem Go.Proofs.Tryz.prog (.fn 96) [.ax [] 0 (.own 1),hW 0,hW 0,hW Kd] H lo (.tuple []) H:=by
 refine HB et Ym rfl (bc.refl _ _) fun Q bp=>?_;unfold U1;obtain ⟨Sb,J5⟩:∃ c,O'=c:=⟨_,rfl⟩;rw [J5];conv=>whnf
 refine .intro (fun m T H'=>T=Hc 134 [(0,.ax [] 0 (.own 1)),(1,hW 0),(2,hW 0),(3,hW Kd),(8,B true),(9,B true)]∧H'=H) 0 ⟨rfl,rfl⟩ ?_;rintro m T H' ⟨rfl,rfl⟩;subst J5;unfold O';obtain ⟨a',cb⟩:∃ c,O_=c:=⟨_,rfl⟩;obtain ⟨Sa,L'⟩:∃ c,U2=c:=⟨_,rfl⟩;rw [cb,L'];conv=>whnf
 subst cb;unfold O_;conv=>whnf
 refine ⟨_,_,HL afZ,?_⟩;conv=>whnf
 exact bp _ _ _ ⟨.inr rfl,⟨rfl,fun j o aw=>.inr aw⟩,rfl⟩
theorem aiX:Sem Go.Proofs.Tryz.prog (.fn 73) [.ax [] 0 (.uniq 1)] H lo (.tuple []) H:=by
 refine HB et Yj rfl (bc.refl _ _) fun Q bp=>?_;unfold Uy;conv=>whnf
 refine ⟨by first | rfl | simp only [List.all_cons,List.all_nil,Nv,ND,Nw,Ny,Nx,Nz,NG,NF,K_,NA,NB,NC,Bool.and_true,Bool.and_self],_,PF 0 (by decide),?_⟩
 conv=>whnf
 refine ⟨_,_,HL ahx,?_⟩;conv=>whnf
 exact bp _ _ _ ⟨.inl rfl,⟨by simp,fun j o aw=>.inr aw⟩,rfl⟩
theorem ad6:Sem Go.Proofs.Tryz.prog (.fn 75) [.ax [] 0 .shared] H lo (.ax [] 0 (.uniq 1)) H:=by
 refine HB et Yl rfl (bc.refl _ _) fun Q bp=>?_;unfold UE UF;conv=>whnf
 refine ⟨.dw,H,fun C=>by kernel_rfl,?_⟩;conv=>whnf
 refine ⟨?_,?_⟩
 ·conv=>whnf
  exact bp _ _ _ ⟨.inr rfl,⟨rfl,fun j o aw=>.inr aw⟩,rfl⟩
 ·conv=>whnf
  refine ⟨rfl,by omega,rfl,by omega,?_⟩;conv=>whnf
  exact bp _ _ _ ⟨.inr rfl,⟨rfl,fun j o aw=>.inr aw⟩,rfl⟩
theorem aec:Sem Go.Proofs.Tryz.prog (.fn 74) [.ax [] 0 (.uniq 1)] H lo (.ax [] 0 .shared) H:=by
 refine HB et Yk rfl (bc.refl _ _) fun Q bp=>?_;unfold Uz NI;obtain ⟨nm,Hi⟩:∃ c,O9=c:=⟨_,rfl⟩;rw [Hi];conv=>whnf
 refine .inr ⟨rfl,?_⟩;conv=>whnf
 exact bp _ _ _ ⟨.inr rfl,⟨rfl,fun j o aw=>.inr aw⟩,rfl⟩
end

theorem aiN {b:p9} {rows:List Row} {k:Nat} (aV:rQ b=0) (av:k<rows.length) (aO:∀ r∈rows.take k,(rM b r).2.2=0) (ag:(rM b rows[k]).2.2≠0):IY b rows=(0,(rM b rows[k]).2.2):=by
 unfold IY;rw [if_neg (by simp [aV])]
 have:rows.find? (fun r=>decide ((rM b r).2.2≠0))=some rows[k]:=by
  obtain ⟨x,ak⟩:∃ x,x=rows[k]:=⟨_,rfl⟩;have e:rows=rows.take k++x::rows.drop (k+1):=by rw [ak,←tn av,uW]
  rw [←ak] at ag ⊢;conv=>lhs;rw [e]
  rw [List.find?_append,vH.2 (fun r aj=>by simpa using aO r aj),Option.none_or,List.find?_cons_of_pos (by simpa using ag)]
 rw [this]
theorem aiO {b:p9} {rows:List Row} (aV:rQ b=0) (aO:∀ r∈rows,(rM b r).2.2=0):IY b rows=if ((rows.flatten).map (·.1)).Nodup then (if (rows.flatten).length≠b.2.length then ((0:Int),(15:Int)) else ((rows.length:Int),0)) else (0,11):=by
 unfold IY;rw [if_neg (by simp [aV]),vH.2 (fun r aj=>by simpa using aO r aj)]
theorem W8 {l:List Int} (ai:l.Pairwise (·≤·)):∀ k,k≤l.length→((rv l k).length=k↔(l.take k).Nodup)
 | 0,_=>by simp [rv]
 | k+1,av=>by
   have a_:=W8 ai k (by omega);have hle:=Sl l k;(have I2:k<l.length:=by omega);(have e1:l.getD k 0=l[k]:=by simp [I2]);have afO:l.take (k+1)=l.take k++[l[k]]:=tT I2;have jR:(l.take (k+1)).Nodup↔(l.take k).Nodup∧l[k] ∉ l.take k:=by
    rw [afO,u6];constructor
    ·rintro ⟨a,_,c⟩;exact ⟨a,fun hm=>c _ hm _ (by simp) rfl⟩
    ·rintro ⟨a,c⟩;exact ⟨a,by simp,fun x ak y aZ e=>c (by simp at aZ;subst aZ;subst e;exact ak)⟩
   have kF:l[k]∈l.take k↔0<k∧l.getD k 0=l.getD (k-1) 0:=by
    constructor
    ·intro hm;obtain ⟨i,hi,e⟩:=List.getElem_of_mem hm;(have XS:i<k:=by simp at hi;omega);rw [List.getElem_take] at e;(have C_:k-1<l.length:=by omega);refine ⟨by omega,?_⟩;rw [e1,show l.getD (k-1) 0=l[k-1] by simp [C_]];have ad:=tG.1 ai (k-1) k C_ I2 (by omega);have af:l[i]≤l[k-1]:=by
      rcases Nat.lt_or_ge i (k-1) with h | h
      ·exact tG.1 ai i (k-1) (by omega) C_ h
      ·have:i=k-1:=by omega
       subst this;exact Int.le_refl _
     omega
    ·rintro ⟨ad,af⟩;(have C_:k-1<l.length:=by omega);rw [e1,show l.getD (k-1) 0=l[k-1] by simp [C_]] at af;rw [af];exact List.mem_iff_getElem.2 ⟨k-1,by simp;omega,by rw [List.getElem_take]⟩
   rw [jR];simp only [rv];split
   ·rename_i h;constructor
    ·intro af;omega
    ·rintro ⟨_,aG⟩;exact absurd (kF.2 h) aG
   ·rename_i h;rw [sC,tz];constructor
    ·intro af;exact ⟨a_.1 (by omega),fun hm=>h (kF.1 hm)⟩
    ·rintro ⟨aG,_⟩;rw [a_.2 aG]
theorem aiY (l:List Int):(Hq l).Pairwise (·≤·):=by
 have:=(Pa Sort.swo_ltInt l).2;refine this.imp fun h=>?_;simp only [Sort.ltInt,decide_eq_false_iff_not] at h;omega
theorem aea (l:List Int):(rv (Hq l) (Hq l).length).length<l.length↔¬ l.Nodup:=by
 have ad:=W8 (aiY l) (Hq l).length (sB _);have af:=Sl (Hq l) (Hq l).length;have aG:=QT l;rw [tU,(Zt l).nodup_iff] at ad;rw [←ad];omega
theorem ad2 {n:Nat} (ai:VV n) (aN:n≤1000) {b:p9} {rows:List Row} (ag:b.2.length≤1000) (aj:rows.length≤1000) (Dw:∀ r∈rows,r.length≤1000) (ay:(∀ r∈rows,(rM b r).2.2=0)→rows.flatten.length≤n) :
  qB 25 [(.agg [(hW b.1),(.ax (b.2.flatMap p0) b.2.length .shared)]),(.ax (rows.map (qk p0)) rows.length .shared)] (.tuple [(hW (IY b rows).1),(hW (IY b rows).2)]):=by
 refine q5 et agd rfl (JZ (p2 rfl (p2 rfl rfl))) fun Q bp=>?_;have jD:∀ T H,I9 [.tmp 4,.tmp 5] (.tuple [(hW (IY b rows).1),(hW (IY b rows).2)]) .ret T H→Q .ret T H:=fun T H bI=>bp _ T H bI;clear bp;have Md:∀ (x y:Int) T H,IY b rows=(x,y)→I9 [.tmp 4,.tmp 5] (.tuple [hW x,hW y]) .ret T H→Q .ret T H:=fun x y T H e h=>by
  rw [e] at jD;exact jD T H h
 unfold YY;obtain ⟨adI,Ox⟩:∃ c,Ur=c:=⟨_,rfl⟩;rw [Ox];conv=>whnf
 subst Ox;unfold Ur;obtain ⟨a',cb⟩:∃ c,Up=c:=⟨_,rfl⟩;obtain ⟨WZ,Lm⟩:∃ c,Uq=c:=⟨_,rfl⟩;rw [cb,Lm];conv=>whnf
 refine ⟨qw.pl,_,aaU (Q8 b ag),?_⟩;conv=>whnf
 subst cb;unfold Up;conv=>whnf
 by_cases aV:rQ b≠0
 ·rw [decide_eq_true aV];conv=>whnf
  exact Md 0 (rQ b) _ _ (if_pos aV) (LG rfl rfl)
 rw [decide_eq_false aV];have aV:=vF.1 aV;conv=>whnf
 subst Lm;unfold Uq;obtain ⟨nk,HC⟩:∃ c,Ux=c:=⟨_,rfl⟩;obtain ⟨B8,JS⟩:∃ c,QB=c:=⟨_,rfl⟩;obtain ⟨WY,K2⟩:∃ c,QA=c:=⟨_,rfl⟩;rw [HC,JS,K2];conv=>whnf
 have P5:∀ k,(rows.take k).flatten.length≤1000*rows.length:=fun k=>by
  refine Nat.le_trans (Su fun r aj=>Dw r (List.mem_of_mem_take aj)) ?_;rw [tf];exact Nat.mul_le_mul_left _ (Nat.min_le_right _ _)
 have ami:1000*rows.length≤1000000:=by omega
 refine .intro (fun m T H=>∃ (k:Nat) (Y:List ar),k≤rows.length∧(∀ r∈rows.take k,(rM b r).2.2=0)∧m=rows.length-k∧T=Hc 73 [(1,(.ax (rows.map (qk p0)) rows.length .shared)),(2,.ptr 0 0),(7,.ax (((rows.take k).flatten.map (·.1)).map hW) ((rows.take k).flatten.map (·.1)).length (.uniq 1)),(20,(.ax (rows.map (qk p0)) rows.length .shared)),(21,hW rows.length),(22,hW (k:Int))]∧H=ar.cells [(hW b.1),(.ax (b.2.flatMap p0) b.2.length .shared)]::Y) _ ⟨0,[],by omega,by simp,rfl,rfl,rfl⟩ ?_;rintro m T H ⟨k,Y,av,aO,rfl,rfl,rfl⟩;conv=>whnf
 refine Ip (fun h=>?_) (fun h=>?_)
 ·have I2:k<rows.length:=by omega
  subst HC;unfold Ux;obtain ⟨fZ,Hg⟩:∃ c,Uw=c:=⟨_,rfl⟩;rw [Hg];conv=>whnf
  refine ⟨⟨by omega,h⟩,?_⟩;rw [se (qk p0) rows (k:Int) ⟨by omega,h⟩,ry I2];conv=>whnf
  subst Hg;unfold Uw;obtain ⟨bb,b6⟩:∃ c,Us=c:=⟨_,rfl⟩;obtain ⟨dY,Cs⟩:∃ c,Uv=c:=⟨_,rfl⟩;rw [b6,Cs];conv=>whnf
  refine ⟨qw.pl,_,Q7 (Q6 b rows[k] ag (Dw _ (sU I2))),?_⟩;conv=>whnf
  subst b6;unfold Us;conv=>whnf
  by_cases he:(rM b rows[k]).2.2≠0
  ·rw [decide_eq_true he];(conv=>whnf);exact Md 0 _ _ _ (aiN aV I2 aO he) (LG rfl rfl)
  rw [decide_eq_false he];have he:=vF.1 he;conv=>whnf
  subst Cs;unfold Uv;obtain ⟨b9,iF⟩:∃ c,Uu=c:=⟨_,rfl⟩;rw [iF];conv=>whnf
  have amp:=Dw _ (sU I2);have y0:=P5 k;refine .intro (fun m T H=>∃ (j:Nat) (Y:List ar),j≤rows[k].length∧m=rows[k].length-j∧T=Hc 73 [(1,(.ax (rows.map (qk p0)) rows.length .shared)),(2,.ptr 0 0),(7,.ax ((((rows.take k).flatten++rows[k].take j).map (·.1)).map hW) (((rows.take k).flatten++rows[k].take j).map (·.1)).length (.uniq 1)),(20,(.ax (rows.map (qk p0)) rows.length .shared)),(21,hW rows.length),(22,hW (k:Int)),(36,(.ax (rows[k].flatMap p0) rows[k].length .shared)),(37,hW rows[k].length),(38,hW (j:Int))]∧H=ar.cells [(hW b.1),(.ax (b.2.flatMap p0) b.2.length .shared)]::Y) _ ⟨0,Y,by omega,rfl,by rw [tD,sW];rfl,rfl⟩ ?_;rintro m T H ⟨j,rL,aw,rfl,rfl,rfl⟩;conv=>whnf
  refine Ip (fun af=>?_) (fun af=>?_)
  ·(have jL:j<rows[k].length:=by omega);subst iF;unfold Uu;obtain ⟨bt,er⟩:∃ c,Ut=c:=⟨_,rfl⟩;rw [er];(conv=>whnf);refine ⟨⟨by omega,af⟩,?_⟩;rw [qX p0 2 qv rows[k] (j:Int) ⟨by omega,af⟩,ry jL];(conv=>whnf);refine Es (x:=ar.cells [(hW (0:Int)),(hW (0:Int))]) (by first | exact qy.h | rfl | (simp [sy,I.settle];done)) ?_
   (conv=>whnf);obtain ⟨A,aL⟩:∃ A,A=((rows.take k).flatten++rows[k].take j).map (·.1):=⟨_,rfl⟩;have SP:A.length≤1002000:=by
    rw [aL,td,sC,tf];omega
   have Cx:A++[rows[k][j].1]=((rows.take k).flatten++rows[k].take (j+1)).map (·.1):=by
    rw [tT jL,←sH,tj,←aL];rfl
   rw [←aL];subst er;unfold Ut;(conv=>whnf);have VP:(A.length:Int)=(A.length:Int)∧0≤(A.length:Int)∧(A.length:Int)≤(A.length:Int):=⟨rfl,by omega,by omega⟩;refine ⟨VP,?_⟩;erw [Zq hW A (A.length:Int) VP.2];rw [Int.toNat_natCast,tU];(conv=>whnf);refine Es (x:=ar.cells [hW rows[k][j].1,hW rows[k][j].2]) (by first | exact qy.h | rfl | (simp [sy,I.settle];done)) ?_
   (conv=>whnf);refine ⟨rfl,by omega,by omega,by omega,by simp,?_⟩;erw [Kx hW A rows[k][j].1];rw [Cx];(conv=>whnf);exact ⟨rows[k].length-(j+1),by omega,j+1,rL++[ar.cells [hW rows[k][j].1,hW rows[k][j].2]],by omega,rfl,by rw [←rJ j (by omega)];rfl,by rw [rB];rfl⟩
  ·(have ft:j=rows[k].length:=by omega);(have e:(rows.take k).flatten++rows[k].take j=(rows.take (k+1)).flatten:=by rw [ft,tU,tT I2,vJ];simp);rw [e];(conv=>whnf);refine ⟨rows.length-(k+1),by omega,k+1,rL,by omega,fun r aj=>?_,rfl,by rw [←rJ k (by omega)];rfl,rfl⟩;rw [tT I2] at aj;rcases ti.1 aj with aj | aj
   ·exact aO r aj
   ·rw [ta.1 aj];exact he
 ·obtain rfl:k=rows.length:=by omega
  rw [tU] at aO ⊢;have HH:=aiO aV aO;have hlen:=ay aO;obtain ⟨A,aL⟩:∃ A,A=rows.flatten.map (·.1):=⟨_,rfl⟩;have SP:A.length=rows.flatten.length:=by rw [aL,td]
  rw [←aL] at HH ⊢;obtain ⟨id,aE⟩:∃ id,id=(ar.cells [(hW b.1),(.ax (b.2.flatMap p0) b.2.length .shared)]::Y).length:=⟨_,rfl⟩;by_cases PU:A=[]
  ·subst PU;(conv=>whnf);refine .inr ⟨rfl,?_⟩;(conv=>whnf);refine ⟨_,_,HL aiX,?_⟩;(conv=>whnf);subst JS;unfold QB;obtain ⟨nm,Hi⟩:∃ c,O8=c:=⟨_,rfl⟩;rw [Hi];(conv=>whnf);refine ⟨_,_,M9 rfl ad6,?_⟩;(conv=>whnf);refine ⟨_,_,HL aec,?_⟩;(conv=>whnf);subst Hi;unfold O8;(conv=>whnf);rw [if_pos (by simp)] at HH;(have al8:rows.flatten.length=0:=by rw [←SP];rfl);by_cases iI:(0:Int)<(b.2.length:Int)
   ·rw [show decide (((([]:List Int).length:Nat):Int)<(b.2.length:Int))=true from decide_eq_true iI];(conv=>whnf);exact Md 0 15 _ _ (by rw [HH,if_pos (by omega)]) (LG rfl rfl)
   ·rw [show decide (((([]:List Int).length:Nat):Int)<(b.2.length:Int))=false from decide_eq_false iI];(conv=>whnf);subst K2;unfold QA;(conv=>whnf);exact Md _ 0 _ _ (by rw [HH,if_neg (by omega)]) (LG rfl rfl)
  ·have cg:A.length≠0:=fun h=>PU (tu.1 h);(conv=>whnf);refine .inl ⟨cg,?_⟩;(conv=>whnf);rw [←aE];obtain ⟨N,afJ⟩:=ai A (by omega) ((ar.cells [(hW b.1),(.ax (b.2.flatMap p0) b.2.length .shared)]::Y)++[ar.cells (A.map hW)]) id 0 (sP _) (by rw [aE];exact JU _ _);refine ⟨_,_,HL afJ,?_⟩;rw [aE,rB,←aE];(conv=>whnf);subst JS;unfold QB;obtain ⟨nm,Hi⟩:∃ c,O8=c:=⟨_,rfl⟩;rw [Hi];(conv=>whnf);obtain ⟨S,cm⟩:∃ S,S=Hq A:=⟨_,rfl⟩;(have PZ:S.length=A.length:=by rw [cm,QT]);have P4:=aea A;rw [←cm] at P4 ⊢;rw [←PZ];rw [←PZ] at P4;refine ⟨_,_,M9 (r7 (fun _=>rfl) _ _ _) (W6 S [] (by omega) (by omega) (by rw [sW,aE];exact (sQ (by simp)).trans (JU _ _))),?_⟩;(conv=>whnf);refine ⟨_,_,HL (aed S (by omega) (by omega) (sP _)),?_⟩;(conv=>whnf);by_cases a3:((rv S S.length).length:Int)<(S.length:Int)
   ·rw [decide_eq_true a3];(conv=>whnf);exact Md 0 11 _ _ (by rw [HH,if_neg (P4.1 (by omega))]) (LG rfl rfl)
   rw [decide_eq_false a3];(conv=>whnf);subst Hi;unfold O8;(conv=>whnf);have jR:A.Nodup:=vF.1 fun h=>a3 (by have:=P4.2 h;omega);rw [if_pos jR] at HH;have hle:rows.flatten.length≤b.2.length:=by
    rw [←SP];refine OQ jR fun x ak=>?_;rw [aL] at ak;obtain ⟨p,aB,rfl⟩:=sM.1 ak;obtain ⟨r,Dq,aB⟩:=uG.1 aB;have:=Mv.1 ((ad0 (aO r Dq)).2.2.1 p aB);exact ⟨this.1,this.2.1⟩
   by_cases iI:(S.length:Int)<(b.2.length:Int)
   ·rw [decide_eq_true iI];(conv=>whnf);exact Md 0 15 _ _ (by rw [HH,if_pos (by omega)]) (LG rfl rfl)
   ·rw [decide_eq_false iI];(conv=>whnf);subst K2;unfold QA;(conv=>whnf);exact Md _ 0 _ _ (by rw [HH,if_neg (by omega)]) (LG rfl rfl)
def Vr (b:p9) (rows:List Row):Option (Int×Int):=qg (b.2.length≤1000∧rows.length≤1000∧rows.flatten.length≤12) (some (IY b rows))
theorem Yv {α:Type} {R:List (List α)} {r:List α} (h:r∈R):r.length≤R.flatten.length:=by
 obtain ⟨s,t,rfl⟩:=List.append_of_mem h;simp;omega
theorem akO {b:p9} {rows:List Row} {v:Int×Int} (h:Vr b rows=some v):qB 25 [(.agg [(hW b.1),(.ax (b.2.flatMap p0) b.2.length .shared)]),(.ax (rows.map (qk p0)) rows.length .shared)] (.tuple [(hW v.1),(hW v.2)]):=by
 obtain ⟨⟨ad,af,aG⟩,h⟩:=qC h;obtain rfl:=Option.some.inj h;exact ad2 ai0 (by decide) ad af (fun r aj=>by have:=Yv aj;omega) fun _=>aG
theorem akN {b:p9} {rows:List Row} (ad:b.2.length≤1000) (af:rows.length≤1000) (aG:rows.flatten.length≤12):Vr b rows=some (IY b rows):=qz ⟨ad,af,aG⟩

noncomputable def ab0:fW :=
 pZ [GC 1 [.jh 0] .box,qd 2 0,GC 3 [.lT (.bool false)] .mP] (pZ [GC 11 [.sl 1] (.zy (.str 2)),GC 12 [.lT (.func 35 [] []),.sl 11] (.call 3),pY 10 12,rI 13 10 0,GC 14 [.Bt 10] (.ext 1),pY 4 13,pY 5 14] (pZ [GC 16 [.sl 1] (.zy (.str 2)),GC 17 [.lT (.func 41 [] []),.sl 16] (.call 3),pY 15 17,rI 18 15 0,GC 19 [.Bt 15] (.ext 1),pY 6 18,pY 7 19] (.seq (pZ [pY 20 5,qA 21 20 0 .neq,pY 22 21,cS 23 [.jh 7] 22 false .mP,cS 24 [.Bt 23,.lT (.int .i64 0)] 22 false (.bin .neq),GC 25 [.Bt 22,.lT (.bool true),.Bt 24] .pick,pY 26 25,cS 27 [.sl 6] 26 false .mP,⟨some 28,[.lT (.func 24 [] []),.sl 27],some (26,false),none,.call 3⟩,GC 29 [.Bt 26,.lT (.bool true),.Bt 28] .pick] (.cond (.sl 29) (pZ [pY 30 4,pY 2 30,GC 3 [.lT (.bool false)] .mP] .ret) .skip)) (pZ [GC 32 [.sl 1] (.zy (.str 2)),p1 33 6,GC 34 [.lT (.func 25 [] []),.sl 32,.sl 33] (.call 3),pY 31 34,rI 35 31 0,GC 36 [.Bt 31] (.ext 1),pY 8 35,pY 5 36] (pZ [GC 38 [.Bt 1] (.zy (.str 2)),pY 39 6,GC 40 [.lT (.func 26 [] []),.sl 38,.sl 39] (.call 3),pY 37 40,rI 41 37 0,GC 42 [.Bt 37] (.ext 1),pY 9 41,pY 7 42] (pZ [p1 43 4,pY 44 5,qA 45 44 0 .eql,pY 46 45,cS 47 [.jh 7] 46 true .mP,cS 48 [.Bt 47,.lT (.int .i64 0)] 46 true (.bin .eql),GC 49 [.Bt 46,.Bt 48,.lT (.bool false)] .pick,pY 50 49,cS 51 [.jh 8] 50 true .mP,cS 52 [.sl 4] 50 true .mP,cS 53 [.Bt 51,.Bt 52] 50 true (.bin .eql),GC 54 [.Bt 50,.Bt 53,.lT (.bool false)] .pick,pY 55 54,cS 56 [.jh 9] 55 true .mP,cS 57 [.jh 4] 55 true .mP,cS 58 [.Bt 56,.Bt 57] 55 true (.bin .eql),GC 59 [.Bt 55,.Bt 58,.lT (.bool false)] .pick,pY 2 43,pY 3 59] .ret))))))
theorem agJ:zE Tryz.prog Ww 48=some (ab0,60,[.tmp 2,.tmp 3]):=by kernel_rfl
def Pq (b:qn):Option (Int×Bool) :=
 (N4 b).bind fun aT =>
 (Po b).bind fun r2 =>
 if (decide (aT.2≠(0:Int)))=true then
  some (aT.1,false)
 else
  if (decide (r2.2≠(0:Int)))=true then
   some (aT.1,false)
  else
   (N3 r2.1).bind fun eL =>
   if eL=true then
    some (aT.1,false)
   else
    (Vr b r2.1).bind fun q6 =>
    (Pm b r2.1).bind fun r5 =>
    if (decide (q6.2=(0:Int)))=true then
     if (decide (r5.2=(0:Int)))=true then
      if (decide (q6.1=aT.1))=true then
       some (aT.1,(decide (r5.1=aT.1)))
      else
       some (aT.1,false)
     else
      some (aT.1,false)
    else
     some (aT.1,false)
theorem ak0 {b:qn} {v:(Int×Bool)} (h:Pq b=some v):qB 48 [(.agg [(hW b.1),(.ax (b.2.flatMap p0) b.2.length .shared)])] (.tuple [(hW v.1),(B v.2)]):=by
 refine q5 et agJ rfl (JZ (p2 rfl (p2 rfl rfl))) fun Q bp=>?_;have jD:qR [.tmp 2,.tmp 3] Q (fun v=>(.tuple [(hW v.1),(B v.2)])) v:=fun T H bI=>bp _ T H bI;unfold Pq at h;unfold ab0;conv=>whnf
 obtain ⟨aT,gG,h⟩:=qm h;refine ⟨qw.pl,_,aa2 gG,?_⟩;conv=>whnf
 obtain ⟨r2,gH,h⟩:=qm h;refine ⟨qw.pl,_,akW gH,?_⟩;conv=>whnf
 refine bs h (fun qs h=>?_) fun qs h=>?_
 ·rw [qs];conv=>whnf
  exact qi h jD rfl rfl
 ·rw [qs];conv=>whnf
  refine bs h (fun qF h=>?_) fun qF h=>?_
  ·rw [qF];(conv=>whnf);exact qi h jD rfl rfl
  ·rw [qF];(conv=>whnf);obtain ⟨eL,qH,h⟩:=qm h;refine ⟨qw.pl,_,akM qH,?_⟩;(conv=>whnf);cases eL
   ·(conv=>whnf);replace h:=Hl rfl h;obtain ⟨q6,ra,h⟩:=qm h;refine ⟨qw.pl,_,akO ra,?_⟩;(conv=>whnf);obtain ⟨r5,q7,h⟩:=qm h;refine ⟨qw.pl,_,akS q7,?_⟩;(conv=>whnf);refine bs h (fun q8 h=>?_) fun q8 h=>?_
    ·rw [q8];(conv=>whnf);refine bs h (fun rp h=>?_) fun rp h=>?_
     ·rw [rp];(conv=>whnf);refine bs h (fun qP h=>?_) fun qP h=>?_
      ·rw [qP];(conv=>whnf);exact qi h jD rfl rfl
      ·rw [qP];(conv=>whnf);exact qi h jD rfl rfl
     ·rw [rp];(conv=>whnf);exact qi h jD rfl rfl
    ·rw [q8];(conv=>whnf);exact qi h jD rfl rfl
   ·(conv=>whnf);replace h:=Hm rfl h;exact qi h jD rfl rfl

end Go.Proofs.YtfakoboiahbhaaaGreat.Ab


namespace Go.Proofs.YtfakoboiahbhaaaGreat.Ab
open Go
section
variable {b:p9}
theorem M4.aeD {R:List Row} (h:M4 b R):R.flatten.length=b.2.length:=by
 have:=h.all.length_eq
 rwa [td,r_] at this
theorem akZ (p5:qS b):Pq b=some ((H2 b:Int),true):=by
 have dm:=p5.len;obtain ⟨ad,rN⟩:=Y_ p5;have ai:=rN.short p5;have al:=ad1 p5 rN.toRowsOf rN.ne;rw [Pq,aa1 (by omega),sx,akV (by omega),sx,PK p5,if_pos (I'.2 p5)];rw [if_neg (by simp),if_neg (by simp),akL (by simp;omega) (fun r aj=>by have:=ai.2 r aj;omega),sx,if_neg (by decide),akN (by omega) (show (LF b).length≤1000 by omega) (show (LF b).flatten.length≤12 by have:=rN.aeD;omega),sx,akP (by omega) (show (LF b).length≤20 by omega) (fun r aj=>by have:=ai.2 r aj;omega),sx,al];simp [rN.len]
end
end Go.Proofs.YtfakoboiahbhaaaGreat.Ab


namespace Go.Proofs.YtfakoboiahbhaaaGreat.Ab
open Go
set_option maxRecDepth 20000
set_option maxHeartbeats 4000000

end Go.Proofs.YtfakoboiahbhaaaGreat.Ab


namespace Go.Proofs.YtfakoboiahbhaaaGreat.Ab
open Go
section
variable {b:p9}
theorem ag9 (r:List Int):1≤JY b r:=by unfold JY;omega
theorem ahs:(parts b).length≤H2 b:=by
 unfold H2;generalize parts b=P
 induction P with
 | nil=>simp
 | cons r P a_ =>
   have:=ag9 (b:=b) r;rw [sG,List.sum_cons,sV];omega
theorem ahu (p5:qS b) (aV:0<b.2.length):parts b≠[]:=fun e=>by
 have:=(YI p5).length_eq;rw [e,r_] at this;simp at this;omega
theorem Sr (p5:qS b) (aV:0<b.2.length):H2 b≤1↔(parts b).length=1∧(JF b).length≤2:=by
 have hle:=ahs (b:=b);have bO:=tS.2 (ahu p5 aV);have mc:=Qm p5 (S:=upto b.2.length) LK;have key:(parts b).length=1→H2 b=max 1 ((JF b).length / 2):=fun ad=>by
  obtain ⟨r,aj⟩:=List.length_eq_one_iff.1 ad;have aB:=YI p5;rw [aj] at aB
  have:r.Perm (upto b.2.length):=by simpa using aB
  unfold H2 JF;rw [aj,←ahc this];simp [JY]
 constructor
 ·intro h;have ad:(parts b).length=1:=by omega
  have:=key ad;refine ⟨ad,?_⟩
  have:(JF b).length=(rF b (upto b.2.length)).length:=rfl
  omega
 ·rintro ⟨ad,af⟩;rw [key ad];omega
theorem ahg (p5:qS b) (aV:0<b.2.length):IB b=if (parts b).length=1∧(JF b).length≤2 then 0 else 27:=by
 unfold IB;rw [if_neg (by simp [I'.2 p5]),if_neg (by omega)];by_cases h:1<H2 b
 ·rw [if_pos h,if_neg fun bI=>by have:=(Sr p5 aV).2 bI;omega]
 ·rw [if_neg h,if_pos ((Sr p5 aV).1 (by omega))]
theorem aiC (p5:qS b) (aV:0<b.2.length):J1 b=if (parts b).length=1∧(JF b).length=0 then 0 else 27:=by
 unfold J1;rw [ahg p5 aV];by_cases h:(parts b).length=1∧(JF b).length≤2
 ·rw [if_pos h,if_pos rfl];by_cases af:0<(JF b).length
  ·rw [if_pos af,if_neg fun bI=>by omega]
  ·rw [if_neg af,if_pos ⟨h.1,by omega⟩]
 ·rw [if_neg h,if_neg (by decide),if_neg fun bI=>h ⟨bI.1,by omega⟩]
end
end Go.Proofs.YtfakoboiahbhaaaGreat.Ab


namespace Go.Proofs.YtfakoboiahbhaaaGreat.Ab
open Go
theorem adz {α:Type} {l m n:List α} {k:Nat} (e:n=l++m) (av:k<m.length) (h:l.length+k<n.length):n[l.length+k]=m[k]:=by
 subst e;rw [List.getElem_append_right (by omega)];congr 1;omega
theorem Zi {b c:p9} {n:Nat} (h:∀ i:Nat,i<n→ix b.2 (i:Int)=ix c.2 (i:Int)):∀ (l:Row) (a:Int),(∀ p∈l,0≤p.1∧p.1<(n:Int))→qN b a l=qN c a l
 | [],_,_=>rfl
 | p::l,a,ao=>by
   have aB:=ao p (by simp);obtain ⟨k,av⟩:∃ k:Nat,p.1=k:=⟨p.1.toNat,by omega⟩;(have e:ix b.2 p.1=ix c.2 p.1:=by rw [av];exact h k (by omega));have a_:=fun a=>Zi h l a fun q a0=>ao q (by simp [a0]);unfold qN;(have e1:qE b p=qE c p:=by unfold qE;rw [e]);(have ca:fin b p=fin c p:=by unfold fin;rw [e]);rw [e1,ca,a_]
end Go.Proofs.YtfakoboiahbhaaaGreat.Ab


namespace Go.Proofs.YtfakoboiahbhaaaGreat.Ab
open Go
set_option maxRecDepth 60000
set_option maxHeartbeats 4000000
noncomputable def RL:fW :=
 .loop (some (qb false [2,1,4,1,3,4,172])) (.seq (pZ [p1 96 14,p1 97 11,qI 98 97,qT 99 96 98 .lss] (.cond (.sl 99) .skip (.exit 0))) (.seq (.block 1 (.seq (sj [GC 103 [.sl 2] (.zy (.str 2)),p1 104 11,p1 105 14,qZ 106 104 105 1,qo 107 106,GC 108 [.lT (.func 18 [] []),.sl 103,.sl 107] (.call 3),pY 102 108,rI 109 102 0,rI 110 102 1,rI 111 102 2,pY 15 109,pY 16 110,pY 17 111]) (.seq (sj [GC 113 [.sl 2] (.zy (.str 2)),p1 114 11,p1 115 14,qU 116 115 1,p1 117 11,qI 118 117,qT 119 116 118 .rem,qZ 120 114 119 1,qo 121 120,GC 122 [.lT (.func 18 [] []),.sl 113,.sl 121] (.call 3),pY 112 122,rI 123 112 0,rI 124 112 1,rI 125 112 2,pY 18 123,pY 19 124,pY 20 125]) (.seq (pZ [pY 126 17,qA 127 126 0 .neq,pY 128 127,cS 129 [.jh 20] 128 false .mP,cS 130 [.Bt 129,.lT (.int .i64 0)] 128 false (.bin .neq),GC 131 [.Bt 128,.lT (.bool true),.Bt 130] .pick] (.cond (.sl 131) (pZ [GC 4 [.lT (.bool false)] .mP] .ret) .skip)) (.seq (sj [pY 132 13,p1 133 11,p1 134 14,qZ 135 133 134 1,qo 136 135,GC 137 [.jh 132,.jh 136] (.app 2 16),GC 138 [.sl 12] (.yH 1),qo 139 138,qI 140 139,GC 141 [.Bt 140] (.build [.int .i64 0,.int .i64 0] [(0,1)]),GC 142 [.Bt 141] (.yv 1 2 [.int .i64 0,.int .i64 0] [0]),GC 143 [.jh 137,.jh 142] (.app 2 16),pY 13 143]) (qK [GC 144 [.sl 12] (.yH 1),GC 145 [.Bt 144] .take,pY 146 16,pY 147 18,GC 148 [.Bt 146,.Bt 147] (.build [.int .i64 0,.int .i64 0] [(0,1),(1,1)]),GC 149 [.Bt 148] (.yv 1 2 [.int .i64 0,.int .i64 0] [0]),GC 150 [.jh 145,.jh 149] (.app 2 16),GC 151 [.sl 12] (.yH 1),⟨none,[.jh 151,.jh 150],none,none,.st 1⟩])))))) (qK [pY 100 14,qU 101 100 1,pY 14 101])))
noncomputable def RM:fW :=
 pZ [GC 78 [.sl 2] (.zy (.str 2)),pY 79 1,GC 80 [.lT (.func 50 [] []),.sl 78,.sl 79] (.call 3),pY 11 80] (.seq (pZ [GC 81 [.sl 2] (.yH 1),qo 82 81,qI 83 82,p1 84 11,qI 85 84,qT 86 83 85 .add,qA 87 86 10 .gtr] (.cond (.sl 87) (pZ [GC 88 [.lT (.func 17 [] [])] (.call 3),pY 4 88] .ret) .skip)) (.seq (sj [GC 89 [.sl 2] (.yH 0),qo 90 89,GC 91 [] (.yv 0 2 [.int .i64 0,.int .i64 0] []),GC 92 [.sl 2] (.yH 1),qo 93 92,GC 94 [.jh 91,.jh 93] (.app 2 16),GC 95 [.jh 90,.jh 94] (.yu 1 [.int .i64 0,.ax [] 0 .full] [(0,1),(1,1)]),GC 12 [] (.alloc [.int .i64 0,.ax [] 0 .full]),⟨none,[.sl 12,.jh 95],none,none,.Bj 2⟩]) (pZ [GC 13 [.lT (.ax [] 0 .full)] (.nil 2)] (.seq (pZ [qd 14 0] (.block 0 RL)) (pZ [GC 153 [.sl 12] (.zy (.str 2)),GC 154 [.lT (.func 39 [] []),.sl 153] (.call 3),pY 152 154,rI 155 152 0,GC 156 [.Bt 152] (.ext 1),pY 21 155,pY 22 156] (pZ [GC 158 [.sl 12] (.zy (.str 2)),GC 159 [.lT (.func 42 [] []),.sl 158] (.call 3),pY 157 159,rI 160 157 0,GC 161 [.Bt 157] (.ext 1),pY 23 160,pY 24 161] (pZ [pY 162 7,pY 163 11,qI 164 163,qT 165 162 164 .leq,pY 166 165,cS 167 [.Bt 12] 166 true (.zy (.str 2)),cS 168 [.jh 13] 166 true .mP,⟨some 169,[.lT (.func 22 [] []),.sl 167,.sl 168],some (166,true),none,.call 3⟩,cS 170 [.Bt 169,.lT (.int .i64 0)] 166 true (.bin .eql),GC 171 [.Bt 166,.Bt 170,.lT (.bool false)] .pick,pY 172 171,cS 173 [.jh 22] 172 true .mP,cS 174 [.Bt 173,.lT (.int .i64 0)] 172 true (.bin .eql),GC 175 [.Bt 172,.Bt 174,.lT (.bool false)] .pick,pY 176 175,cS 177 [.jh 21] 176 true .mP,cS 178 [.Bt 177,.lT (.int .i64 0)] 176 true (.bin .eql),GC 179 [.Bt 176,.Bt 178,.lT (.bool false)] .pick,pY 180 179,cS 181 [.jh 24] 180 true .mP,cS 182 [.Bt 181,.lT (.int .i64 0)] 180 true (.bin .eql),GC 183 [.Bt 180,.Bt 182,.lT (.bool false)] .pick,pY 184 183,⟨some 185,[.lT (.func 17 [] [])],some (184,true),none,.call 3⟩,GC 186 [.Bt 184,.Bt 185,.lT (.bool false)] .pick,pY 4 186] .ret)))))))
noncomputable def acf:fW :=
 pZ [GC 2 [.jh 0] .box,GC 4 [.lT (.bool false)] .mP] (.seq (pZ [GC 25 [.sl 2] (.zy (.str 2)),GC 26 [.lT (.func 47 [] []),.sl 25] (.call 3),GC 27 [.Bt 26] (.un .not),pY 28 27,cS 29 [.sl 2] 28 false (.yH 1),cS 30 [.Bt 29] 28 false (.zy .one),cS 31 [.jh 30] 28 false .zD,cS 32 [.Bt 31,.lT (.int .i64 0)] 28 false (.bin .eql),GC 33 [.Bt 28,.lT (.bool true),.Bt 32] .pick,pY 34 33,cS 35 [.sl 1] 34 false .mP,cS 36 [.jh 35] 34 false .zD,cS 37 [.Bt 36,.lT (.int .i64 40)] 34 false (.bin .gtr),GC 38 [.Bt 34,.lT (.bool true),.Bt 37] .pick] (.cond (.sl 38) (pZ [GC 39 [.lT (.func 17 [] [])] (.call 3),pY 4 39] .ret) .skip)) (pZ [GC 41 [.sl 2] (.zy (.str 2)),GC 42 [.lT (.func 48 [] []),.sl 41] (.call 3),pY 40 42,rI 43 40 0,GC 44 [.Bt 40] (.ext 1),pY 5 43,pY 6 44] (pZ [GC 46 [.sl 2] (.zy (.str 2)),GC 47 [.lT (.func 39 [] []),.sl 46] (.call 3),pY 45 47,rI 48 45 0,GC 49 [.Bt 45] (.ext 1),pY 7 48,pY 8 49] (pZ [GC 51 [.sl 2] (.zy (.str 2)),GC 52 [.lT (.func 42 [] []),.sl 51] (.call 3),pY 50 52,rI 53 50 0,GC 54 [.Bt 50] (.ext 1),pY 9 53,pY 10 54] (.seq (pZ [pY 55 6,GC 56 [.Bt 55] (.un .not),pY 57 56,cS 58 [.jh 8] 57 false .mP,cS 59 [.Bt 58,.lT (.int .i64 0)] 57 false (.bin .neq),GC 60 [.Bt 57,.lT (.bool true),.Bt 59] .pick,pY 61 60,cS 62 [.sl 10] 61 false .mP,cS 63 [.Bt 62,.lT (.int .i64 0)] 61 false (.bin .eql),cS 64 [.jh 63] 61 false .mP,cS 65 [.sl 7] 64 true .mP,cS 66 [.Bt 65,.lT (.int .i64 0)] 64 true (.bin .neq),cS 67 [.Bt 64,.Bt 66,.lT (.bool false)] 61 false .pick,GC 68 [.Bt 61,.lT (.bool true),.Bt 67] .pick,pY 69 68,cS 70 [.jh 10] 69 false .mP,cS 71 [.Bt 70,.lT (.int .i64 0)] 69 false (.bin .neq),cS 72 [.jh 71] 69 false .mP,cS 73 [.sl 7] 72 true .mP,cS 74 [.jh 5] 72 true .mP,cS 75 [.Bt 73,.Bt 74] 72 true (.bin .neq),cS 76 [.Bt 72,.Bt 75,.lT (.bool false)] 69 false .pick,GC 77 [.Bt 69,.lT (.bool true),.Bt 76] .pick] (.cond (.sl 77) (pZ [GC 4 [.lT (.bool false)] .mP] .ret) .skip)) RM)))))
theorem agY:zE Tryz.prog PB 9=some (acf,187,[.tmp 4]):=by kernel_rfl
def MV (b:qn) (rr:qh) (qM:p8→p8→Option Bool):Nat→p8→Int→p8→Option Bool
 | 0,_,_,_=>none
 | m+1,s1,s2,di =>
   if (decide (s2<(rr.length:Int)))=true then
    qg (0≤s2∧s2<(rr.length:Int)) <|
    (LO b (ix rr s2)).bind fun LD =>
    qg ((rr.length:Int)≠0) <|
    qg (0≤((w (s2+(1:Int))).tmod (rr.length:Int))∧((w (s2+(1:Int))).tmod (rr.length:Int))<(rr.length:Int)) <|
    (LO b (ix rr ((w (s2+(1:Int))).tmod (rr.length:Int)))).bind fun H9 =>
    if (decide (LD.2.2≠(0:Int)))=true then
     some false
    else
     if (decide (H9.2.2≠(0:Int)))=true then
      some false
     else
      qg (0≤s2∧s2<(rr.length:Int)) <|
      qg ((s1.length+(ix rr s2).length)*16≤140737488355328) <|
      qg (((s1++(ix rr s2)).length+1)*16≤140737488355328) <|
      qg ((di.length+1)*16≤140737488355328) <|
      MV b rr qM m ((s1++(ix rr s2))++[((di.length:Int),(0:Int))]) (w (s2+(1:Int))) (di++[(LD.2.1,H9.1)])
   else
    qM s1 di
def LZ (b:qn) (p_:qt) (r5:(Int×Int))  : Option Bool :=
 (Q9 b p_).bind fun rr =>
 if (decide ((10:Int)<(w ((b.2.length:Int)+(rr.length:Int)))))=true then
  (Kk).bind fun Mt =>
  some Mt
 else
  qg ((([]:List (Int×Int)).length+b.2.length)*16≤140737488355328) <|
  MV b rr (fun yh oJ =>
    (LP (b.1,oJ)).bind fun J0 =>
    (Lb (b.1,oJ)).bind fun LC =>
    if (decide (r5.1≤(rr.length:Int)))=true then
     (La (b.1,oJ) yh).bind fun NH =>
     if (decide (NH=(0:Int)))=true then
      if (decide (J0.2=(0:Int)))=true then
       if (decide (J0.1=(0:Int)))=true then
        if (decide (LC.2=(0:Int)))=true then
         (Kk).bind fun Qu =>
         some Qu
        else
         some false
       else
        some false
      else
       some false
     else
      some false
    else
     some false) qc ([]:List (Int×Int)) (0:Int) (([]:List (Int×Int))++b.2)
def Rh (b:qn) (p_:qt):Option Bool :=
 (Pp b).bind fun aT =>
 if aT=true then
  if (decide ((b.2.length:Int)=(0:Int)))=true then
   (Kk).bind fun r2 =>
   some r2
  else
   if (decide ((40:Int)<(p_.length:Int)))=true then
    (Kk).bind fun eL =>
    some eL
   else
    (Pq b).bind fun q6 =>
    (LP b).bind fun r5 =>
    (Lb b).bind fun IC =>
    if q6.2=true then
     if (decide (r5.2≠(0:Int)))=true then
      some false
     else
      if (decide (IC.2=(0:Int)))=true then
       if (decide (r5.1≠(0:Int)))=true then
        some false
       else
        if (decide (IC.2≠(0:Int)))=true then
         if (decide (r5.1≠q6.1))=true then
          some false
         else
          LZ b p_ r5
        else
         LZ b p_ r5
      else
       if (decide (IC.2≠(0:Int)))=true then
        if (decide (r5.1≠q6.1))=true then
         some false
        else
         LZ b p_ r5
       else
        LZ b p_ r5
    else
     some false
 else
  (Kk).bind fun YR =>
  some YR
theorem alK {b:qn} {rr:qh} {qM:p8→p8→Option Bool} {s1:p8} {s2:Int} {di:p8} {r5:(Int×Int)} {v:Bool} {Q:rf}   (jD:qR [.tmp 4] Q (fun v=>(B v)) v) (Ie:∀ (yh oJ:p8) (bE:ar) (p7:List I),qM yh oJ=some v→qQ 187 [(7,(hW r5.1)),(11,(.ax (rr.map (qk p0)) rr.length .shared)),(12,(.ptr 1 0)),(13,(p4 yh (.uniq 2)))] p7→Q (.exit 0) p7 [bE,ar.cells [(hW b.1),(p4 oJ (.own 2))]]) {T:List I} (bX:e0 (qb false [2,1,4,1,3,4,172]) T=Hc 187 [(2,(.ptr 0 0)),(7,(hW r5.1)),(11,(.ax (rr.map (qk p0)) rr.length .shared)),(12,(.ptr 1 0)),(13,(p4 s1 (.uniq 2))),(14,(hW s2))]) (h:MV b rr qM qc s1 s2 di=some v) :
  dR Tryz.prog PB 9 0 none RL T [qD b,ar.cells [(hW b.1),(p4 di (.own 2))]] Q:=by
 unfold RL;refine wp_loop bX ?_;refine .intro (fun m T H=>∃ (s1:p8) (s2:Int) (di:p8),T=Hc 187 [(2,(.ptr 0 0)),(7,(hW r5.1)),(11,(.ax (rr.map (qk p0)) rr.length .shared)),(12,(.ptr 1 0)),(13,(p4 s1 (.uniq 2))),(14,(hW s2))]∧H=[qD b,ar.cells [(hW b.1),(p4 di (.own 2))]]∧MV b rr qM m s1 s2 di=some v) qc ⟨s1,s2,di,rfl,rfl,h⟩ ?_;clear h bX;rintro m T H ⟨s1,s2,di,rfl,rfl,h⟩;cases m
 ·exact rj h
 rename_i m;rw [MV.eq_2] at h;conv=>whnf
 refine bs h (fun H7 h=>?_) fun H7 h=>?_
 ·rw [H7];conv=>whnf
  refine qx h id fun Hn h=>?_;rw [se (qk p0) rr s2 Hn];conv=>whnf
  obtain ⟨LD,HW,h⟩:=qm h;refine ⟨qw.pl,_,Q7 HW,HS,?_⟩;conv=>whnf
  refine qx h id fun HO h=>?_;conv=>whnf
  refine qx h id fun Jz h=>?_;rw [se (qk p0) rr ((w (s2+(1:Int))).tmod (rr.length:Int)) Jz];conv=>whnf
  obtain ⟨H9,JV,h⟩:=qm h;refine ⟨qw.pl,_,Q7 JV,HS,?_⟩;conv=>whnf
  refine bs h (fun JW h=>?_) fun JW h=>?_
  ·rw [JW];(conv=>whnf);exact qi h jD rfl rfl
  ·rw [JW];(conv=>whnf);refine bs h (fun Iy h=>?_) fun Iy h=>?_
   ·rw [Iy];(conv=>whnf);exact qi h jD rfl rfl
   ·rw [Iy];(conv=>whnf);refine qx h id fun JX h=>?_;rw [se (qk p0) rr s2 JX];(conv=>whnf);obtain ⟨Lt,h⟩:=qC h;refine ⟨by first | rfl | (simp;done) | exact rz p0 _ qv _,by have:=Lt;omega,rfl,Lt,?_⟩
    erw [PC p0 s1 (ix rr s2)];(conv=>whnf);obtain ⟨KF,h⟩:=qC h;refine ⟨by first | rfl | (simp;done) | exact rz p0 _ qv _,by have:=KF;omega,rfl,KF,?_⟩
    erw [rK p0 (s1++(ix rr s2)) ((di.length:Int),(0:Int))];(conv=>whnf);obtain ⟨Nd,h⟩:=qC h;refine ⟨by first | rfl | (simp;done) | exact rz p0 _ qv _,by have:=Nd;omega,rfl,Nd,?_⟩
    erw [rK p0 di (LD.2.1,H9.1)];(conv=>whnf);exact ⟨m,sA m,((s1++(ix rr s2))++[((di.length:Int),(0:Int))]),(w (s2+(1:Int))),(di++[(LD.2.1,H9.1)]),rfl,rfl,h⟩
 ·rw [H7];conv=>whnf
  exact Ie _ _ _ _ h ⟨rfl,rfl⟩
theorem Rm {b:qn} {p_:qt} {r5:(Int×Int)} {v:Bool} {Q:rf}  {p7:List I}  (jD:qR [.tmp 4] Q (fun v=>(B v)) v) (qe:qQ 187 [(1,(.ax (p_.map qO) p_.length .shared)),(2,(.ptr 0 0)),(7,(hW r5.1))] p7) (h:LZ b p_ r5  = some v) :
  dR Tryz.prog PB 9 0 none RM p7 [qD b] Q:=by
 obtain ⟨qG,rfl⟩:=qe.ex;unfold LZ at h;unfold RM;obtain ⟨II,q'⟩:∃ c,RL=c:=⟨_,rfl⟩;rw [q'];conv=>whnf
 obtain ⟨rr,IK,h⟩:=qm h;refine ⟨qw.pl,_,ale IK,?_⟩;conv=>whnf
 refine bs h (fun HV h=>?_) fun HV h=>?_
 ·rw [HV];conv=>whnf
  obtain ⟨Mt,Ix,h⟩:=qm h;refine ⟨rfl,_,Ph Ix,?_⟩;conv=>whnf
  exact qi h jD rfl rfl
 ·rw [HV];conv=>whnf
  obtain ⟨sg,h⟩:=qC h;refine ⟨by first | rfl | (simp;done) | exact rz p0 _ qv _,by have:=sg;omega,rfl,sg,?_⟩
  erw [PC p0 ([]:List (Int×Int)) b.2];conv=>whnf
  subst q';refine alK (r5:=r5) ?_ ?_ (by exact rfl) h
  ·exact fun T H bI=>jD T H bI
  ·intro yh oJ bE p7 h qe;obtain ⟨qG,rfl⟩:=qe.ex;(conv=>whnf);obtain ⟨J0,SY,h⟩:=qm h;refine ⟨qw.pl,_,aa4 SY,?_⟩;(conv=>whnf);obtain ⟨LC,SZ,h⟩:=qm h;refine ⟨qw.pl,_,Vt SZ,?_⟩;(conv=>whnf);refine bs h (fun OH h=>?_) fun OH h=>?_
   ·rw [OH];(conv=>whnf);obtain ⟨NH,ae2,h⟩:=qm h;refine ⟨qw.pl,_,aaX ae2,?_⟩;(conv=>whnf);refine bs h (fun S1 h=>?_) fun S1 h=>?_
    ·rw [S1];(conv=>whnf);refine bs h (fun S2 h=>?_) fun S2 h=>?_
     ·rw [S2];(conv=>whnf);refine bs h (fun S3 h=>?_) fun S3 h=>?_
      ·rw [S3];(conv=>whnf);refine bs h (fun S4 h=>?_) fun S4 h=>?_
       ·rw [S4];(conv=>whnf);obtain ⟨Qu,ae3,h⟩:=qm h;refine ⟨rfl,_,Ph ae3,?_⟩;(conv=>whnf);exact qi h jD rfl rfl
       ·rw [S4];(conv=>whnf);exact qi h jD rfl rfl
      ·rw [S3];(conv=>whnf);exact qi h jD rfl rfl
     ·rw [S2];(conv=>whnf);exact qi h jD rfl rfl
    ·rw [S1];(conv=>whnf);exact qi h jD rfl rfl
   ·rw [OH];(conv=>whnf);exact qi h jD rfl rfl
theorem alL {b:qn} {p_:qt} {v:Bool} (h:Rh b p_=some v):qB 9 [(.agg [(hW b.1),(.ax (b.2.flatMap p0) b.2.length .shared)]),(.ax (p_.map qO) p_.length .shared)] (B v):=by
 refine q5 et agY rfl rfl fun Q bp=>?_;have jD:qR [.tmp 4] Q (fun v=>(B v)) v:=fun T H bI=>bp _ T H bI;unfold Rh at h;unfold acf;obtain ⟨L7,Hj⟩:∃ c,RM=c:=⟨_,rfl⟩;rw [Hj];conv=>whnf
 obtain ⟨aT,gG,h⟩:=qm h;refine ⟨qw.pl,_,akY gG,?_⟩;conv=>whnf
 cases aT
 ·conv=>whnf
  replace h:=Hl rfl h;obtain ⟨YR,S7,h⟩:=qm h;refine ⟨rfl,_,Ph S7,?_⟩;conv=>whnf
  exact qi h jD rfl rfl
 ·conv=>whnf
  replace h:=Hm rfl h;refine bs h (fun gH h=>?_) fun gH h=>?_
  ·rw [gH];(conv=>whnf);obtain ⟨r2,qs,h⟩:=qm h;refine ⟨rfl,_,Ph qs,?_⟩;(conv=>whnf);exact qi h jD rfl rfl
  ·rw [gH];(conv=>whnf);refine bs h (fun qF h=>?_) fun qF h=>?_
   ·rw [qF];(conv=>whnf);obtain ⟨eL,qH,h⟩:=qm h;refine ⟨rfl,_,Ph qH,?_⟩;(conv=>whnf);exact qi h jD rfl rfl
   ·rw [qF];(conv=>whnf);obtain ⟨q6,ra,h⟩:=qm h;refine ⟨qw.pl,_,ak0 ra,?_⟩;(conv=>whnf);obtain ⟨r5,q7,h⟩:=qm h;refine ⟨qw.pl,_,aa4 q7,?_⟩;(conv=>whnf);obtain ⟨IC,q8,h⟩:=qm h;refine ⟨qw.pl,_,Vt q8,?_⟩;(conv=>whnf);refine bs h (fun rp h=>?_) fun rp h=>?_
    ·rw [rp];(conv=>whnf);refine bs h (fun qP h=>?_) fun qP h=>?_
     ·rw [qP];(conv=>whnf);exact qi h jD rfl rfl
     ·rw [qP];(conv=>whnf);refine bs h (fun rq h=>?_) fun rq h=>?_
      ·rw [rq];(conv=>whnf);refine bs h (fun rV h=>?_) fun rV h=>?_
       ·rw [rV];(conv=>whnf);exact qi h jD rfl rfl
       ·rw [rV];(conv=>whnf);refine bs h (fun rD h=>?_) fun rD h=>?_
        ·rw [rD];(conv=>whnf);refine bs h (fun HF h=>?_) fun HF h=>?_
         ·rw [HF];(conv=>whnf);exact qi h jD rfl rfl
         ·rw [HF];(conv=>whnf);subst Hj;refine Rm ?_ (by exact ⟨rfl,rfl⟩) h;exact fun T H bI=>jD T H bI
        ·rw [rD];(conv=>whnf);subst Hj;refine Rm ?_ (by exact ⟨rfl,rfl⟩) h;exact fun T H bI=>jD T H bI
      ·rw [rq];(conv=>whnf);refine bs h (fun S5 h=>?_) fun S5 h=>?_
       ·rw [S5];(conv=>whnf);refine bs h (fun S6 h=>?_) fun S6 h=>?_
        ·rw [S6];(conv=>whnf);exact qi h jD rfl rfl
        ·rw [S6];(conv=>whnf);subst Hj;refine Rm ?_ (by exact ⟨rfl,rfl⟩) h;exact fun T H bI=>jD T H bI
       ·rw [S5];(conv=>whnf);subst Hj;refine Rm ?_ (by exact ⟨rfl,rfl⟩) h;exact fun T H bI=>jD T H bI
    ·rw [rp];(conv=>whnf);exact qi h jD rfl rfl
end Go.Proofs.YtfakoboiahbhaaaGreat.Ab


namespace Go.Proofs.YtfakoboiahbhaaaGreat.Ab
open Go
def Ly (b:p9) (R:List Row) (i:Nat):Int×Int:=((rM b (ix R (i:Int))).2.1,(rM b (ix R (((i+1) % R.length:Nat):Int))).1)
def JE (b:p9) (R:List Row) (i:Nat):List (Int×Int):=(List.range i).map (Ly b R)
def Il (b:p9) (R:List Row):Nat→Row
 | 0=>[]
 | i+1=>(Il b R i++ix R (i:Int))++[(((b.2.length+i:Nat):Int),(0:Int))]
def HA (b:p9) (R:List Row):p9:=(b.1,b.2++JE b R R.length)
section
variable {b:p9} {R:List Row}
theorem Ty (i:Nat):(JE b R i).length=i:=by simp [JE]
theorem JQ:(HA b R).2.length=b.2.length+R.length:=by simp [HA,JE]
theorem ad7 (i:Nat) (hi:i<b.2.length):ix b.2 (i:Int)=ix (HA b R).2 (i:Int):=by
 rw [ry hi,ry (show i<(HA b R).2.length by rw [JQ];omega)];exact (List.getElem_append_left hi).symm
theorem ad8 {i:Nat} (hi:i<R.length):ix (HA b R).2 ((b.2.length+i:Nat):Int)=Ly b R i:=by
 rw [ry (show b.2.length+i<(HA b R).2.length by rw [JQ];omega)];have this:(HA b R).2[b.2.length+i]'(by rw [JQ];omega)=(JE b R R.length)[i]'(by rw [Ty];exact hi) :=
  adz (l:=b.2) (m:=JE b R R.length) (n:=(HA b R).2) rfl (by rw [Ty];exact hi) (by rw [JQ];omega)
 rw [this];simp [JE]
theorem WW (p5:qS b) {p:Int×Int} (h:Hx b p):(0≤qE b p∧qE b p<b.1)∧(0≤fin b p∧fin b p<b.1):=by
 obtain ⟨k,av⟩:∃ k:Nat,p.1=k:=⟨p.1.toNat,by have:=h.1;omega⟩;have:=QN p5 (i:=k) (by have:=h.2.1;omega);rw [←av] at this;unfold qE fin;split <;> omega
theorem run_in (p5:qS b):∀ {l:Row} {a c:Int},(∀ p∈l,Hx b p)→qN b a l=some c→l≠[]→(0≤a∧a<b.1)∧(0≤c∧c<b.1)
 | [],_,_,_,_,h=>absurd rfl h
 | [p],a,c,aB,h,_=>by
   obtain ⟨rfl,rfl⟩:=Kh.1 h;exact WW p5 (aB p (by simp))
 | p::q::l,a,c,aB,h,_=>by
   obtain ⟨rfl,af⟩:=Jh.1 h;exact ⟨(WW p5 (aB p (by simp))).1,(run_in p5 (fun x ak=>aB x (by simp [ak])) af (by simp)).2⟩
variable (p5:qS b) (l4:RowsOf b (upto b.2.length) R) (bO:∀ r∈R,r≠[])
include p5 l4 bO
theorem NM {i:Nat} (hi:i<R.length):(rM b (ix R (i:Int))).2.2=0∧qN b (rM b (ix R (i:Int))).1 (ix R (i:Int))=some (rM b (ix R (i:Int))).2.1∧(∀ p∈ix R (i:Int),Hx b p)∧ix R (i:Int)≠[]:=by
 rw [ry hi];have hm:R[i]∈R:=sU hi;obtain ⟨a,c,aO⟩:=l4.go _ hm;have aN:(R[i].map (·.1)).Nodup:=by
  have jR:((R.flatten).map (·.1)).Nodup:=l4.all.nodup_iff.2 (IQ _);have ai:(R[i].map (·.1)).Sublist ((R.flatten).map (·.1)):=(List.sublist_flatten_of_mem hm).map _;exact jR.sublist ai
 rw [PH p5 (bO _ hm) (l4.ok _ hm) aN aO];exact ⟨rfl,aO,l4.ok _ hm,bO _ hm⟩
theorem Yn {i:Nat} (hi:i<R.length):(0≤(Ly b R i).1∧(Ly b R i).1<b.1)∧(0≤(Ly b R i).2∧(Ly b R i).2<b.1):=by
 obtain ⟨_,af,aG,a6⟩:=NM p5 l4 bO hi;obtain ⟨_,b6,er,iF⟩:=NM p5 l4 bO (vg (i+1) (show 0<R.length by omega));exact ⟨(run_in p5 aG af a6).2,(run_in p5 er b6 iF).1⟩
theorem W7 (dm:b.2.length+R.length≤10):qS (HA b R):=by
 refine ⟨p5.f1,p5.f6,by rw [JQ];exact dm,fun s ai=>?_,fun s ai=>?_⟩
 all_goals
  rcases ti.1 ai with ai | ai
 ·exact p5.left s ai
 ·obtain ⟨i,hi,rfl⟩:=sM.1 ai;exact (Yn p5 l4 bO (sX.1 hi)).1
 ·exact p5.right s ai
 ·obtain ⟨i,hi,rfl⟩:=sM.1 ai;exact (Yn p5 l4 bO (sX.1 hi)).2
theorem V2:∀ i,i≤R.length→∀ p∈Il b R i,Hx (HA b R) p
 | 0,_,p,aB=>absurd aB (by simp [Il])
 | i+1,hi,p,aB=>by
   rw [Il,ti,ti,ta] at aB;rcases aB with (aB | aB) | rfl
   ·exact V2 i (by omega) p aB
   ·obtain ⟨ad,af,aG,a6⟩:=(NM p5 l4 bO (show i<R.length by omega)).2.2.1 p aB;exact ⟨ad,by rw [JQ];omega,aG,a6⟩
   ·exact ⟨by simp only;omega,by rw [JQ];simp only;omega,by simp,by simp⟩
theorem V3 (aV:0<R.length):∀ i,i≤R.length→qN (HA b R) (rM b (ix R ((0:Nat):Int))).1 (Il b R i)=some (rM b (ix R ((i % R.length:Nat):Int))).1
 | 0,_=>by rw [Nat.zero_mod];rfl
 | i+1,hi=>by
   (have rn:i<R.length:=by omega);obtain ⟨ad,af,aG,a6⟩:=NM p5 l4 bO rn;rw [Il,JG,JG,V3 aV i (by omega),sx,Nat.mod_eq_of_lt rn];rw [←Zi ad7 _ _ (fun p aB=>⟨(aG p aB).1,(aG p aB).2.1⟩),af,sx];have e:ix (HA b R).2 ((b.2.length+i:Nat):Int)=Ly b R i:=ad8 rn;refine Kh.2 ⟨?_,?_⟩
   ·unfold qE;rw [if_neg (by simp),e];rfl
   ·unfold fin;rw [if_neg (by simp),e];rfl
omit p5 l4 bO in
theorem RZ:∀ i,i≤R.length→((Il b R i).map (·.1)).Perm (((R.take i).flatten).map (·.1)++(List.range i).map fun j=>((b.2.length+j:Nat):Int))
 | 0,_=>by simp [Il]
 | i+1,hi=>by
   (have rn:i<R.length:=by omega);have a_:=RZ i (by omega);rw [Il,tj,tj,tT rn,vJ,tj,uZ,tj,ry rn];simp only [sG,tL,tO,List.flatten_nil,sW];refine List.Perm.trans (wg _ (wg _ a_)) ?_;simp only [sH];refine List.Perm.append_left _ ?_;rw [←sH,←sH];exact wg _ List.perm_append_comm
omit p5 bO in
theorem acu:((Il b R R.length).map (·.1)).Perm (upto (HA b R).2.length):=by
 refine (RZ R.length (sB _)).trans ?_;rw [tU,JQ];have e:upto (b.2.length+R.length)=upto b.2.length++(List.range R.length).map fun j=>((b.2.length+j:Nat):Int):=by
  unfold upto;rw [List.range_add,tj,List.map_map];rfl
 rw [e];exact wg _ l4.all
omit p5 bO in
theorem V1 (i:Nat) (hi:i≤R.length):(Il b R i).length≤b.2.length+i:=by
 have ad:=(RZ (b:=b) i hi).length_eq;have af:=l4.all.length_eq;rw [td,sC,td,td,List.length_range] at ad;rw [td,r_] at af;have aG:(R.take i).flatten.length≤R.flatten.length:=by
  conv=>rhs;rw [←uW i R,vJ,sC]
  omega
 omega
theorem ad9 (aV:0<R.length) (dm:b.2.length+R.length≤10):KO (HA b R) (Il b R R.length)=0∧J1 (HA b R)=0:=by
 have Lq:=W7 p5 l4 bO dm;have dN:=V3 p5 l4 bO aV R.length (sB _);rw [Nat.mod_self] at dN;have aB:=acu (b:=b) l4;have ao:=aB.length_eq;rw [td,r_,JQ] at ao;have afz:Il b R R.length≠[]:=fun e=>by rw [e] at ao;simp at ao;omega
 have bQ:=V2 p5 l4 bO R.length (sB _);have al:=PH Lq afz bQ (aB.nodup_iff.2 (IQ _)) dN;constructor
 ·unfold KO;rw [al];dsimp only;rw [if_neg (by simp),if_neg (by rw [ao,JQ];omega),if_neg (by simp)]
 ·have jD:RowsOf (HA b R) (upto (HA b R).2.length) [Il b R R.length]:=⟨fun r aj=>by
   rw [ta.1 aj];exact bQ,fun r aj=>by
   rw [ta.1 aj];exact ⟨_,_,dN⟩,by simpa using aB⟩
  have aP:=Xh Lq jD;have Mk:0<(HA b R).2.length:=by rw [JQ];omega
  rw [aiC Lq Mk,if_pos];refine ⟨((Sr Lq Mk).1 (by simpa using aP)).1,?_⟩;rw [tu];unfold JF rF;rw [List.filter_eq_nil_iff];intro v _;have:=NN _ _ _ v dN;rw [M_ aB] at this;rw [decide_eq_true_eq];split at this <;> omega
theorem abw (aV:0<R.length) (dm:b.2.length+R.length≤10) {k:Row→Row→Option Bool}:∀ (m i:Nat) (z:Int),z=i→i≤R.length→R.length-i<m →
  MV b R k m (Il b R i) z (b.2++JE b R i)=k (Il b R R.length) (HA b R).2
 | 0,_,_,_,_,h=>absurd h (by omega)
 | m+1,i,_,rfl,hi,hm=>by
   rw [MV];have aeY:=V1 (b:=b) l4 i hi;by_cases h:(i:Int)<(R.length:Int)
   ·(have rn:i<R.length:=by omega);obtain ⟨ad,af,aG,a6⟩:=NM p5 l4 bO rn;have aw:(i+1) % R.length<R.length:=vg _ aV;obtain ⟨cb,b6,er,iF⟩:=NM p5 l4 bO aw;have Dw:∀ {j:Nat},j<R.length→(ix R (j:Int)).length≤b.2.length:=fun {j} aw=>by
     rw [ry aw];have af:=l4.all.length_eq;rw [td,r_] at af;have:=Yv (sU aw);omega
    have aT:=Dw rn;have r2:=Dw aw;have e:((i+1:Nat):Int).tmod (R.length:Int)=(((i+1) % R.length:Nat):Int):=rfl;have a_:=abw (k:=k) aV dm m (i+1) _ rfl (by omega) (by omega);have el:(b.2++JE b R i).length=b.2.length+i:=by rw [sC,Ty]
    rw [if_pos (decide_eq_true h),qz ⟨by omega,h⟩,Q6 b _ (by omega) (by omega),sx,qz (by omega),sm i (by omega),e,qz ⟨by omega,by omega⟩,Q6 b _ (by omega) (by omega),sx,
     if_neg (by rw [ad];simp),if_neg (by rw [cb];simp),qz ⟨by omega,h⟩,qz (by omega),qz (by rw [sC];omega),qz (by rw [el];omega),el]
    (have ca:JE b R (i+1)=JE b R i++[Ly b R i]:=by unfold JE;rw [uZ,tj];rfl);rw [ca,←sH] at a_;exact a_
   ·rw [if_neg (by simpa using h),show i=R.length by omega];rfl
omit p5 l4 bO in
theorem alJ (p5:qS b) (aV:0<b.2.length) {p_:List Int} (KG:∀ x∈p_,0≤x∧x≤255) (yW:p_.length≤40):LZ b p_ (KL b)=some true:=by
 have dm:=p5.len;obtain ⟨R,jD,l4,bO⟩:=ak1 (b:=b) (by_:=p_) (by omega) KG p5;have pz:R.flatten.length=b.2.length:=by
  have:=l4.all.length_eq
  rwa [td,r_] at this
 have XK:R.length≤R.flatten.length:=by
  clear l4 jD pz
  induction R with
  | nil=>simp
  | cons r R a_ =>
    have:=tS.2 (bO r (by simp));have:=a_ fun q a0=>bO q (by simp [a0]);rw [tO,sC,sV];omega
 have XJ:0<R.length:=Nat.pos_of_ne_zero fun e=>by
  have:R=[]:=tu.1 e
  rw [this] at pz;simp at pz;omega
 rw [LZ,jD,sx,JH (by omega)];by_cases h:(10:Int)<(b.2.length:Int)+(R.length:Int)
 ·rw [if_pos (decide_eq_true h)];simp only [Pj,sx]
 have Tm:b.2.length+R.length≤10:=by omega
 rw [if_neg (by simpa using h),qz (by simp;omega),List.nil_append];have Lq:=W7 p5 l4 bO Tm;obtain ⟨q1,aX⟩:=ad9 p5 l4 bO XJ Tm
 have ao:=abw p5 l4 bO XJ Tm (k:=fun yh oJ =>
    (LP (b.1,oJ)).bind fun J0 =>
    (Lb (b.1,oJ)).bind fun LC =>
    if (decide ((KL b).1≤(R.length:Int)))=true then
     (La (b.1,oJ) yh).bind fun NH =>
     if (decide (NH=(0:Int)))=true then
      if (decide (J0.2=(0:Int)))=true then
       if (decide (J0.1=(0:Int)))=true then
        if (decide (LC.2=(0:Int)))=true then
         (Kk).bind fun Qu =>
         some Qu
        else
         some false
       else
        some false
      else
       some false
     else
      some false
    else
     some false) qc 0 0 rfl (by omega) (r6 (by omega))
 have f':JE b R 0=[]:=rfl;rw [f',sW] at ao;refine ao.trans ?_;have aeY:=V1 (b:=b) l4 R.length (sB _);have cB:=JQ (b:=b) (R:=R);show ((LP (HA b R)).bind fun J0=>(Lb (HA b R)).bind fun LC=>_)=_;rw [aa3 (by omega),sx,Vs (by omega),sx];have hm:(KL b).1≤(R.length:Int):=by
  unfold KL;split
  ·simp
  ·rw [PK p5];have:=Xh p5 l4;simp only;omega
 rw [if_pos (decide_eq_true hm)];show ((La (HA b R) (Il b R R.length)).bind fun NH=>_)=_;have e1:KL (HA b R)=(0,0):=if_pos aX;rw [aaW _ _ (by omega) (by omega),sx,q1,e1,U3,aX,if_pos (decide_eq_true rfl),if_pos (decide_eq_true rfl),if_pos (decide_eq_true rfl),if_pos (decide_eq_true rfl)];simp only [Pj,sx]
omit p5 l4 bO in
theorem alI (b:p9) {p_:List Int} (KG:∀ x∈p_,0≤x∧x≤255):Rh b p_=some true:=by
 rw [Rh,akX,sx];by_cases aP:(decide (b.2.length≤14) && decide (rQ b=0))=true
 case neg=>rw [if_neg aP];simp only [Pj,sx]
 rw [if_pos aP];simp only [sO,decide_eq_true_eq] at aP;have p5:=I'.1 aP.2;have dm:=p5.len;by_cases aV:(b.2.length:Int)=0
 ·rw [if_pos (decide_eq_true aV)];simp only [Pj,sx]
 rw [if_neg (by simpa using aV)];by_cases XD:(40:Int)<(p_.length:Int)
 ·rw [if_pos (decide_eq_true XD)];simp only [Pj,sx]
 have aw:=alJ p5 (by omega) KG (show p_.length≤40 by omega);rw [if_neg (by simpa using XD),akZ p5,sx,aa3 (by omega),sx,Vs (by omega),sx,if_pos rfl,U3,aw];by_cases aj:J1 b=0
 ·have e1:KL b=(0,0):=if_pos aj;rw [e1,aj];rfl
 ·have e1:KL b=((H2 b:Int),0):=by unfold KL;rw [if_neg aj,PK p5]
  rw [e1,if_neg (by simp),if_neg (by simpa using aj),if_pos (by simpa using aj),if_neg (by simp)]
omit p5 l4 bO in
theorem ag5 {b:p9} {p_:List Int} (KG:∀ x∈p_,0≤x∧x≤255):qB 9 [.agg [hW b.1,.ax (b.2.flatMap p0) b.2.length .shared],.ax (p_.map qO) p_.length .shared] (B true):=alL (alI b KG)
end
end Go.Proofs.YtfakoboiahbhaaaGreat.Ab
