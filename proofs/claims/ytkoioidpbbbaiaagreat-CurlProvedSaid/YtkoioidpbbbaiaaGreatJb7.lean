
import Derived.Test.YtkoioidpbbbaiaaGreatJb5
import Derived.Test.YtkoioidpbbbaiaaGreatJb6
import Derived.KernelRfl
import Derived.Test.YtkoioidpbbbaiaaGreatProg
set_option linter.unusedSimpArgs false
set_option linter.unusedVariables false
set_option linter.unusedSectionVars false

open Bool renaming and_eq_true→sn,and_self→tW,and_true→tt,eq_iff_iff→uZ
open Int renaming le_refl→sR,max_assoc→vF,mul_le_mul_of_nonneg_left→vE,toNat_natCast→tp
open List renaming all_cons→tx,all_nil→tZ,append_assoc→sx,drop_eq_getElem_cons→s6,drop_of_length_le→u_,drop_zero→tq,flatMap_append→ug,getD_eq_getElem?_getD→sw,getElem?_append→sq,getElem?_append_left→sg,getElem?_eq_none→uP,getElem?_eq_some_iff→sa,getElem?_set→tC,getElem?_set_ne→sd,getElem?_set_self→sj,length_append→sy,length_eq_zero_iff→sP,length_set→s0,map_append→sO,map_cons→sG,map_nil→uy,mem_append→tf,mem_cons→sA,mem_filter→sX,mem_map→sC,mem_map_of_mem→td,mem_of_getElem?→sv,mem_singleton→sT,not_mem_nil→tQ,take_of_length_le→te
open Nat renaming ble_eq_true_of_le→tj,le_refl→sc,lt_succ_self→sD,zero_add→sB,zero_le→sE
open Option renaming bind_some→sb
namespace Go.Proofs.YtkoioidpbbbaiaaGreat.Ab
open Go
set_option maxRecDepth 20000
set_option maxHeartbeats 4000000
noncomputable def Y4:gE :=
 p2 [p0 2 [.jq 0] .box,qf 4 0,qf 5 0] (p2 [p0 9 [.Bs 2] (.zE (.str 3)),p3 10 1,p0 11 [.Bs 10] (.yB 1 1 [.av [] 0 .full] [0]),p0 12 [.cv (.func 40 [] []),.nc 9,.nc 11] (.call 3),p1 8 12,qB 13 8 0,p0 14 [.Bs 8] (.ext 1),p1 6 13,p1 7 14] (.seq (p2 [p3 15 7,qy 16 15 0 .neq] (.cond (.nc 16) (p2 [p1 17 7,qf 4 0,p1 5 17] .ret) .skip)) (p2 [p1 18 6,p1 19 1,p0 20 [.cv (.func 41 [] []),.nc 18,.nc 19] (.call 3),p1 4 20,qf 5 0] .ret)))
theorem adL:qo Tryz.prog Tl 29=some (Y4,21,[.tmp 4,.tmp 5]):=by kernel_rfl
def Iw (p:(qg×(Int×Int))) (order:p9):Option (Int×Int) :=
 (rN p [order]).bind fun aS =>
 match aS with
 | (none,q1) =>
   if (decide (q1≠(0:Int)))=true then
    some ((0:Int),q1)
   else
    none
 | (some bU,q1) =>
   if (decide (q1≠(0:Int)))=true then
    some ((0:Int),q1)
   else
    (Kj (bU.1,()) order).bind fun bj =>
    some (bj,(0:Int))
theorem JF {p:(qg×(Int×Int))} {order:p9} {v:(Int×Int)} (h:Iw p order=some v):qw 29 [(.agg [(.av (p.1.flatMap p7) p.1.length .shared),(h0 p.2.1),(h0 p.2.2)]),(.av (order.map h0) order.length .shared)] (.tuple [(h0 v.1),(h0 v.2)]):=by
 refine qL eG adL rfl (Je (p6 rfl (p6 rfl rfl))) fun Q bp=>?_;have jJ:qI [.tmp 4,.tmp 5] Q (fun v=>(.tuple [(h0 v.1),(h0 v.2)])) v:=fun T H bE=>bp _ T H bE;unfold Iw at h;unfold Y4;conv=>whnf
 obtain ⟨aS,gM,h⟩:=p8 h;rcases aS with ⟨_ | bU,q1⟩
 ·refine ⟨(p6 (H0 (p6 (Hx (fun _=>(p6 rfl (p6 rfl rfl))) _ _ _) (p6 rfl (p6 rfl rfl)))) (p6 (OY (p6 (rM (fun _=>rfl) _ _ _) rfl)) rfl)),_,MW gM,?_⟩;conv=>whnf
  refine bs h (fun gN h=>?_) fun gN h=>?_
  ·rw [gN];(conv=>whnf);exact p_ h jJ rfl rfl
  ·rw [gN];(conv=>whnf);exact r0 h
 ·refine ⟨(p6 (H0 (p6 (Hx (fun _=>(p6 rfl (p6 rfl rfl))) _ _ _) (p6 rfl (p6 rfl rfl)))) (p6 (OY (p6 (rM (fun _=>rfl) _ _ _) rfl)) rfl)),_,MW gM,?_⟩;conv=>whnf
  refine bs h (fun qs h=>?_) fun qs h=>?_
  ·rw [qs];(conv=>whnf);exact p_ h jJ rfl rfl
  ·rw [qs];(conv=>whnf);obtain ⟨bj,qK,h⟩:=p8 h;refine ⟨qi.pl,_,N5 qK,?_⟩;(conv=>whnf);exact p_ h jJ rfl rfl

noncomputable def Y5:gE :=
 p2 [p0 3 [.jq 0] .box,qf 6 0,qf 7 0,qf 8 0] (p2 [p0 13 [.nc 3] (.zE (.str 3)),p3 14 1,p0 15 [.Bs 14] (.yB 1 1 [.av [] 0 .full] [0]),p0 16 [.cv (.func 40 [] []),.nc 13,.nc 15] (.call 3),p1 12 16,qB 17 12 0,p0 18 [.Bs 12] (.ext 1),p1 9 17,p1 10 18] (.seq (.block 0 (p2 [p3 20 10,qy 21 20 0 .neq,p1 19 21] (.cond (.nc 19) (p2 [p1 22 10,qf 6 0,qf 7 0,p1 8 22] .ret) (p2 [p0 24 [.nc 3] (.yM 1),qv 25 24 0,qh 26 25,qv 27 3 1,qv 28 27 1,qh 29 28,p3 30 2,p0 31 [.Bs 30] (.yB 1 1 [.int .i64 0] [0]),p0 32 [.cv (.func 50 [] []),.nc 26,.nc 29,.nc 31] (.call 3),p0 33 [.Bs 32] (.un .not),p1 23 33] (.cond (.nc 23) (p2 [qf 6 0,qf 7 0,qf 8 3] .ret) .skip))))) (p2 [p1 34 9,p1 35 1,p1 36 2,p0 37 [.cv (.func 63 [] []),.nc 34,.nc 35,.nc 36] (.call 3),p0 11 [] (.alloc [.int .i64 0,.int .i64 0]),⟨none,[.nc 11,.jq 37],none,none,.st 2⟩] (.seq (ra [p0 38 [.nc 11,.cv (.int .i64 0)] (.zu 2 1),qh 39 38,p0 40 [.nc 11,.cv (.int .i64 1)] (.zu 2 1),qh 41 40,p1 6 39,p1 7 41,qf 8 0]) .ret))))
theorem adM:qo Tryz.prog Tm 30=some (Y5,42,[.tmp 6,.tmp 7,.tmp 8]):=by kernel_rfl
def Jg (p:(qg×(Int×Int))) (order:p9) (rj:Int):Option (Int×Int×Int) :=
 (rN p [order]).bind fun aS =>
 match aS with
 | (none,q1) =>
   if (decide (q1≠(0:Int)))=true then
    some ((0:Int),(0:Int),q1)
   else
    (IH p.2.1 p.2.2 [rj]).bind fun bj =>
    if bj=true then
     none
    else
     some ((0:Int),(0:Int),(3:Int))
 | (some bU,q1) =>
   if (decide (q1≠(0:Int)))=true then
    some ((0:Int),(0:Int),q1)
   else
    (IH p.2.1 p.2.2 [rj]).bind fun eK =>
    if eK=true then
     (LV (bU.1,()) order rj).bind fun q5 =>
     some (q5.1,q5.2,(0:Int))
    else
     some ((0:Int),(0:Int),(3:Int))
theorem N2 {p:(qg×(Int×Int))} {order:p9} {rj:Int} {v:(Int×Int×Int)} (h:Jg p order rj=some v):qw 30 [(.agg [(.av (p.1.flatMap p7) p.1.length .shared),(h0 p.2.1),(h0 p.2.2)]),(.av (order.map h0) order.length .shared),(h0 rj)] (.tuple [(h0 v.1),(h0 v.2.1),(h0 v.2.2)]):=by
 refine qL eG adM rfl (Je (p6 rfl (p6 rfl (p6 rfl rfl)))) fun Q bp=>?_;have jJ:qI [.tmp 6,.tmp 7,.tmp 8] Q (fun v=>(.tuple [(h0 v.1),(h0 v.2.1),(h0 v.2.2)])) v:=fun T H bE=>bp _ T H bE;unfold Jg at h;unfold Y5;conv=>whnf
 obtain ⟨aS,gM,h⟩:=p8 h;rcases aS with ⟨_ | bU,q1⟩
 ·refine ⟨(p6 (H0 (p6 (Hx (fun _=>(p6 rfl (p6 rfl rfl))) _ _ _) (p6 rfl (p6 rfl rfl)))) (p6 (OY (p6 (rM (fun _=>rfl) _ _ _) rfl)) rfl)),_,MW gM,?_⟩;conv=>whnf
  refine bs h (fun gN h=>?_) fun gN h=>?_
  ·rw [gN];(conv=>whnf);exact p_ h jJ rfl rfl
  ·rw [gN];(conv=>whnf);obtain ⟨bj,qs,h⟩:=p8 h;refine ⟨(p6 rfl (p6 rfl (p6 rfl rfl))),_,KP qs,?_⟩;(conv=>whnf);cases bj
   ·(conv=>whnf);replace h:=rW rfl h;exact p_ h jJ rfl rfl
   ·(conv=>whnf);replace h:=rV rfl h;exact r0 h
 ·refine ⟨(p6 (H0 (p6 (Hx (fun _=>(p6 rfl (p6 rfl rfl))) _ _ _) (p6 rfl (p6 rfl rfl)))) (p6 (OY (p6 (rM (fun _=>rfl) _ _ _) rfl)) rfl)),_,MW gM,?_⟩;conv=>whnf
  refine bs h (fun qK h=>?_) fun qK h=>?_
  ·rw [qK];(conv=>whnf);exact p_ h jJ rfl rfl
  ·rw [qK];(conv=>whnf);obtain ⟨eK,qY,h⟩:=p8 h;refine ⟨(p6 rfl (p6 rfl (p6 rfl rfl))),_,KP qY,?_⟩;(conv=>whnf);cases eK
   ·(conv=>whnf);replace h:=rW rfl h;exact p_ h jJ rfl rfl
   ·(conv=>whnf);replace h:=rV rfl h;obtain ⟨q5,rn,h⟩:=p8 h;refine ⟨qi.pl,_,SD rn,?_⟩;(conv=>whnf);refine ⟨by decide,?_⟩;(conv=>whnf);refine ⟨by decide,?_⟩;(conv=>whnf);exact p_ h jJ rfl rfl

noncomputable def PU:gE :=
 .loop (some (p' false [1,2,2,2,29])) (.seq (p2 [p3 12 6,p0 13 [.nc 2] (.yM 1),qv 14 13 1,qh 15 14,qn 16 12 15 .leq] (.cond (.nc 16) .skip (.exit 0))) (.seq (.block 1 (.seq (ra [p0 19 [.nc 2] (.zE (.str 3)),p3 20 1,p3 21 6,p0 22 [.cv (.func 65 [] []),.nc 19,.nc 20,.nc 21,.cv (.int .i64 0)] (.call 3),p0 23 [.nc 2] (.zE (.str 3)),p3 24 1,p3 25 6,p0 26 [.cv (.func 65 [] []),.nc 23,.nc 24,.nc 25,.cv (.int .i64 1)] (.call 3),p1 7 22,p1 8 26]) (qO [p1 27 5,p3 28 7,p1 29 7,p0 30 [.Bs 29] (.un .neg),p3 31 8,p1 32 8,p0 33 [.Bs 32] (.un .neg),p0 34 [.jq 27,.jq 28,.jq 30,.jq 31,.jq 33] .max,p1 5 34]))) (qO [p1 17 6,qV 18 17 1,p1 6 18])))
noncomputable def Zb:gE :=
 p2 [p0 2 [.jq 0] .box,qf 4 0] (p2 [qf 5 0] (.seq (p2 [p0 9 [.nc 2] (.yM 1),qv 10 9 0,qh 11 10,p1 6 11] (.block 0 PU)) (p2 [p1 35 5,p1 4 35] .ret)))
theorem adU:qo Tryz.prog Qf 39=some (Zb,36,[.tmp 4]):=by kernel_rfl
def LO (p:(qg×(Int×Int))) (order:p9) (qa:Int→Option Int):Nat→Int→Int→Option Int
 | 0,_,_=>none
 | m+1,s1,s2 =>
   if (decide (s2≤p.2.2))=true then
    (JH p order s2 (0:Int)).bind fun aS =>
    (JH p order s2 (1:Int)).bind fun bj =>
    LO p order qa m (max (max (max (max s1 aS) (w (-aS))) bj) (w (-bj))) (w (s2+(1:Int)))
   else
    qa s1
def KM (p:(qg×(Int×Int))) (order:p9):Option Int :=
 LO p order (fun yn =>
   some yn) qj (0:Int) p.2.1
theorem aht {p:(qg×(Int×Int))} {order:p9} {qa:Int→Option Int} {s1:Int} {s2:Int} {v:Int} {Q:Hm}   (ri:∀ (yn:Int) (bx:ar) (qd:List I),qa yn=some v→rv 36 [(5,(h0 yn))] qd→Q (.exit 0) qd [bx]) {T:List I} (b0:eZ (p' false [1,2,2,2,29]) T=qc 36 [(1,(qR order .shared)),(2,(.ptr 0 0)),(5,(h0 s1)),(6,(h0 s2))]) (h:LO p order qa qj s1 s2=some v) :
  dQ Tryz.prog Qf 39 0 none PU T [ar.cells [(q2 p.1 .shared),(h0 p.2.1),(h0 p.2.2)]] Q:=by
 unfold PU;refine wp_loop b0 ?_;refine .intro (fun m T H=>∃ (s1 s2:Int),T=qc 36 [(1,(qR order .shared)),(2,(.ptr 0 0)),(5,(h0 s1)),(6,(h0 s2))]∧H=[ar.cells [(q2 p.1 .shared),(h0 p.2.1),(h0 p.2.2)]]∧LO p order qa m s1 s2=some v) qj ⟨s1,s2,rfl,rfl,h⟩ ?_;clear h b0;rintro m T H ⟨s1,s2,rfl,rfl,h⟩;cases m
 ·exact r0 h
 rename_i m;rw [LO.eq_2] at h;conv=>whnf
 refine bs h (fun gM h=>?_) fun gM h=>?_
 ·rw [gM];conv=>whnf
  obtain ⟨aS,gN,h⟩:=p8 h;refine ⟨qi.pl,_,YD gN,Hg,?_⟩;conv=>whnf
  obtain ⟨bj,qs,h⟩:=p8 h;refine ⟨qi.pl,_,YD qs,(S4 (fun _ e=>by simp at e) Hg),?_⟩;conv=>whnf
  exact ⟨m,sD m,(max (max (max (max s1 aS) (w (-aS))) bj) (w (-bj))),(w (s2+(1:Int))),rfl,rfl,h⟩
 ·rw [gM];conv=>whnf
  exact ri _ _ _ h ⟨rfl,rfl⟩
theorem Yl {p:(qg×(Int×Int))} {order:p9} {v:Int} (h:KM p order=some v):qw 39 [(.agg [(.av (p.1.flatMap p7) p.1.length .shared),(h0 p.2.1),(h0 p.2.2)]),(.av (order.map h0) order.length .shared)] (h0 v):=by
 refine qL eG adU rfl rfl fun Q bp=>?_;have jJ:qI [.tmp 4] Q (fun v=>(h0 v)) v:=fun T H bE=>bp _ T H bE;unfold KM at h;unfold Zb;obtain ⟨HD,qE⟩:∃ c,PU=c:=⟨_,rfl⟩;rw [qE];conv=>whnf
 subst qE;refine aht ?_ (by exact rfl) h;intro yn bx qd h qz;obtain ⟨rB,rfl⟩:=qz.ex;conv=>whnf
 exact p_ h jJ rfl rfl

def Sy (p:(qg×(Int×Int))) (order:p9):Option Int :=
 (JH p order p.2.1 (0:Int)).bind fun aS =>
 (JH p order p.2.1 (1:Int)).bind fun bj =>
 (JH p order p.2.2 (0:Int)).bind fun eK =>
 (JH p order p.2.2 (1:Int)).bind fun q5 =>
 some (max (max (max (max (max (max (max aS (w (-aS))) bj) (w (-bj))) eK) (w (-eK))) q5) (w (-q5)))
end Go.Proofs.YtkoioidpbbbaiaaGreat.Ab


namespace Go.Proofs.YtkoioidpbbbaiaaGreat.Ab
open Go
set_option maxRecDepth 20000
set_option maxHeartbeats 1000000
abbrev qA (p:qb) (o:List Int) (a:Nat) (d:Int):Int:=rp p.1 o a (q3 d)
def Hr (p:qb) (o:List Int) (d:Int):Int:=max (max (qA p o 0 d) (-(qA p o 0 d))) (max (qA p o 1 d) (-(qA p o 1 d)))
def qx (p:qb) (o:List Int):Int:=max (Hr p o p.2.1) (Hr p o p.2.2)
theorem abu (p:qb) (o:List Int) (d:Int):0≤Hr p o d:=by unfold Hr;omega
theorem Qw (p:qb) (o:List Int):0≤qx p o:=by have:=abu p o p.2.1;unfold qx;omega
theorem q7.len {p:qb} (h:q7 p):3≤p.1.length∧p.1.length≤7:=by have:=h.n;omega
theorem qp.len {p:qb} {o:List Int} (h:q7 p) (k:qp p.1.length o):o.length≤10:=by have:=h.len;have:=k.1;omega
theorem Ja {p:qb} {o:List Int} {a:Nat} {d:Int} (h:q7 p) (k:qp p.1.length o) (a1:0≤d∧d≤50):-60000≤qA p o a d∧qA p o a d≤60000 :=
 aen (B:=600) (qp.len h k) (by omega) fun i hi=>L8 (IZ h.s (Hw k) hi) a1
theorem T1 (p:qb) (o:List Int) (a:Nat) {lo d hi:Int} (ab:lo≤d) (ae:d≤hi):(qA p o a lo≤qA p o a d∧qA p o a d≤qA p o a hi)∨(qA p o a hi≤qA p o a d∧qA p o a d≤qA p o a lo):=by
 simp only [qA,aep];generalize rp p.1 o a Prod.snd=B;rcases Int.le_total 0 B with h | h
 ·have:=vE ab h;have:=vE ae h;omega
 ·have:=Int.mul_le_mul_of_nonpos_left h ab;have:=Int.mul_le_mul_of_nonpos_left h ae;omega
theorem OA {p:qb} {o:List Int} {lo d hi:Int} (ab:lo≤d) (ae:d≤hi):Hr p o d≤max (Hr p o lo) (Hr p o hi):=by
 have a:=T1 p o 0 ab ae;have b:=T1 p o 1 ab ae;unfold Hr;omega
theorem aeh (a b c d:Int):max (max (max (max (max (max (max (max 0 a) (-a)) b) (-b)) c) (-c)) d) (-d)=max (max (max a (-a)) (max b (-b))) (max (max c (-c)) (max d (-d))):=by
 rw [show max (max 0 a) (-a)=max a (-a) by omega];simp only [vF]
section
variable {p:qb} {o:List Int}
theorem N4 (h:q7 p) (k:qp p.1.length o):Kj (p,()) o=some (qx p o):=by
 have hle:=h.le;have bD:=h.lo;have GO:=h.hi;unfold Kj;have fL:=qp.len h k;rw [SC (b:=(p,())) h.s (Hw k) fL k.1.symm (show 0≤p.2.1∧p.2.1≤50 by omega),sb,SC (b:=(p,())) h.s (Hw k) fL k.1.symm (show 0≤p.2.2∧p.2.2≤50 by omega),sb];have aA:=Ja (a:=0) h k (show 0≤p.2.1∧p.2.1≤50 by omega);have aG:=Ja (a:=1) h k (show 0≤p.2.1∧p.2.1≤50 by omega);have aT:=Ja (a:=0) h k (show 0≤p.2.2∧p.2.2≤50 by omega);have br:=Ja (a:=1) h k (show 0≤p.2.2∧p.2.2≤50 by omega);simp only;rw [qD (n := -(qA p o 0 p.2.1)) (by omega),qD (n := -(qA p o 1 p.2.1)) (by omega),qD (n := -(qA p o 0 p.2.2)) (by omega),qD (n := -(qA p o 1 p.2.2)) (by omega)];exact congrArg some (aeh _ _ _ _)
theorem YE (h:q7 p) (k:qp p.1.length o) {d:Int} (a1:0≤d∧d≤50) {a:Nat}:JH p o d (a:Int)=some (qA p o a d):=ahR h.s (Hw k) (qp.len h k) a1
theorem abG {n:Nat} (h:n≤1000000):n<qj:=Is h
theorem Va (h:q7 p) (k:qp p.1.length o):∀ (m i:Nat) (s:Int),p.2.1+i≤p.2.2+1→(p.2.2+1-(p.2.1+i)).toNat<m→0≤s→s≤qx p o→(0<i→Hr p o p.2.1≤s)→(p.2.1+i=p.2.2+1→Hr p o p.2.2≤s) →
  LO p o (fun z=>some z) m s (p.2.1+i)=some (qx p o)
 | 0,_,_,_,h,_,_,_,_=>absurd h (by omega)
 | m+1,i,s,hi,hm,aQ,ab,ae,aF=>by
   have hle:=h.le;have bD:=h.lo;have GO:=h.hi;rw [LO];by_cases aR:p.2.1+i≤p.2.2
   ·rw [if_pos (decide_eq_true aR)];rw [show (0:Int)=((0:Nat):Int) from rfl,YE h k (d:=p.2.1+i) (by omega),sb];rw [show (1:Int)=((1:Nat):Int) from rfl,YE h k (d:=p.2.1+i) (by omega),sb];have aA:=Ja (a:=0) h k (show 0≤p.2.1+i∧p.2.1+i≤50 by omega);have aG:=Ja (a:=1) h k (show 0≤p.2.1+i∧p.2.1+i≤50 by omega);rw [qD (n := -(qA p o 0 (p.2.1+i))) (by omega),qD (n := -(qA p o 1 (p.2.1+i))) (by omega),qD (by omega)];(have e:max (max (max (max s (qA p o 0 (p.2.1+i))) (-(qA p o 0 (p.2.1+i)))) (qA p o 1 (p.2.1+i))) (-(qA p o 1 (p.2.1+i)))=max s (Hr p o (p.2.1+i)):=by unfold Hr;simp only [vF]);have b:=OA (p:=p) (o:=o) (lo:=p.2.1) (d:=p.2.1+i) (hi:=p.2.2) (by omega) aR;rw [e,show p.2.1+(i:Int)+((1:Nat):Int)=p.2.1+((i+1:Nat):Int) by omega];refine Va h k m (i+1) _ (by omega) (by omega) (by omega) (by unfold qx at *;omega) (fun _=>?_) (fun he=>?_)
    ·by_cases gb:i=0
     ·subst gb;simp only [Int.natCast_zero,Int.add_zero];omega
     ·have:=ae (by omega);omega
    ·rw [show p.2.1+(i:Int)=p.2.2 by omega];omega
   ·rw [if_neg (by simpa using by omega)];have:=ae (by omega);have:=aF (by omega);congr 1;unfold qx at *;omega
theorem Yk (h:q7 p) (k:qp p.1.length o):KM p o=some (qx p o):=by
 have hle:=h.le;have bD:=h.lo;have GO:=h.hi;unfold KM;have:=Va h k qj 0 0 (by omega) (abG (by omega)) (by omega) (Qw p o) (fun h=>absurd h (by omega)) (fun h=>by omega);simpa using this
theorem Py (aB:p.1.length≤1000) (ao:o.length≤12):Iw p o=some (if rU p o=0 then (qx p o,0) else (0,rU p o)):=by
 unfold Iw;rw [PC aB ao,sb];by_cases h:rU p o=0
 ·rw [if_pos h,if_pos h];obtain ⟨ab,ae⟩:=Lv.1 h;simp only;rw [if_neg (by decide),N4 ab ae];rfl
 ·rw [if_neg h,if_neg h];simp only;rw [if_pos (decide_eq_true h)]
theorem Sq (aB:p.1.length≤1000) (ao:o.length≤12) (d:Int):Jg p o d=some (if rU p o=0 then (if p.2.1≤d∧d≤p.2.2 then (qA p o 0 d,qA p o 1 d,0) else (0,0,3)) else (0,0,rU p o)):=by
 unfold Jg;rw [PC aB ao,sb];by_cases h:rU p o=0
 ·rw [if_pos h,if_pos h];obtain ⟨ab,ae⟩:=Lv.1 h;have hle:=ab.le;have bD:=ab.lo;have GO:=ab.hi;simp only;rw [if_neg (by decide),MX,sb];by_cases a1:p.2.1≤d∧d≤p.2.2
  ·rw [if_pos (by simp [a1.1,a1.2]),if_pos a1,SC (b:=(p,())) ab.s (Hw ae) (qp.len ab ae) ae.1.symm (by omega)];rfl
  ·rw [if_neg (by simpa using a1),if_neg a1]
 ·rw [if_neg h,if_neg h];simp only;rw [if_pos (decide_eq_true h)]
end
end Go.Proofs.YtkoioidpbbbaiaaGreat.Ab


namespace Go.Proofs.YtkoioidpbbbaiaaGreat.Ab
open Go
noncomputable def O5:gE :=
 .seq (ra [p0 37 [.nc 10] (.zE (.str 2)), p0 38 [] (.build [.int .i64 0, .int .i64 0] []), p0 39 [.Bs 37, .Bs 38] (.other (Oper.mk (some 39) (Op.binOp .eql 117 (Operand.tmp 37) (Operand.tmp 38) 117) 4 "press.go:129" (Array.mk [Edge.mk 0 Ground.data, Edge.mk 1 Ground.data]) none) 0), p1 40 39, cl 41 [.jq 11] 40 false .mU, cl 42 [.jq 41] 40 false .mU, cl 43 [.nc 10] 42 true (.yM 0), cl 44 [.Bs 43] 42 true (.zE .one), cl 45 [.nc 10] 42 true (.yM 1), cl 46 [.Bs 45] 42 true (.zE .one), cl 47 [.jq 0] 42 true .mU, cl 48 [.Bs 47] 42 true .z4, cl 49 [.Bs 48] 42 true (.yM 0), cl 50 [.Bs 49] 42 true (.yM 1), cl 51 [.Bs 50] 42 true (.yM 0), cl 52 [.Bs 51] 42 true (.zE .one), cl 53 [.Bs 46, .Bs 52] 42 true (.bin .mul), cl 54 [.Bs 44, .Bs 53] 42 true (.bin .add), cl 55 [.Bs 54, .cv (.int .i64 0)] 42 true (.bin .eql), cl 56 [.nc 42, .Bs 55, .cv (.bool false)] 40 false .pick, p0 57 [.nc 40, .cv (.bool true), .Bs 56] .pick, p0 8 [.cv (.av [] 0 .full)] (.nil 3), p1 9 57]) .ret
noncomputable def RM:gE :=
 .ov false [p3 80 0,p0 81 [.Bs 80] .z4,qv 82 81 3,qh 83 82,p3 84 0,p3 85 3,p0 86 [.Bs 85,.cv (.int .i64 0)] (.kY 1),qh 87 86,p0 88 [.cv (.func 77 [] []),.jq 84,.jq 87] (.call 9),p3 89 12,⟨none,[.Bs 83,.Bs 88,.Bs 89],none,none,.zR (.int .i64)⟩]
noncomputable def O6:gE :=
 p2 [p3 73 0,p3 74 0,p3 75 3,p0 76 [.Bs 75,.cv (.int .i64 0)] (.kY 1),qh 77 76,p0 78 [.cv (.func 77 [] []),.jq 74,.jq 77] (.call 9),p0 79 [.cv (.func 81 [] []),.nc 73,.nc 78] (.call 2),p1 12 79] RM
noncomputable def RN:gE :=
 .ov true [p0 98 [.nc 10] (.yM 0),qh 99 98,p0 100 [.Bs 99] (.un .neg),p0 101 [.nc 10] (.yM 1),qh 102 101,p1 103 0,p0 104 [.Bs 103] .z4,qv 105 104 0,qv 106 105 1,qv 107 106 0,qh 108 107,qn 109 102 108 .mul,qn 110 100 109 .sub,p0 111 [.Bs 110,.cv (.int .i64 0)] (.build [.int .i64 0,.int .i64 0] [(0,1),(1,1)]),⟨none,[.nc 14,.jq 111],none,none,.st 2⟩]
noncomputable def WX:gE :=
 .seq (ra [p1 120 1,p1 121 3,p0 122 [.Bs 121,.cv (.int .i64 0)] (.kY 1),qh 123 122,re 124 120 123 1,qh 125 124,p0 126 [.Bs 15] (.zE (.str 2)),p0 127 [.Bs 125,.Bs 126] (.build [.int .i64 0,.int .i64 0,.int .i64 0] [(0,1),(1,2)]),p0 128 [.Bs 127] (.yB 1 3 [.int .i64 0,.int .i64 0,.int .i64 0] [0]),p1 8 128,p0 9 [.cv (.bool true)] .mU]) .ret
noncomputable def O7:gE :=
 .seq (p2 [p1 118 13,p0 119 [.Bs 118] (.un .not)] (.cond (.nc 119) (p2 [p0 8 [.cv (.av [] 0 .full)] (.nil 3),p0 9 [.cv (.bool false)] .mU] .ret) .skip)) WX
noncomputable def O8:gE :=
 p2 [p1 113 12,p0 114 [.Bs 14] (.zE (.str 2)),p0 115 [.Bs 113,.Bs 114] (.zQ (.str 2) true (some (.agg [.int .i64 0,.int .i64 0]))),p1 112 115,qB 116 112 0,p0 117 [.Bs 112] (.ext 1),p0 15 [] (.alloc [.int .i64 0,.int .i64 0]),⟨none,[.nc 15,.jq 116],none,none,.st 2⟩,p1 13 117] O7
noncomputable def NK:gE :=
 p2 [p0 90 [.nc 10] (.yM 0),qh 91 90,p0 92 [.Bs 91] (.un .neg),p0 93 [.nc 10] (.yM 1),qh 94 93,p0 95 [.Bs 94] (.un .neg),p0 96 [.Bs 92,.Bs 95] (.build [.int .i64 0,.int .i64 0] [(0,1),(1,1)]),p0 14 [] (.alloc [.int .i64 0,.int .i64 0]),⟨none,[.nc 14,.jq 96],none,none,.st 2⟩] (.seq (p2 [p1 97 11] (.cond (.nc 97) RN .skip)) O8)
noncomputable def MA:gE :=
 p2 [p3 59 0,p0 60 [.Bs 59] .z4,qv 61 60 3,qh 62 61,p3 63 0,p3 64 3,p0 65 [.Bs 64,.cv (.int .i64 0)] (.kY 1),qh 66 65,p0 67 [.cv (.func 77 [] []),.jq 63,.jq 66] (.call 9),p0 68 [.Bs 62,.Bs 67] (.zQ (.int .i64) true (some .a0)),p1 58 68,qB 69 58 0,qB 70 58 1,p1 12 69,p1 13 70] (.seq (p2 [p1 71 13,p0 72 [.Bs 71] (.un .not)] (.cond (.nc 72) O6 .skip)) NK)
noncomputable def NJ:gE :=
 .seq (ra [p3 21 0,p0 22 [.Bs 21] .z4,qv 23 22 0,qv 24 23 1,qv 25 24 0,qh 26 25,p3 27 0,p0 28 [.Bs 27] .z4,qv 29 28 0,qv 30 29 1,qv 31 30 1,qh 32 31,qn 33 26 32 .eql,p1 11 33]) (.seq (p2 [p3 34 3,qW 35 34,qy 36 35 0 .eql] (.cond (.nc 36) O5 .skip)) MA)
noncomputable def RL:gE :=
 p2 [p3 16 0,p3 17 1,p1 18 2,p3 19 3,p0 20 [.cv (.func 80 [] []),.jq 16,.jq 17,.jq 18,.jq 19] (.call 9),p0 10 [] (.alloc [.int .i64 0,.int .i64 0]),⟨none,[.nc 10,.jq 20],none,none,.st 2⟩] NJ
noncomputable def O4:gE :=
 p2 [p0 8 [.cv (.av [] 0 .full)] (.nil 3),p0 9 [.cv (.bool false)] .mU] RL
theorem Ra:qo Go.Proofs.Tryz.prog L7 60=some (O4,129,[.tmp 8,.tmp 9]):=by kernel_rfl
end Go.Proofs.YtkoioidpbbbaiaaGreat.Ab


namespace Go.Proofs.YtkoioidpbbbaiaaGreat.Ab
open Go
set_option maxRecDepth 20000
set_option maxHeartbeats 4000000
abbrev r3:=((List (Int×Int))×(Int×Int))×Unit
abbrev rS (b:r3) (m:Nat):I:=.bS [.av (b.1.1.flatMap p7) b.1.1.length .shared,h0 b.1.2.1,h0 b.1.2.2,.map m]
def HU (b:r3) (m:Nat) (H:List ar):Prop:=∃ (es:List (Nat×I×I)) (IK:Nat),H[m]?=some (.map es IK) ∧
 ∀ e∈es,∃ (x:Int) (id c:Nat) (A:q9),e.2.1=h0 x∧e.2.2=.map id∧id≠m∧H[id]?=some (.map (q' A) c)∧M0 b x=some A
theorem HU.more {b:r3} {m:Nat} {H:List ar} (h:HU b m H) (Z:List ar):HU b m (H++Z):=by
 obtain ⟨es,IK,ab,ae⟩:=h;refine ⟨es,IK,by rw [sg (sa.1 ab).1];exact ab,fun e he=>?_⟩;obtain ⟨x,id,c,A,aA,aG,aT,br,bg⟩:=ae e he;exact ⟨x,id,c,A,aA,aG,aT,by rw [sg (sa.1 br).1];exact br,bg⟩
theorem Ud {x:Int}:∀ {es:List (Nat×I×I)} {n:Nat},(∀ e∈es,∃ y:Int,e.2.1=h0 y)→(∃ i e,fH (h0 x) es n=some (some (n+i))∧es[i]?=some e∧e.2.1=h0 x)∨fH (h0 x) es n=some none
 | [],n,_=>.inr rfl
 | (i,k,v)::es,n,h=>by
   obtain ⟨y,aY⟩:=h (i,k,v) (by simp);simp only at aY;subst aY;have he:gK (h0 x) (h0 y)=some (decide (x=y)):=by
    simp only [gK,if_true,Option.some.injEq];rw [uZ];simp
   by_cases e:x=y
   ·subst e;refine .inl ⟨0,_,?_,rfl,rfl⟩;simp only [fH,he,decide_true];rfl
   ·rcases Ud (x:=x) (es:=es) (n:=n+1) (fun e he=>h e (by simp [he])) with ⟨j,b',ab,ae,aF⟩ | ab
    ·refine .inl ⟨j+1,b',?_,by simpa using ae,aF⟩;simp only [fH,he];rw [decide_eq_false e];show fH (h0 x) es (n+1)=_;rw [ab];congr 2;omega
    ·refine .inr ?_;simp only [fH,he];rw [decide_eq_false e];exact ab
def Ic (m:Nat) (H H':List ar):Prop:=H.length≤H'.length∧∀ j,j≠m→j<H.length→H'[j]?=H[j]?
def Ip (b:r3) (order:List Int) (qm:Int) (Ls:List Int):Option (List qu×Bool) :=
 (LZ b order qm Ls).bind fun left =>
 match Ls with
 | []=>some ([],decide (left=(0,0)) || (decide (b.1.2.1=b.1.2.2) && decide (w (left.1+w (left.2*b.1.2.1))=0)))
 | cy::_ =>
   (Kk b cy).bind fun x=>(M0 b x).bind fun A =>
   match Jr A (if b.1.2.1=b.1.2.2 then (w (w (-left.1)-w (left.2*b.1.2.1)),0) else (w (-left.1),w (-left.2))) with
   | none=>some ([],false)
   | some s=>qk (0≤cy∧cy<(order.length:Int)) <| some ([(ix order cy,s)],true)
theorem YB {b:r3} {order:List Int} {qm:Int} {v:List qu×Bool} (h:Ip b order qm []=some v) {m lo:Nat} {H:List ar} (bD:lo≤H.length) :
  v.1=[]∧∃ o,Sem Tryz.prog (.fn 60) [rS b m,.av (order.map h0) order.length .shared,h0 qm,.av [] 0 .full] H lo (.tuple [.av [] 0 .shared,B v.2]) (H++[o]):=by
 unfold Ip at h;obtain ⟨left,ao,h⟩:=p8 h;obtain rfl:=Option.some.inj h;refine ⟨rfl,.cells [h0 left.1,h0 left.2],?_⟩;refine rA eG Ra rfl (a'.append _ _ _) fun Q bp=>?_;unfold O4 RL;obtain ⟨aaI,Ks⟩:∃ c,NJ=c:=⟨_,rfl⟩;rw [Ks];conv=>whnf
 refine ⟨_,_,call9 (bs:=[lp b,.av (order.map h0) order.length .shared,h0 qm,.av (([]:List Int).map h0) ([]:List Int).length .shared]) rfl (p6 (Ia b) (p6 (rM (fun _=>rfl) _ _ _) (p6 rfl (p6 rfl rfl)))) (PK ao),?_⟩;conv=>whnf
 rw [tj bD];refine Ew (x:=ar.cells [h0 0,h0 0]) (by first | exact qX.h | rfl | (simp [sq,I.settle];done)) ?_
 conv=>whnf
 rw [HT];subst Ks;unfold NJ;obtain ⟨B9,K5⟩:∃ c,MA=c:=⟨_,rfl⟩;obtain ⟨a7,cf⟩:∃ c,O5=c:=⟨_,rfl⟩;rw [K5,cf];conv=>whnf
 subst cf;unfold O5;conv=>whnf
 refine Ew (x:=ar.cells [h0 left.1,h0 left.2]) (by first | exact qX.h | rfl | (simp [sq,I.settle];done)) ?_
 conv=>whnf
 refine ⟨.bool (decide (left=(0,0))),_,fun C=>VX rfl rfl (ZI (fs:=abF Tryz.prog 117) (by kernel_rfl) (by kernel_rfl) (by kernel_rfl) (by kernel_rfl) (by kernel_rfl) _ _ _ _ (.inl rfl)),?_⟩;conv=>whnf
 by_cases bk:left=(0,0)
 ·rw [decide_eq_true bk];conv=>whnf
  rw [decide_eq_true bk] at bp;exact bp _ _ _ ⟨.inr rfl,lI.refl _,rfl⟩
 ·rw [decide_eq_false bk];rw [decide_eq_false bk] at bp;conv=>whnf
  by_cases aq:b.1.2.1=b.1.2.2
  ·rw [decide_eq_true aq];rw [decide_eq_true aq] at bp;(conv=>whnf);refine Ew (x:=ar.cells [h0 left.1,h0 left.2]) (by first | exact qX.h | rfl | (simp [sq,I.settle];done)) ?_
   (conv=>whnf);refine Ew (x:=ar.cells [h0 left.1,h0 left.2]) (by first | exact qX.h | rfl | (simp [sq,I.settle];done)) ?_
   (conv=>whnf);exact bp _ _ _ ⟨.inr rfl,lI.refl _,rfl⟩
  ·rw [decide_eq_false aq];rw [decide_eq_false aq] at bp;(conv=>whnf);exact bp _ _ _ ⟨.inr rfl,lI.refl _,rfl⟩
theorem XL {b:r3} {order:List Int} {cy:Int} {left:qZ} {A:q9} {v:List qu×Bool} (h:(match Jr A (if b.1.2.1=b.1.2.2 then (w (w (-left.1)-w (left.2*b.1.2.1)),0) else (w (-left.1),w (-left.2))) with
  | none=>some ([],false)
  | some s=>qk (0≤cy∧cy<(order.length:Int)) <| some ([(ix order cy,s)],true))=some v) {m lo p10 id c:Nat} {H:List ar} {XW X1 X2 X3 Pq X4 Ps XR:I} (bD:lo≤H.length) (dp:H[p10]?=some (.cells [h0 left.1,h0 left.2])) (aE:H[id]?=some (.map (q' A) c)) {Q:cQ→List I→List ar→Prop}
  (bp:∀ T bx bK,(rQ (H++[bx,bK]) T [.tmp 8,.tmp 9]).map jg=some (.tuple [.av (v.1.flatMap qq) v.1.length .shared,B v.2])→Q .ret T (H++[bx,bK])) :
  dQ Tryz.prog L7 60 lo none NK (qc 129 [(0,rS b m),(1,.av (order.map h0) order.length .shared),(3,.av [h0 cy] 1 (.own 1)),(8,X4),(9,Ps),(10,.ptr p10 0),(11,.bool (decide (b.1.2.1=b.1.2.2))),(12,.map id),(13,XR),(36,XW),(58,X1),(72,X2),(73,X3),(78,Pq)]) H Q:=by
 have Ks:∀ Z,(H++Z)[p10]?=some (.cells [h0 left.1,h0 left.2]):=fun Z=>by rw [sg (sa.1 dp).1];exact dp
 have gid:∀ Z,(H++Z)[id]?=some (.map (q' A) c):=fun Z=>by rw [sg (sa.1 aE).1];exact aE
 obtain ⟨JD,Nu⟩:∃ JD,JD=(if b.1.2.1=b.1.2.2 then (w (w (-left.1)-w (left.2*b.1.2.1)),0) else (w (-left.1),w (-left.2))):=⟨_,rfl⟩;rw [←Nu] at h;have fin:∀ v0 X5,dQ Tryz.prog L7 60 lo none O8 (qc 129 [(0,v0),(1,.av (order.map h0) order.length .shared),(3,.av [h0 cy] 1 (.own 1)),(8,X4),(9,Ps),(10,.ptr p10 0),(12,.map id),(13,XR),(14,.ptr H.length 0),(36,XW),(58,X1),(72,X2),(73,X3),(78,Pq),(97,X5)]) (H++[ar.cells [h0 JD.1,h0 JD.2]]) Q:=by
  intro v0 X5;unfold O8;obtain ⟨f',Hp⟩:∃ c,O7=c:=⟨_,rfl⟩;rw [Hp];conv=>whnf
  refine Ew (x:=ar.cells [h0 JD.1,h0 JD.2]) (by first | exact qX.h | rfl | (simp [sq,I.settle];done)) ?_
  conv=>whnf
  rcases adw JD A with ⟨s,i,e,aJ,aN,cb,hq⟩ | ⟨aJ,aN⟩
  ·rw [aJ] at h;obtain ⟨jT,h⟩:=rR h;obtain rfl:=Option.some.inj h;refine ⟨rfl,_,_,gid _,some i,aN,e,cb,?_⟩;rw [hq];(conv=>whnf);rw [tj (show lo≤(H++[ar.cells [h0 JD.1,h0 JD.2]]).length by simp;omega)];refine Ew (x:=ar.cells [h0 0,h0 0]) (by first | exact qX.h | rfl | (simp [sq,I.settle];done)) ?_
   (conv=>whnf);rw [HT];subst Hp;unfold O7 WX;(conv=>whnf);refine ⟨⟨sR _,by decide⟩,?_⟩;(conv=>whnf);refine ⟨jT,?_⟩;rw [ru h0 order cy jT];(conv=>whnf);refine Ew (x:=ar.cells [h0 s.1,h0 s.2]) (by first | exact qX.h | rfl | (simp [sq,I.settle];done)) ?_
   (conv=>whnf);rw [sx];exact bp _ _ _ rfl
  ·rw [aJ] at h;obtain rfl:=Option.some.inj h;refine ⟨rfl,_,_,gid _,none,aN,_,rfl,?_⟩;(conv=>whnf);rw [tj (show lo≤(H++[ar.cells [h0 JD.1,h0 JD.2]]).length by simp;omega)];refine Ew (x:=ar.cells [h0 0,h0 0]) (by first | exact qX.h | rfl | (simp [sq,I.settle];done)) ?_
   (conv=>whnf);rw [HT];subst Hp;unfold O7;(conv=>whnf);rw [sx];exact bp _ _ _ rfl
 unfold NK;obtain ⟨nu,Mb⟩:∃ c,O8=c:=⟨_,rfl⟩;obtain ⟨b6,iP⟩:∃ c,RN=c:=⟨_,rfl⟩;rw [Mb,iP];conv=>whnf
 refine Ew dp ?_;conv=>whnf
 refine Ew dp ?_;conv=>whnf
 rw [tj bD];refine Ew (x:=ar.cells [h0 0,h0 0]) (by first | exact qX.h | rfl | (simp [sq,I.settle];done)) ?_
 conv=>whnf
 rw [HT];by_cases aq:b.1.2.1=b.1.2.2
 ·rw [decide_eq_true aq];rw [if_pos aq] at Nu;conv=>whnf
  subst iP;unfold RN;conv=>whnf
  refine Ew (Ks _) ?_;conv=>whnf
  refine Ew (Ks _) ?_;conv=>whnf
  rw [tj bD];refine Ew (x:=ar.cells [h0 (w (-left.1)),h0 (w (-left.2))]) (by first | exact qX.h | rfl | (simp [sq,I.settle];done)) ?_
  conv=>whnf
  rw [HT];subst Mb;rw [Nu] at fin;exact fin _ _
 ·rw [decide_eq_false aq];rw [if_neg aq] at Nu;conv=>whnf
  subst Mb;rw [Nu] at fin;exact fin _ _
theorem Uc {H:List ar} {bx bK:ar}:lI (H++[bx,bK]) (H++[.dead,.dead]):=by
 refine ⟨by simp,fun id o aq=>?_⟩;by_cases h:id<H.length
 ·rw [sg h] at aq ⊢;exact .inr aq
 ·rw [List.getElem?_append_right (by omega)] at aq;refine .inl ?_
  match ae:id-H.length with
  | 0=>rw [ae] at aq;exact (Option.some.inj aq).symm
  | 1=>rw [ae] at aq;exact (Option.some.inj aq).symm
  | n+2=>rw [ae] at aq;cases aq
theorem YC {b:r3} {order:List Int} {qm cy:Int} {v:List qu×Bool} (h:Ip b order qm [cy]=some v) {m lo:Nat} {H:List ar} (bD:lo≤m) (bG:HU b m H) :
  ∃ H',HU b m H'∧Ic m H H'∧Sem Tryz.prog (.fn 60) [rS b m,.av (order.map h0) order.length .shared,h0 qm,.av [h0 cy] 1 (.uniq 1)] H lo (.tuple [.av (v.1.flatMap qq) v.1.length .shared,B v.2]) H':=by
 unfold Ip at h;obtain ⟨left,ao,h⟩:=p8 h;obtain ⟨x,aj,h⟩:=p8 h;obtain ⟨A,aL,h⟩:=p8 h;have OI:=bG;obtain ⟨es,IK,hm,Jn⟩:=OI;have er:=(sa.1 hm).1;have Q2:∀ Z,(H++Z)[m]?=some (.map es IK):=fun Z=>by rw [sg er];exact hm
 have aiH:([rS b m,.av (order.map h0) order.length .shared,h0 qm,.av [h0 cy] 1 .shared]:List I).map I.gw=[lp b,.av (order.map h0) order.length .shared,h0 qm,.av [h0 cy] 1 .shared]:=rfl;have start:∀ (Q:cQ→List I→List ar→Prop),dQ Tryz.prog L7 60 lo none MA (qc 129 [(0,rS b m),(1,.av (order.map h0) order.length .shared),(3,.av [h0 cy] 1 (.own 1)),(8,.av [] 0 (.uniq 3)),(9,.bool false),(10,.ptr H.length 0),(11,.bool (decide (b.1.2.1=b.1.2.2))),(36,.bool false)]) (H++[ar.cells [h0 left.1,h0 left.2]]) Q →
   dQ Tryz.prog L7 60 lo none O4 (qc 129 [(0,rS b m),(1,.av (order.map h0) order.length .shared),(2,h0 qm),(3,.av [h0 cy] 1 (.uniq 1))]) H Q:=by
  intro Q a_;unfold O4 RL;obtain ⟨aaI,Ks⟩:∃ c,NJ=c:=⟨_,rfl⟩;rw [Ks];conv=>whnf
  refine ⟨_,_,call9 (bs:=[lp b,.av (order.map h0) order.length .shared,h0 qm,.av (([cy]:List Int).map h0) ([cy]:List Int).length .shared]) rfl (p6 (Ia b) (p6 (rM (fun _=>rfl) _ _ _) (p6 rfl (p6 rfl rfl)))) (PK ao),?_⟩;conv=>whnf
  rw [tj (show lo≤H.length by omega)];refine Ew (x:=ar.cells [h0 0,h0 0]) (by first | exact qX.h | rfl | (simp [sq,I.settle];done)) ?_
  conv=>whnf
  rw [HT];subst Ks;unfold NJ;obtain ⟨B9,K5⟩:∃ c,MA=c:=⟨_,rfl⟩;obtain ⟨a7,cf⟩:∃ c,O5=c:=⟨_,rfl⟩;rw [K5,cf];conv=>whnf
  subst K5;exact a_
 have acm:∀ e∈es,∃ y:Int,e.2.1=h0 y:=fun e he=>by
  obtain ⟨y,_,_,_,ab,_⟩:=Jn e he;exact ⟨y,ab⟩
 rcases Ud (x:=x) (n:=0) acm with ⟨i,e,aJ,aN,cb⟩ | aJ
 ·obtain ⟨y,id,c,SS,aA,aG,aT,br,bg⟩:=Jn e (sv aN);rw [cb] at aA;have acA:x=y:=by injection aA
  subst acA;rw [aL] at bg;obtain rfl:=Option.some.inj bg;rw [sB] at aJ;refine ⟨(H++[ar.cells [h0 left.1,h0 left.2]])++[.dead,.dead],(bG.more _).more _,⟨by simp,fun j _ aw=>by rw [sx,sg aw]⟩,?_⟩;refine rA eG Ra rfl (by rw [sx];exact a'.append _ _ _) fun Q bp=>?_;refine start Q ?_;unfold MA;obtain ⟨bt,eS⟩:∃ c,O6=c:=⟨_,rfl⟩;obtain ⟨nv,Jm⟩:∃ c,NK=c:=⟨_,rfl⟩;rw [eS,Jm];conv=>whnf
  refine ⟨⟨sR _,by decide⟩,?_⟩;conv=>whnf
  refine ⟨_,_,call9 (bs:=[lp b,h0 cy]) rfl (p6 (Ia b) (p6 rfl rfl)) (KU aj),?_⟩;conv=>whnf
  refine ⟨rfl,_,_,Q2 _,some i,aJ,e,aN,?_⟩;rw [aG];conv=>whnf
  subst Jm;refine XL (A:=A) (c:=c) h (by simp;omega) (IP _ _) (by rw [sg (sa.1 br).1];exact br) fun T bx bK ai=>?_;exact bp _ _ _ ⟨.inr rfl,Uc,ai⟩
 ·obtain ⟨c,D,cp⟩:=ah0 aL;obtain ⟨H1,bW⟩:∃ H1,H1=H++[ar.cells [h0 left.1,h0 left.2]]:=⟨_,rfl⟩;have jU:H1.length=H.length+1:=by rw [bW];simp
  have nP:H1[m]?=some (.map es IK):=by rw [bW];exact Q2 _
  obtain ⟨H2,ch⟩:∃ H2,H2=(H1++[ar.map (q' A) c]).set m (.map (es++[(IK,h0 x,.map H1.length)]) (IK+1)):=⟨_,rfl⟩;have eF:H2.length=H.length+2:=by rw [ch];simp [jU]
  have aO:∀ j,j≠m→H2[j]?=(H1++[ar.map (q' A) c])[j]?:=fun j aw=>by rw [ch,sd (by omega)]
  have UN:H2[H1.length]?=some (.map (q' A) c):=by rw [aO _ (by omega)];exact IP _ _
  have acg:H2[m]?=some (.map (es++[(IK,h0 x,.map H1.length)]) (IK+1)):=by rw [ch];exact sj (by simp;omega)
  have abL:HU b m H2:=by
   refine ⟨_,_,acg,fun e he=>?_⟩;rcases tf.1 he with he | he
   ·obtain ⟨y,id,dU,SS,aA,aG,aT,br,bg⟩:=Jn e he;have aE:=(sa.1 br).1;refine ⟨y,id,dU,SS,aA,aG,aT,?_,bg⟩;rw [aO _ aT,bW,sx,sg aE];exact br
   ·obtain rfl:=sT.1 he;exact ⟨x,H1.length,c,A,rfl,rfl,by omega,UN,aL⟩
  refine ⟨H2++[.dead,.dead],abL.more _,⟨by simp [eF];omega,fun j aw mo=>?_⟩,?_⟩
  ·rw [sg (by omega),aO _ aw,bW,sx,sg mo]
  have J_:a' lo H (H2++[.dead,.dead]):=by
   refine ⟨by simp [eF];omega,fun j ab ae=>?_⟩;rw [sg (by omega),aO _ (by omega),bW,sx,sg (by omega)]
  refine rA eG Ra rfl J_ fun Q bp=>?_;refine start Q ?_;rw [←bW];unfold MA;obtain ⟨bt,eS⟩:∃ c,O6=c:=⟨_,rfl⟩;obtain ⟨nv,Jm⟩:∃ c,NK=c:=⟨_,rfl⟩;rw [eS,Jm];conv=>whnf
  refine ⟨⟨sR _,by decide⟩,?_⟩;conv=>whnf
  refine ⟨_,_,call9 (bs:=[lp b,h0 cy]) rfl (p6 (Ia b) (p6 rfl rfl)) (KU aj),?_⟩;conv=>whnf
  refine ⟨rfl,_,_,nP,none,aJ,_,rfl,?_⟩;conv=>whnf
  subst eS;unfold O6;obtain ⟨a9,ca⟩:∃ c,RM=c:=⟨_,rfl⟩;rw [ca];conv=>whnf
  refine ⟨⟨sR _,by decide⟩,?_⟩;conv=>whnf
  refine ⟨_,_,call9 (bs:=[lp b,h0 cy]) rfl (p6 (Ia b) (p6 rfl rfl)) (KU aj),?_⟩;conv=>whnf
  have zg:∀ (j i:Nat) (k v:I),(q' A)[j]?=some (i,k,v)→cr 8 k=true∧cr 8 v=true:=fun j i k v aw=>by
   obtain ⟨a,_,cu⟩:=sC.1 (sv aw);obtain ⟨_,ae⟩:=Prod.mk.inj cu;obtain ⟨rfl,rfl⟩:=Prod.mk.inj ae;exact ⟨H0 (p6 rfl (p6 rfl rfl)),H0 (p6 rfl (p6 rfl rfl))⟩
  refine ⟨_,_,aaM (args:=[rS b m,h0 x]) (es:=q' A) (clock:=c) (D:=D) (p6 (Ia b) (p6 rfl rfl)) zg cp _ _,?_⟩;conv=>whnf
  subst ca;unfold RM;conv=>whnf
  refine ⟨⟨sR _,by decide⟩,?_⟩;conv=>whnf
  refine ⟨_,_,call9 (bs:=[lp b,h0 cy]) rfl (p6 (Ia b) (p6 rfl rfl)) (KU aj),?_⟩;conv=>whnf
  rw [tj bD];refine ⟨rfl,es,IK,by rw [sg (by omega)];exact nP,none,aJ,?_⟩;conv=>whnf
  rw [←ch];subst Jm;refine XL (A:=A) (c:=c) (p10:=H.length) (id:=H1.length) h (by omega) (by rw [aO _ (by omega),sg (by omega),bW];exact IP _ _) UN fun T bx bK ai=>?_;exact bp _ _ _ ⟨.inr rfl,Uc,ai⟩

def YP (places:p9) (lo hi sum:Int) (Pe:(p9→Int→Int→Int→Option Bool)) (qa:Unit→Option Bool):Nat→Int→Option Bool
 | 0,_=>none
 | m+1,s1 =>
   if (decide (s1≤hi))=true then
    qk (0≤(1:Int)∧(1:Int)≤(places.length:Int)) <|
    qk (0≤(0:Int)∧(0:Int)<(places.length:Int)) <|
    (Pe (places.drop (1:Int).toNat) lo hi (w (sum-(w ((ix places (0:Int))*s1))))).bind fun aS =>
    if aS=true then
     some true
    else
     YP places lo hi sum Pe qa m (w (s1+(1:Int)))
   else
    qa ()
def ah2 (Pe:p9→Int→Int→Int→Option Bool) (places:p9) (lo hi sum:Int):Option Bool :=
 if (decide ((places.length:Int)=(0:Int)))=true then
  some (decide (sum=(0:Int)))
 else
  if (decide ((places.length:Int)=(1:Int)))=true then
   qk (0≤(0:Int)∧(0:Int)<(places.length:Int)) <|
   if (decide ((ix places (0:Int))≠(0:Int)))=true then
    qk ((ix places (0:Int))≠0) <|
    if (decide ((sum.tmod (ix places (0:Int)))=(0:Int)))=true then
     qk ((ix places (0:Int))≠0) <|
     if (decide (lo≤(w (sum.tdiv (ix places (0:Int))))))=true then
      qk ((ix places (0:Int))≠0) <|
      if (decide ((w (sum.tdiv (ix places (0:Int))))≤hi))=true then
       some true
      else
       if (decide ((ix places (0:Int))=(0:Int)))=true then
        some (decide (sum=(0:Int)))
       else
        some false
     else
      if (decide ((ix places (0:Int))=(0:Int)))=true then
       some (decide (sum=(0:Int)))
      else
       some false
    else
     if (decide ((ix places (0:Int))=(0:Int)))=true then
      some (decide (sum=(0:Int)))
     else
      some false
   else
    if (decide ((ix places (0:Int))=(0:Int)))=true then
     some (decide (sum=(0:Int)))
    else
     some false
  else
   YP places lo hi sum Pe (fun _ =>
     some false) qj lo
def YO:Nat→p9→Int→Int→Int→Option Bool
 | 0=>fun _ _ _ _=>none
 | m+1=>fun places lo hi sum=>ah2 (YO m) places lo hi sum
def SH (places:p9) (lo hi sum:Int):Option Bool:=YO qj places lo hi sum

def SB (p:(qg×(Int×Int))) (order:p9) (bits:Int) (qa:p9→Int→Int→Option Bool):Nat→p9→Int→Int→Int→Option Bool
 | 0,_,_,_,_=>none
 | m+1,s1,s2,dk,G' =>
   if (decide (G'<(order.length:Int)))=true then
    qk (0≤G'∧G'<(order.length:Int)) <|
    qk (0≤(ix order G')∧(ix order G')<(p.1.length:Int)) <|
    (L0 G' (order.length:Int)).bind fun aS =>
    qk (0≤G') <|
    if (decide ((w ((BitVec.ofInt IntKind.i64.bits (bits.fdiv (2 ^ (Nat.min G'.toNat IntKind.i64.bits))) &&& BitVec.ofInt IntKind.i64.bits (1:Int)).toNat:Int))=(1:Int)))=true then
     qk ((s1.length+1)*8≤140737488355328) <|
     SB p order bits qa m (s1++[aS]) s2 dk (w (G'+(2:Int)))
    else
     SB p order bits qa m s1 (w (s2+(w (aS*(ix p.1 (ix order G')).1)))) (w (dk+(w (aS*(ix p.1 (ix order G')).2)))) (w (G'+(2:Int)))
   else
    qa s1 s2 dk
def ahM (p:(qg×(Int×Int))) (order:p9) (qm bits:Int):Option Bool :=
 SB p order bits (fun yn oT Gz =>
   if (decide (p.2.1=p.2.2))=true then
    (SH yn (w ((-10:Int)*p.2.1)) (w ((100:Int)+(w ((10:Int)*p.2.1)))) (w ((w (-oT))-(w (Gz*p.2.1))))).bind fun bj =>
    some bj
   else
    (SH yn (0:Int) (100:Int) (w (-oT))).bind fun eK =>
    if eK=true then
     (SH yn (-10:Int) (10:Int) (w (-Gz))).bind fun q5 =>
     some q5
    else
     some false) qj ([]:List Int) (0:Int) (0:Int) qm

def YQ (bits:Int) (qa:Int→Option Int):Nat→Int→Int→Option Int
 | 0,_,_=>none
 | m+1,s1,s2 =>
   if (decide (s2<(8:Int)))=true then
    qk (0≤s2) <|
    YQ bits qa m (w (s1+(w ((BitVec.ofInt IntKind.i64.bits (bits.fdiv (2 ^ (Nat.min s2.toNat IntKind.i64.bits))) &&& BitVec.ofInt IntKind.i64.bits (1:Int)).toNat:Int)))) (w (s2+(1:Int)))
   else
    qa s1
def ah7 (bits:Int):Option Int :=
 YQ bits (fun yn =>
   some yn) qj (0:Int) (0:Int)

def PH (order:p9) (qm s2:Int) (Kw:Bool→Option Int):Nat→Bool→Int→Option Int
 | 0,_,_=>none
 | m+1,dk,G' =>
   if (decide (G'<(order.length:Int)))=true then
    if dk=true then
     qk (0≤G') <|
     if (decide ((w ((BitVec.ofInt IntKind.i64.bits (s2.fdiv (2 ^ (Nat.min G'.toNat IntKind.i64.bits))) &&& BitVec.ofInt IntKind.i64.bits (1:Int)).toNat:Int))=(0:Int)))=true then
      PH order qm s2 Kw m dk (w (G'+(1:Int)))
     else
      qk ((2:Int)≠0) <|
      PH order qm s2 Kw m (decide ((G'.tmod (2:Int))=qm)) (w (G'+(1:Int)))
    else
     PH order qm s2 Kw m dk (w (G'+(1:Int)))
   else
    Kw dk
def PG (p:(qg×(Int×Int))) (order:p9) (qm s1:Int) (q6:Unit→Option Int):Nat→Int→Option Int
 | 0,_=>none
 | m+1,s2 =>
   qk (0≤(order.length:Int)) <|
   if (decide (s2<(w ((1:Int)*2 ^ (Nat.min (order.length:Int).toNat 64)))))=true then
    PH order qm s2 (fun yn =>
      if yn=true then
       (ah7 s2).bind fun aS =>
       if (decide (aS=s1))=true then
        (ahM p order qm s2).bind fun bj =>
        if bj=true then
         some s1
        else
         PG p order qm s1 q6 m (w (s2+(1:Int)))
       else
        PG p order qm s1 q6 m (w (s2+(1:Int)))
      else
       PG p order qm s1 q6 m (w (s2+(1:Int)))) qj true (0:Int)
   else
    q6 ()
def YM (p:(qg×(Int×Int))) (order:p9) (qm:Int) (qa:Unit→Option Int):Nat→Int→Option Int
 | 0,_=>none
 | m+1,s1 =>
   if (decide (s1<(2:Int)))=true then
    PG p order qm s1 (fun _ =>
      YM p order qm qa m (w (s1+(1:Int)))) qj (0:Int)
   else
    qa ()
def YL (p:(qg×(Int×Int))) (order:p9) (qm:Int):Option Int :=
 YM p order qm (fun _ =>
   some (2:Int)) qj (0:Int)
end Go.Proofs.YtkoioidpbbbaiaaGreat.Ab


namespace Go.Proofs.YtkoioidpbbbaiaaGreat.Ab
open Go
set_option maxRecDepth 20000
set_option maxHeartbeats 1000000
def Iq (p:qb) (o:List Int) (a:Nat):Prop:=qA p o a p.2.1=0∧qA p o a p.2.2=0
instance (p:qb) (o:List Int) (a:Nat):Decidable (Iq p o a):=by unfold Iq;exact inferInstance
def I8 (p:qb) (o:List Int) (a i:Nat) (s:qt):Prop :=
 qN p.1 o a [(i:Int)] (q3 p.2.1)+qG o.length i*q3 p.2.1 s=0∧qN p.1 o a [(i:Int)] (q3 p.2.2)+qG o.length i*q3 p.2.2 s=0
instance (p:qb) (o:List Int) (a i:Nat) (s:qt):Decidable (I8 p o a i s):=by unfold I8;exact inferInstance
def Jf (t:Nat):qt:=(((t % 101:Nat):Int),((t / 101:Nat):Int)-10)
theorem Xv {t:Nat} (h:t<2121):qT (Jf t):=by unfold qT Jf;simp only;omega
theorem Xu {s:qt} (h:qT s):∃ t,t<2121∧Jf t=s:=by
 obtain ⟨ab,ae,aF,ba⟩:=h;refine ⟨(s.2+10).toNat*101+s.1.toNat,by omega,?_⟩;unfold Jf;exact Prod.ext (by simp only;omega) (by simp only;omega)
def JW (p:qb) (o:List Int) (a i:Nat):Prop:=∃ t,t<2121∧I8 p o a i (Jf t)
instance (p:qb) (o:List Int) (a i:Nat):Decidable (JW p o a i):=by unfold JW;exact inferInstance
theorem Ov {p:qb} {o:List Int} {a i:Nat}:JW p o a i↔∃ s,qT s∧I8 p o a i s:=by
 constructor
 ·rintro ⟨t,ab,ae⟩;exact ⟨_,Xv ab,ae⟩
 ·rintro ⟨s,ab,ae⟩;obtain ⟨t,aF,rfl⟩:=Xu ab;exact ⟨t,aF,ae⟩
theorem XN {L H U V:Int} (h:L=H):(U+V*L=0∧U+V*H=0)↔U+V*L=0:=by subst h;simp
theorem Sf {L H U V:Int} (h:L≠H):(U+V*L=0∧U+V*H=0)↔U=0∧V=0:=by
 constructor
 ·rintro ⟨ab,ae⟩;have aF:V*(H-L)=0:=by grind
  rcases Int.mul_eq_zero.1 aF with ba | ba
  ·subst ba;simp at ab;exact ⟨ab,rfl⟩
  ·omega
 ·rintro ⟨rfl,rfl⟩;simp
theorem abx {p:qb} {o:List Int} {a:Nat}:Iq p o a↔qN p.1 o a [] Prod.fst+qN p.1 o a [] Prod.snd*p.2.1=0∧qN p.1 o a [] Prod.fst+qN p.1 o a [] Prod.snd*p.2.2=0:=by
 unfold Iq qA;rw [←Ny,←Ny,Mi,Mi]
theorem Uf {p:qb} {o:List Int} {a i:Nat} {s:qt}:I8 p o a i s ↔
  (qN p.1 o a [(i:Int)] Prod.fst+qG o.length i*s.1)+(qN p.1 o a [(i:Int)] Prod.snd+qG o.length i*s.2)*p.2.1=0 ∧
  (qN p.1 o a [(i:Int)] Prod.fst+qG o.length i*s.1)+(qN p.1 o a [(i:Int)] Prod.snd+qG o.length i*s.2)*p.2.2=0:=by
 unfold I8;rw [Mi,Mi];have e:∀ (U V x c d D:Int),U+V*D+x*(c+d*D)=(U+x*c)+(V+x*d)*D:=fun U V x c d D=>by grind
 unfold q3;rw [e,e]
section
variable {p:qb} {o:List Int}
theorem YA (h:q7 p) (k:qp p.1.length o) {a:Nat}:Ip (p,()) o (a:Int) []=some ([],decide (Iq p o a)):=by
 have hle:=h.le;have bD:=h.lo;have GO:=h.hi;unfold Ip;rw [PJ (b:=(p,())) (W:=[]) h.s (Hw k) (qp.len h k) k.1.symm (by simp),sb];have a7:=QF (a:=a) (W:=[]) h.s (Hw k) (qp.len h k);have a9:=R' (a:=a) (W:=[]) h.s (Hw k) (qp.len h k);have bt:=HZ (b:=p.2.1) (B:=50) a9 (by omega);simp only;rw [qD (n:=qN p.1 o a [] Prod.snd*p.2.1) (by omega),qD (by omega)];congr 2;rw [uZ];simp only [Bool.or_eq_true,sn,decide_eq_true_eq,Prod.mk.injEq];rw [abx];by_cases he:p.2.1=p.2.2
 ·rw [XN he];constructor
  ·rintro (⟨ab,ae⟩ | ⟨_,ab⟩)
   ·rw [ab,ae];simp
   ·exact ab
  ·exact fun ab=>.inr ⟨he,ab⟩
 ·rw [Sf he];constructor
  ·rintro (ab | ⟨ab,_⟩)
   ·exact ab
   ·exact absurd ab he
  ·exact .inl
theorem aeu {s:q9×Nat} {k v:qZ} {e:Nat×qZ×qZ} (h:e∈(HR s k v).1):(e.2.1=k∧e.2.2=v)∨e∈s.1:=by
 unfold HR at h;split at h
 ·obtain ⟨x,aj,rfl⟩:=sC.1 h;by_cases al:k=x.2.1
  ·rw [if_pos al];exact .inl ⟨rfl,rfl⟩
  ·rw [if_neg al];exact .inr aj
 ·rcases tf.1 h with h | h
  ·exact .inr h
  ·obtain rfl:=sT.1 h;exact .inl ⟨rfl,rfl⟩
theorem aev (s:q9×Nat) (k v:qZ):∃ e∈(HR s k v).1,e.2.1=k:=by
 unfold HR;split
 ·rename_i h;obtain ⟨x,aj,al⟩:=List.any_eq_true.1 h;exact ⟨_,td aj,by rw [if_pos (of_decide_eq_true al)]⟩
 ·exact ⟨(s.2,k,v),by simp,rfl⟩
theorem aew {s:q9×Nat} {k v:qZ} {e:Nat×qZ×qZ} (h:e∈s.1):∃ cV∈(HR s k v).1,cV.2.1=e.2.1:=by
 unfold HR;split
 ·refine ⟨_,td h,?_⟩;by_cases al:k=e.2.1
  ·rw [if_pos al];exact al
  ·rw [if_neg al]
 ·exact ⟨e,by simp [h],rfl⟩
theorem XC (lo hi x:Int):∀ (t:Nat) (e:Nat×qZ×qZ),e∈(Hj lo hi x t).1→∃ iE,iE<t∧e.2.2=Jf iE∧e.2.1=HY lo hi x (Jf iE).2 (Jf iE).1
 | 0,e,h=>by simp [Hj] at h
 | t+1,e,h=>by
   unfold Hj at h;rcases aeu h with ⟨ab,ae⟩ | ab
   ·exact ⟨t,by omega,ae,ab⟩
   ·obtain ⟨iE,ae,aF⟩:=XC lo hi x t e ab;exact ⟨iE,by omega,aF⟩
theorem Sa (lo hi x:Int):∀ (t iE:Nat),iE<t→∃ e∈(Hj lo hi x t).1,e.2.1=HY lo hi x (Jf iE).2 (Jf iE).1
 | 0,_,h=>absurd h (by omega)
 | t+1,iE,h=>by
   unfold Hj;by_cases e:iE=t
   ·subst e;exact aev _ _ _
   ·obtain ⟨e1,ab,ae⟩:=Sa lo hi x t iE (by omega);obtain ⟨b',aF,ba⟩:=aew (k:=HY lo hi x ((t / 101:Nat)-10) ((t % 101:Nat))) (v:=((t % 101:Nat),(t / 101:Nat)-10)) ab;exact ⟨b',aF,ba.trans ae⟩
theorem adu {A:q9} {k:qZ} (h:Jr A k=none):∀ e∈A,e.2.1≠k:=by
 unfold Jr at h;rw [Option.map_eq_none_iff,List.find?_eq_none] at h;intro e he al;exact h e he (decide_eq_true al.symm)
theorem adv {A:q9} {k v:qZ} (h:Jr A k=some v):∃ e∈A,e.2.1=k∧e.2.2=v:=by
 unfold Jr at h;obtain ⟨e,ab,ae⟩:=Option.map_eq_some_iff.1 h;have aF:=List.find?_some ab;exact ⟨e,List.mem_of_find?_eq_some ab,(of_decide_eq_true aF).symm,ae⟩
theorem U4 {L H x:Int} {s:qt} (aj:-10≤x∧x≤10) (ah:qT s) (fq:0≤L∧L≤50):HY L H x s.2 s.1=if L=H then (x*q3 L s,0) else (x*s.1,x*s.2):=by
 have af:=L8 ah fq;obtain ⟨ab,ae,aF,ba⟩:=ah;have bm:=HZ (a:=s.2) (b:=L) (A:=10) (B:=50) (by omega) (by omega);have cw:=HZ (a:=x) (b:=q3 L s) (A:=10) (B:=600) aj (by omega);have e2:=HZ (a:=x) (b:=s.1) (A:=10) (B:=100) aj (by omega);have lQ:=HZ (a:=x) (b:=s.2) (A:=10) (B:=10) aj (by omega);unfold HY;rw [qD (n:=s.2*L) (by omega),show s.1+s.2*L=q3 L s from rfl,qD (n:=q3 L s) (by omega),qD (n:=x*q3 L s) (by omega),qD (n:=x*s.1) (by omega),qD (n:=x*s.2) (by omega)]
def H9 (lo:Int) (s:qt):Int:=max (max s.1 (q3 lo s)) (-(q3 lo s))
def HI:List Int→Int
 | []=>0
 | x::r=>x+HI r
theorem XI:∀ (a b:List Int),HI (a++b)=HI a+HI b
 | [],b=>by simp [HI]
 | x::a,b=>by simp only [List.cons_append,HI,XI a b];omega
theorem agu {a b:List Int} (h:a.Perm b):HI a=HI b:=by
 induction h with
 | nil=>rfl
 | cons x _ a8=>simp only [HI,a8]
 | swap x y l=>simp only [HI];omega
 | trans _ _ ab ae=>exact ab.trans ae
theorem XH {α:Type} [Inhabited α] (g:α→Int) (l:List α):∀ (k:Nat),k≤l.length→qM k (fun i=>g (ix l (i:Int)))=HI ((l.take k).map g)
 | 0,_=>rfl
 | k+1,h=>by
   rw [List.take_succ_eq_append_getElem (by omega),sO,XI,←XH g l k (by omega)];simp only [qM,sG,uy,HI];rw [rr (by omega)];omega
theorem Se {α:Type} [Inhabited α] (g:α→Int) (l:List α):qM l.length (fun i=>g (ix l (i:Int)))=HI (l.map g):=by
 rw [XH g l _ (sc _),List.take_length]
theorem Q7 {n i:Nat} (h:i<n):ix (ql n) (i:Int)=(i:Int):=by
 rw [rr (by simpa [ql] using h)];simp [ql]
theorem KD (n:Nat):(ql n).length=n:=by simp [ql]
theorem XF {S:List qt} {o:List Int} (k:qp S.length o) (g:qt→Int):qM o.length (fun i=>g (qF S o i))=HI (S.map g):=by
 have e1:=Se (fun j=>g (ix S j)) o;have b':=Se (fun j=>g (ix S j)) (ql S.length);have dA:=Se g S;rw [agu ((KA.1 k).map _),←b',KD] at e1;rw [←dA];refine e1.trans (KC fun i hi=>?_);simp only [Q7 hi]
theorem agt {n:Nat} {g f:Nat→Int} (e:∀ i,i<n → -(f i)≤g i∧g i≤f i):-(qM n f)≤qM n g∧qM n g≤qM n f:=by
 induction n with
 | zero=>simp [qM]
 | succ n a8 =>
   have ab:=a8 fun i hi=>e i (by omega);have ae:=e n (by omega);simp only [qM];omega
theorem OG {lo:Int} {s:qt} (ah:qT s) (ao:0≤lo∧lo≤50):0≤H9 lo s∧H9 lo s≤600:=by
 have ab:=L8 ah ao;have ae:=ah.1;have aF:=ah.2.1;unfold H9;omega
theorem VN {far lo:Int} (aP:0≤far∧far≤10) (ao:0≤lo∧lo≤50):∀ (l:List qt) (n:Int),(∀ s∈l,qT s)→0≤n→n+6000*l.length≤1000000→Jb far lo l n=n+far*HI (l.map (H9 lo))
 | [],n,_,_,_=>by simp [Jb,HI]
 | s::r,n,ah,aI,af=>by
   have al:=ah s (by simp);have de:=L8 al ao;have bm:=HZ (a:=s.2) (b:=lo) (A:=10) (B:=50) ⟨al.2.2.1,al.2.2.2⟩ (by omega);have cw:=OG al ao;have e2:=HZ (a:=far) (b:=H9 lo s) (A:=10) (B:=600) (by omega) (by omega);have lQ:=Int.mul_nonneg aP.1 cw.1;have ab:=al.1;have ae:=al.2.1;rw [List.length_cons] at af;unfold Jb;rw [qD (n:=s.2*lo) (by omega),show s.1+s.2*lo=q3 lo s from rfl,qD (n:=q3 lo s) (by omega),qD (n := -(q3 lo s)) (by omega),show max (max s.1 (q3 lo s)) (-(q3 lo s))=H9 lo s from rfl,qD (n:=far*H9 lo s) (by omega),qD (by omega)];rw [VN aP ao r _ (fun s hl=>ah s (by simp [hl])) (by omega) (by omega),sG];simp only [HI];rw [Int.mul_add];omega
theorem Re (h:q7 p) (k:qp p.1.length o) {a:Nat} {W:List Int} {f:qt→Int} (aP:∀ s,qT s → -(H9 p.2.1 s)≤f s∧f s≤H9 p.2.1 s) :
  -(qG o.length (o.length-1)*HI (p.1.map (H9 p.2.1)))≤qN p.1 o a W f∧qN p.1 o a W f≤qG o.length (o.length-1)*HI (p.1.map (H9 p.2.1)):=by
 have hle:=h.le;have bD:=h.lo;have GO:=h.hi;have aI:=h.n;rw [←k.1] at aI;rw [←XF k (H9 p.2.1),←Sd];refine agt fun i hi=>?_;have ah:=IZ h.s (Hw k) hi;have aO:=OG ah (lo:=p.2.1) (by omega);have a_:-(qG o.length (o.length-1))≤qG o.length i∧qG o.length i≤qG o.length (o.length-1):=by unfold qG;omega
 split
 ·have ab:=aP _ ah;have ae:=HZ a_ ab;exact ae
 ·have:=Int.mul_nonneg (show 0≤qG o.length (o.length-1) by omega) aO.1;omega
theorem ahZ (h:q7 p) (k:qp p.1.length o) {a i:Nat} (hi:i<o.length):∃ A,M0 (p,()) (qG o.length i)=some A∧(∀ e∈A,qT e.2.2∧e.2.1=HY p.2.1 p.2.2 (qG o.length i) e.2.2.2 e.2.2.1)∧∀ s,qT s→I8 p o a i s→∃ e∈A,e.2.1=HY p.2.1 p.2.2 (qG o.length i) s.2 s.1:=by
 have hle:=h.le;have bD:=h.lo;have GO:=h.hi;have aI:=h.n;have J9:=h.len;have aiF:=k.1;have fL:=qp.len h k;unfold M0;simp only;rw [qC (by omega),show ((p.1.length:Int)-1)=((o.length-1:Nat):Int) by omega,qD (n:=((o.length-1:Nat):Int)) (by omega),PI (b:=(p,())) fL k.1.symm (by omega),sb];have QY:0≤qG o.length (o.length-1)∧qG o.length (o.length-1)≤10:=by unfold qG;omega
 have US:=VN QY (lo:=p.2.1) (by omega) p.1 0 h.s (by omega) (by omega);rw [Int.zero_add] at US;rw [US];obtain ⟨M,CA⟩:∃ M,M=qG o.length (o.length-1)*HI (p.1.map (H9 p.2.1)):=⟨_,rfl⟩;have aiy:0≤M∧M≤1000000:=by
  have ab:=Re h k (a:=0) (W:=[]) (f:=fun _=>0) fun s ah=>by have:=OG ah (lo:=p.2.1) (by omega);omega
  have ae:=NU (n:=o.length) (g:=fun i=>H9 p.2.1 (qF p.1 o i)) (B:=600) fun i hi=>by have:=OG (IZ h.s (Hw k) hi) (lo:=p.2.1) (by omega);omega
  rw [XF k (H9 p.2.1)] at ae;have aF:=HZ (a:=qG o.length (o.length-1)) (A:=10) (by omega) ae;rw [←CA] at ab aF;omega
 rw [←CA,qD (n := -M) (by omega)];have hk:=Mk hi fL;obtain ⟨x,aj⟩:∃ x,x=qG o.length i:=⟨_,rfl⟩;rw [←aj] at hk ⊢;refine ⟨_,rfl,fun e he=>?_,fun s ah UM=>?_⟩
 ·obtain ⟨iE,ab,ae,aF⟩:=XC _ _ _ _ _ (sX.1 he).1;have ba:iE<2121:=by
   by_cases aQ:x=0
   ·rw [if_pos aQ] at ab;omega
   ·rw [if_neg aQ] at ab;exact ab
  rw [ae];exact ⟨Xv ba,aF⟩
 ·have hP:∃ e∈(Hj p.2.1 p.2.2 x (if x=0 then 1 else 2121)).1,e.2.1=HY p.2.1 p.2.2 x s.2 s.1:=by
   by_cases aQ:x=0
   ·rw [if_pos aQ];obtain ⟨e,ab,ae⟩:=Sa p.2.1 p.2.2 x 1 0 (by omega);refine ⟨e,ab,ae.trans ?_⟩;subst aQ;unfold HY;simp only [Int.zero_mul]
   ·rw [if_neg aQ];obtain ⟨t,ab,ae⟩:=Xu ah;rw [←ae];exact Sa _ _ _ _ _ ab
  obtain ⟨e,ab,ae⟩:=hP;refine ⟨e,sX.2 ⟨ab,?_⟩,ae⟩;rw [ae,U4 hk ah (by omega)];have CY:=Uf.1 UM;rw [←aj] at CY;by_cases he:p.2.1=p.2.2
  ·rw [if_pos he];(have bP:=Re h k (a:=a) (W:=[(i:Int)]) (f:=q3 p.2.1) fun s ah=>by unfold H9;omega);have bQ:=UM.1;rw [←aj] at bQ;rw [←CA] at bP;simp only [sn,decide_eq_true_eq];omega
  ·rw [if_neg he];rw [Sf he] at CY;(have bP:=Re h k (a:=a) (W:=[(i:Int)]) (f:=Prod.fst) fun s ah=>by have:=ah.1;unfold H9;omega);rw [←CA] at bP;have bQ:=CY.1;simp only [sn,decide_eq_true_eq];omega
theorem U5 (h:q7 p) (k:qp p.1.length o) {a i:Nat} (hi:i<o.length) {s:qt} (ah:qT s) :
  HY p.2.1 p.2.2 (qG o.length i) s.2 s.1=(if p.2.1=p.2.2 then (w (w (-(qN p.1 o a [(i:Int)] Prod.fst))-w (qN p.1 o a [(i:Int)] Prod.snd*p.2.1)),0) else (w (-(qN p.1 o a [(i:Int)] Prod.fst)),w (-(qN p.1 o a [(i:Int)] Prod.snd))))↔I8 p o a i s:=by
 have hle:=h.le;have bD:=h.lo;have GO:=h.hi;have a7:=QF (a:=a) (W:=[(i:Int)]) h.s (Hw k) (qp.len h k);have a9:=R' (a:=a) (W:=[(i:Int)]) h.s (Hw k) (qp.len h k);have bt:=HZ (b:=p.2.1) (B:=50) a9 (by omega);rw [U4 (Mk hi (qp.len h k)) ah (by omega),Uf];rw [qD (n := -(qN p.1 o a [(i:Int)] Prod.fst)) (by omega),qD (n:=qN p.1 o a [(i:Int)] Prod.snd*p.2.1) (by omega),qD (n := -(qN p.1 o a [(i:Int)] Prod.snd)) (by omega),qD (by omega)];generalize qN p.1 o a [(i:Int)] Prod.fst=U;generalize qN p.1 o a [(i:Int)] Prod.snd=V;generalize qG o.length i=x;by_cases he:p.2.1=p.2.2
 ·rw [if_pos he,if_pos he,XN he,Prod.mk.injEq];have e:U+x*s.1+(V+x*s.2)*p.2.1=U+V*p.2.1+x*q3 p.2.1 s:=by unfold q3;grind
  rw [e];constructor
  ·rintro ⟨ab,_⟩;omega
  ·intro ab;exact ⟨by omega,rfl⟩
 ·rw [if_neg he,if_neg he,Sf he,Prod.mk.injEq];constructor
  ·rintro ⟨ab,ae⟩;omega
  ·rintro ⟨ab,ae⟩;exact ⟨by omega,by omega⟩
theorem Yz (h:q7 p) (k:qp p.1.length o) {a i:Nat} (hi:i<o.length) :
  (∃ s,Ip (p,()) o (a:Int) [(i:Int)]=some ([(ix o (i:Int),s)],true)∧qT s∧I8 p o a i s)∨(Ip (p,()) o (a:Int) [(i:Int)]=some ([],false)∧¬ JW p o a i):=by
 unfold Ip;rw [PJ (b:=(p,())) (W:=[(i:Int)]) h.s (Hw k) (qp.len h k) k.1.symm (by simp),sb];obtain ⟨A,aL,ab,ae⟩:=ahZ h k (a:=a) hi;simp only;rw [PI (b:=(p,())) (qp.len h k) k.1.symm hi,sb,aL,sb];cases al:Jr A (if p.2.1=p.2.2 then (w (w (-(qN p.1 o a [(i:Int)] Prod.fst))-w (qN p.1 o a [(i:Int)] Prod.snd*p.2.1)),0) else (w (-(qN p.1 o a [(i:Int)] Prod.fst)),w (-(qN p.1 o a [(i:Int)] Prod.snd)))) with
 | none =>
   refine .inr ⟨rfl,fun ak=>?_⟩;obtain ⟨s,ah,aP⟩:=Ov.1 ak;obtain ⟨e,he,ack⟩:=ae s ah aP;exact adu al e he (ack.trans ((U5 h k hi ah).2 aP))
 | some s =>
   obtain ⟨e,he,Da,rfl⟩:=adv al;obtain ⟨ah,pO⟩:=ab e he;refine .inl ⟨e.2.2,?_,ah,(U5 h k hi ah).1 (pO.symm.trans Da)⟩;simp only;rw [qC (by omega)]
end
end Go.Proofs.YtkoioidpbbbaiaaGreat.Ab


namespace Go.Proofs.YtkoioidpbbbaiaaGreat.Ab
open Go
set_option maxRecDepth 20000
set_option maxHeartbeats 4000000
def ahK (p:(qg×(Int×Int))) (order:p9):Option Int :=
 (YL p order (0:Int)).bind fun aS =>
 (YL p order (1:Int)).bind fun bj =>
 some (w (aS+bj))

def ahi (p:(qg×(Int×Int))) (order:p9):Option (Int×Int) :=
 (KR p order).bind fun aS =>
 if (decide (aS≠(0:Int)))=true then
  (KR p order).bind fun bj =>
  some ((0:Int),bj)
 else
  (ahK p order).bind fun eK =>
  some (eK,(0:Int))
end Go.Proofs.YtkoioidpbbbaiaaGreat.Ab


namespace Go.Proofs.YtkoioidpbbbaiaaGreat.Ab
open Go
set_option maxRecDepth 20000
set_option maxHeartbeats 1000000
section
variable {p:qb} {o:List Int}
theorem qp.Vo (h:q7 p) (k:qp p.1.length o):o.length≤7:=by have:=h.len;have:=k.1;omega
def I7 (p:qb) (o:List Int) (a:Nat):Nat:=if Iq p o a then 0 else if ∃ i,i<o.length∧i % 2=a∧JW p o a i then 1 else 2
theorem Ub (p:qb) (o:List Int) (a:Nat):I7 p o a≤2:=by unfold I7;split <;> (try split) <;> omega
end
end Go.Proofs.YtkoioidpbbbaiaaGreat.Ab


namespace Go.Proofs.YtkoioidpbbbaiaaGreat.Ab
open Go
set_option maxRecDepth 20000
set_option maxHeartbeats 4000000
noncomputable def PQ:gE :=
 .loop (some (p' false [1,3,4,1,58])) (.seq (p2 [p3 17 8,p3 18 2,qW 19 18,qn 20 17 19 .lss] (.cond (.nc 20) .skip (.exit 0))) (.seq (.block 1 (p2 [p3 23 2,p3 24 8,re 25 23 24 3,p0 26 [.Bs 25] (.zE (.str 3)),p0 9 [] (.alloc [.int .i64 0,.int .i64 0,.int .i64 0]),⟨none,[.nc 9,.jq 26],none,none,.st 3⟩] (.seq (ra [p0 27 [.nc 9] (.yM 0),qh 28 27,qy 29 28 0 .lss,p1 30 29,cl 31 [.nc 9] 30 false (.yM 0),cl 32 [.Bs 31] 30 false (.zE .one),cl 33 [.nc 3] 30 false (.yM 0),cl 34 [.Bs 33] 30 false (.zE .one),cl 35 [.jq 34] 30 false .zJ,cl 36 [.Bs 32,.Bs 35] 30 false (.bin .geq),p0 37 [.nc 30,.cv (.bool true),.Bs 36] .pick,p1 38 37,cl 39 [.nc 8] 38 false .mU,cl 40 [.Bs 39,.cv (.int .i64 0)] 38 false (.bin .gtr),cl 41 [.jq 40] 38 false .mU,cl 42 [.nc 9] 41 true (.yM 0),cl 43 [.Bs 42] 41 true (.zE .one),cl 44 [.nc 2] 41 true .mU,cl 45 [.nc 8] 41 true .mU,cl 46 [.Bs 45,.cv (.int .i64 1)] 41 true (.bin .sub),cl 47 [.Bs 44,.Bs 46] 41 true (.kY 3),cl 48 [.Bs 47] 41 true (.yM 0),cl 49 [.Bs 48] 41 true (.zE .one),cl 50 [.Bs 43,.Bs 49] 41 true (.bin .leq),cl 51 [.nc 41,.Bs 50,.cv (.bool false)] 38 false .pick,p0 52 [.nc 38,.cv (.bool true),.Bs 51] .pick,p1 53 52,cl 54 [.nc 9] 53 false (.yM 1),cl 55 [.Bs 54] 53 false (.zE (.str 2)),⟨some 56,[.cv (.func 53 [] []),.nc 55],some (53,false),none,.call 3⟩,cl 57 [.Bs 56] 53 false (.un .not),p0 58 [.nc 53,.cv (.bool true),.Bs 57] .pick]) (.cond (.nc 58) (p2 [qf 6 0,qf 7 3] .ret) .skip)))) (qO [p1 21 8,qV 22 21 1,p1 8 22])))
noncomputable def YY:gE :=
 p2 [p0 3 [.jq 0] .box,qf 6 0,qf 7 0] (.seq (p2 [p0 10 [.nc 3] (.zE (.str 3)),p3 11 1,p0 12 [.cv (.func 52 [] []),.nc 10,.nc 11] (.call 3),qy 13 12 0 .neq] (.cond (.nc 13) (p2 [p0 14 [.Bs 3] (.zE (.str 3)),p1 15 1,p0 16 [.cv (.func 52 [] []),.nc 14,.nc 15] (.call 3),qf 6 0,p1 7 16] .ret) .skip)) (.seq (p2 [qf 8 0] (.block 0 PQ)) (.seq (p2 [p0 59 [.Bs 3] (.zE (.str 3)),p3 60 2,p0 61 [.cv (.func 54 [] []),.nc 59,.nc 60] (.call 3),p1 62 1,p0 63 [.cv (.func 39 [] []),.nc 61,.nc 62] (.call 3),qy 64 63 0 .gtr] (.cond (.nc 64) (p2 [qf 6 0,qf 7 23] .ret) .skip)) (p2 [p1 65 2,qW 66 65,p1 6 66,qf 7 0] .ret))))
theorem adG:qo Tryz.prog Qe 20=some (YY,67,[.tmp 6,.tmp 7]):=by kernel_rfl
def Ki (p:(qg×(Int×Int))) (changes:(List (Int×(Int×Int)))) (qa:Unit→Option (Int×Int)):Nat→Int→Option (Int×Int)
 | 0,_=>none
 | m+1,s1 =>
   if (decide (s1<(changes.length:Int)))=true then
    qk (0≤s1∧s1<(changes.length:Int)) <|
    if (decide ((ix changes s1).1<(0:Int)))=true then
     some ((0:Int),(3:Int))
    else
     if (decide ((p.1.length:Int)≤(ix changes s1).1))=true then
      some ((0:Int),(3:Int))
     else
      if (decide ((0:Int)<s1))=true then
       qk (0≤(w (s1-(1:Int)))∧(w (s1-(1:Int)))<(changes.length:Int)) <|
       if (decide ((ix changes s1).1≤(ix changes (w (s1-(1:Int)))).1))=true then
        some ((0:Int),(3:Int))
       else
        (LS ((ix changes s1).2)).bind fun eK =>
        if eK=true then
         Ki p changes qa m (w (s1+(1:Int)))
        else
         some ((0:Int),(3:Int))
      else
       (LS ((ix changes s1).2)).bind fun q5 =>
       if q5=true then
        Ki p changes qa m (w (s1+(1:Int)))
       else
        some ((0:Int),(3:Int))
   else
    qa ()
def KJ (p:(qg×(Int×Int))) (order:p9) (changes:(List (Int×(Int×Int)))):Option (Int×Int) :=
 (KR p order).bind fun aS =>
 if (decide (aS≠(0:Int)))=true then
  (KR p order).bind fun bj =>
  some ((0:Int),bj)
 else
  Ki p changes (fun _ =>
    (N9 p changes).bind fun q8 =>
    (KM q8 order).bind fun rm =>
    if (decide ((0:Int)<rm))=true then
     some ((0:Int),(23:Int))
    else
     some ((changes.length:Int),(0:Int))) qj (0:Int)
theorem ahf {p:(qg×(Int×Int))} {changes:(List (Int×(Int×Int)))} {qa:Unit→Option (Int×Int)} {s1:Int} {order:p9} {v:(Int×Int)} {Q:Hm}   (jJ:qI [.tmp 6,.tmp 7] Q (fun v=>(.tuple [(h0 v.1),(h0 v.2)])) v) (ri:∀ (Kp:List ar) (qd:List I),qa ()=some v→rv 67 [(1,(qR order .shared)),(2,(.av (changes.flatMap qq) changes.length .shared)),(3,(.ptr 0 0))] qd→Q (.exit 0) qd (ar.cells [(q2 p.1 .shared),(h0 p.2.1),(h0 p.2.2)]::Kp)) {T:List I} (b0:eZ (p' false [1,3,4,1,58]) T=qc 67 [(1,(qR order .shared)),(2,(.av (changes.flatMap qq) changes.length .shared)),(3,(.ptr 0 0)),(8,(h0 s1))]) (h:Ki p changes qa qj s1=some v) :
  dQ Tryz.prog Qe 20 0 none PQ T [ar.cells [(q2 p.1 .shared),(h0 p.2.1),(h0 p.2.2)]] Q:=by
 unfold PQ;refine wp_loop b0 ?_;refine .intro (fun m T H=>∃ (s1:Int) (S1:List ar),T=qc 67 [(1,(qR order .shared)),(2,(.av (changes.flatMap qq) changes.length .shared)),(3,(.ptr 0 0)),(8,(h0 s1))]∧H=(ar.cells [(q2 p.1 .shared),(h0 p.2.1),(h0 p.2.2)]::S1)∧Ki p changes qa m s1=some v) qj ⟨s1,[],rfl,rfl,h⟩ ?_;clear h b0;rintro m T H ⟨s1,S1,rfl,rfl,h⟩;cases m
 ·exact r0 h
 rename_i m;rw [Ki.eq_2] at h;conv=>whnf
 refine bs h (fun qK h=>?_) fun qK h=>?_
 ·rw [qK];conv=>whnf
  refine qP h id fun qY h=>?_;rw [HW qq 3 H4 changes s1 qY];conv=>whnf
  refine Ew (x:=ar.cells [(h0 (0:Int)),(h0 (0:Int)),(h0 (0:Int))]) (by first | exact qX.h | rfl | (simp [sq,I.settle];done)) ?_
  conv=>whnf
  rw [HT];refine Ew (x:=ar.cells [(h0 (ix changes s1).1),(h0 (ix changes s1).2.1),(h0 (ix changes s1).2.2)]) (by first | exact qX.h | rfl | (simp [sq,I.settle];done)) ?_
  conv=>whnf
  refine bs h (fun rn h=>?_) fun rn h=>?_
  ·rw [rn];(conv=>whnf);exact p_ h jJ rfl rfl
  ·rw [rn];(conv=>whnf);refine Ew (x:=ar.cells [(h0 (ix changes s1).1),(h0 (ix changes s1).2.1),(h0 (ix changes s1).2.2)]) (by first | exact qX.h | rfl | (simp [sq,I.settle];done)) ?_
   (conv=>whnf);refine bs h (fun qS h=>?_) fun qS h=>?_
   ·rw [qS];(conv=>whnf);exact p_ h jJ rfl rfl
   ·rw [qS];(conv=>whnf);refine bs h (fun ry h=>?_) fun ry h=>?_
    ·rw [ry];(conv=>whnf);refine Ew (x:=ar.cells [(h0 (ix changes s1).1),(h0 (ix changes s1).2.1),(h0 (ix changes s1).2.2)]) (by first | exact qX.h | rfl | (simp [sq,I.settle];done)) ?_
     (conv=>whnf);refine qP h id fun q_ h=>?_;rw [HW qq 3 H4 changes (w (s1-(1:Int))) q_];(conv=>whnf);refine bs h (fun r2 h=>?_) fun r2 h=>?_
     ·rw [r2];(conv=>whnf);exact p_ h jJ rfl rfl
     ·rw [r2];(conv=>whnf);refine Ew (x:=ar.cells [(h0 (ix changes s1).1),(h0 (ix changes s1).2.1),(h0 (ix changes s1).2.2)]) (by first | exact qX.h | rfl | (simp [sq,I.settle];done)) ?_
      (conv=>whnf);obtain ⟨eK,I_,h⟩:=p8 h;refine ⟨qi.pl,_,SA I_,Hg,?_⟩;(conv=>whnf);cases eK
      ·(conv=>whnf);replace h:=rW rfl h;exact p_ h jJ rfl rfl
      ·(conv=>whnf);replace h:=rV rfl h;exact ⟨m,sD m,(w (s1+(1:Int))),_,rfl,rfl,h⟩
    ·rw [ry];(conv=>whnf);refine Ew (x:=ar.cells [(h0 (ix changes s1).1),(h0 (ix changes s1).2.1),(h0 (ix changes s1).2.2)]) (by first | exact qX.h | rfl | (simp [sq,I.settle];done)) ?_
     (conv=>whnf);obtain ⟨q5,IQ,h⟩:=p8 h;refine ⟨qi.pl,_,SA IQ,Hg,?_⟩;(conv=>whnf);cases q5
     ·(conv=>whnf);replace h:=rW rfl h;exact p_ h jJ rfl rfl
     ·(conv=>whnf);replace h:=rV rfl h;exact ⟨m,sD m,(w (s1+(1:Int))),_,rfl,rfl,h⟩
 ·rw [qK];conv=>whnf
  exact ri _ _ h ⟨rfl,rfl⟩
theorem ahg {p:(qg×(Int×Int))} {order:p9} {changes:(List (Int×(Int×Int)))} {v:(Int×Int)} (h:KJ p order changes=some v):qw 20 [(.agg [(.av (p.1.flatMap p7) p.1.length .shared),(h0 p.2.1),(h0 p.2.2)]),(.av (order.map h0) order.length .shared),(.av (changes.flatMap qq) changes.length .shared)] (.tuple [(h0 v.1),(h0 v.2)]):=by
 refine qL eG adG rfl (Je (p6 rfl (p6 rfl rfl))) fun Q bp=>?_;have jJ:qI [.tmp 6,.tmp 7] Q (fun v=>(.tuple [(h0 v.1),(h0 v.2)])) v:=fun T H bE=>bp _ T H bE;unfold KJ at h;unfold YY;obtain ⟨HD,qE⟩:∃ c,PQ=c:=⟨_,rfl⟩;rw [qE];conv=>whnf
 obtain ⟨aS,gM,h⟩:=p8 h;refine ⟨qi.pl,_,Yu gM,?_⟩;conv=>whnf
 refine bs h (fun gN h=>?_) fun gN h=>?_
 ·rw [gN];conv=>whnf
  obtain ⟨bj,qs,h⟩:=p8 h;refine ⟨qi.pl,_,Yu qs,?_⟩;conv=>whnf
  exact p_ h jJ rfl rfl
 ·rw [gN];conv=>whnf
  subst qE;refine ahf ?_ ?_ (by exact rfl) h
  ·exact fun T H bE=>jJ T H bE
  ·intro Kp qd h qz;obtain ⟨rB,rfl⟩:=qz.ex;(conv=>whnf);obtain ⟨q8,I',h⟩:=p8 h;refine ⟨qi.pl,_,ahJ I',?_⟩;(conv=>whnf);obtain ⟨rm,J0,h⟩:=p8 h;refine ⟨qi.pl,_,Yl J0,?_⟩;(conv=>whnf);refine bs h (fun IU h=>?_) fun IU h=>?_
   ·rw [IU];(conv=>whnf);exact p_ h jJ rfl rfl
   ·rw [IU];(conv=>whnf);exact p_ h jJ rfl rfl
end Go.Proofs.YtkoioidpbbbaiaaGreat.Ab


namespace Go.Proofs.YtkoioidpbbbaiaaGreat.Ab
open Go
set_option maxRecDepth 20000
set_option maxHeartbeats 1000000
def rY:List qu→List qt→List qt
 | [],S=>S
 | c::r,S=>rY r (S.set c.1.toNat c.2)
theorem NS:∀ (l:List qu) (S:List qt),(rY l S).length=S.length
 | [],_=>rfl
 | c::r,S=>by rw [rY,NS r];simp
def Hv (n:Int):List qu→Int→Prop
 | [],_=>True
 | c::r,m=>m≤c.1∧c.1<n∧qT c.2∧Hv n r (c.1+1)
instance aex (n:Int):∀ (l:List qu) (m:Int),Decidable (Hv n l m)
 | [],_=>isTrue trivial
 | c::r,m=>by unfold Hv;exact @instDecidableAnd _ _ _ (@instDecidableAnd _ _ _ (@instDecidableAnd _ _ _ (aex n r (c.1+1))))
theorem R7 {n:Int}:∀ {l:List qu} {S:List qt} {m:Int},Hv n l m→(∀ s∈S,qT s)→∀ s∈rY l S,qT s
 | [],_,_,_,h=>h
 | c::r,S,m,ao,h=>by
   refine R7 (l:=r) ao.2.2.2 fun s ah=>?_;rcases List.mem_or_eq_of_mem_set ah with ab | ab
   ·exact h s ab
   ·rw [ab];exact ao.2.2.1
theorem T9 {n:Nat} (aI:n≤1000):∀ (l:List qu) (S:List qt) (m:Int),S.length=n→0≤m→m≤1000→L' n l S m=some (if Hv n l m then some (rY l S) else none)
 | [],S,m,_,_,_=>rfl
 | c::r,S,m,cp,hm,nP=>by
   unfold L';rw [qD (n:=(n:Int)-1) (by omega),MX,sb];by_cases ab:m≤c.1∧c.1<(n:Int)
   ·rw [if_pos (by simp;omega),Ys,sb];by_cases ae:qT c.2
    ·rw [if_neg (by simpa using ae),qC (by omega),qD (by omega),T9 aI r _ _ (by simp [cp]) (by omega) (by omega)];by_cases aF:Hv n r (c.1+1)
     ·rw [if_pos aF,if_pos ⟨ab.1,ab.2,ae,aF⟩];rfl
     ·rw [if_neg aF,if_neg fun k=>aF k.2.2.2]
    ·rw [if_pos (by simpa using ae),if_neg fun k=>ae k.2.2.1]
   ·rw [if_neg (by simp;omega),if_neg fun k=>ab ⟨k.1,k.2.1⟩]
theorem T8 {n:Nat}:∀ (l:List qu) (S:List qt) (m:Int),S.length=n→0≤m→Hv n l m→K3 l S=some (rY l S)
 | [],_,_,_,_,_=>rfl
 | c::r,S,m,cp,hm,ao=>by
   unfold K3;have ab:=ao.1;have ae:=ao.2.1;rw [qC (by omega)];exact T8 r _ (c.1+1) (by simp [cp]) (by omega) ao.2.2.2
section
variable {p:qb} {o:List Int} {l:List qu}
theorem Sm (aB:p.1.length≤1000) (ao:o.length≤12) (ak:l.length≤1000):JE p o l=some (if rU p o=0 then (if Hv p.1.length l 0 then (if 0<qx (rY l p.1,p.2) o then (0,23) else ((l.length:Int),0)) else (0,3)) else (0,rU p o)):=by
 unfold JE;rw [PC aB ao,sb];by_cases h:rU p o=0
 ·rw [if_pos h,if_pos h];obtain ⟨ad,al⟩:=Lv.1 h;have J9:=ad.len;simp only;rw [if_neg (by decide),qC ⟨fun e=>by rw [e] at J9;simp at J9,aB,ak⟩,T9 aB l p.1 0 rfl (by omega) (by omega),sb];by_cases ab:Hv p.1.length l 0
  ·rw [if_pos ab,if_pos ab];simp only;have dg:q7 (rY l p.1,p.2):=⟨by rw [NS];exact ad.n,R7 ab ad.s,ad.lo,ad.le,ad.hi⟩;rw [N4 dg (by rw [NS];exact al),sb];by_cases ae:0<qx (rY l p.1,p.2) o
   ·rw [if_pos (decide_eq_true ae),if_pos ae]
   ·rw [if_neg (by simpa using ae),if_neg ae]
  ·rw [if_neg ab,if_neg ab]
 ·rw [if_neg h,if_neg h];simp only;rw [if_pos (decide_eq_true h)]
theorem U9 (aB:p.1.length≤1000) (ak:l.length≤1000) {K:Option (Int×Int)}:∀ (m i:Nat),i≤l.length→l.length-i<m→∀ (t:Int),(i=0→t=0)→(0<i→t=(ix l ((i-1:Nat):Int)).1+1∧0<t∧t≤1000) →
  Ki p l (fun _=>K) m (i:Int)=if Hv p.1.length (l.drop i) t then K else some (0,3)
 | 0,_,_,h,_,_,_=>absurd h (by omega)
 | m+1,i,hi,hm,t,aQ,ab=>by
   rw [Ki];by_cases aR:i<l.length
   ·rw [if_pos (decide_eq_true (by omega)),qC (by omega),s6 aR,←rr aR,Io i (by omega)];have a8:=U9 aB ak (K:=K) m (i+1) (by omega) (by omega) ((ix l (i:Int)).1+1) (fun e=>by omega);by_cases cu:(ix l (i:Int)).1<0
    ·rw [if_pos (decide_eq_true cu),if_neg];intro k;have:=k.1;by_cases e:i=0
     ·have:=aQ e;omega
     ·have:=ab (by omega);omega
    ·rw [if_neg (by simpa using by omega)];by_cases af:(p.1.length:Int)≤(ix l (i:Int)).1
     ·rw [if_pos (decide_eq_true af),if_neg fun k=>by have:=k.2.1;omega]
     ·rw [if_neg (by simpa using by omega),Yv];have fin:t≤(ix l (i:Int)).1→((some (decide (qT (ix l (i:Int)).2))).bind fun r=>if r=true then Ki p l (fun _=>K) m ((i+1:Nat):Int) else some (0,3))=if Hv p.1.length (ix l (i:Int)::l.drop (i+1)) t then K else some (0,3):=fun ax=>by
       rw [sb];by_cases ah:qT (ix l (i:Int)).2
       ·rw [if_pos (decide_eq_true ah),a8 fun _=>⟨by simp,by omega,by omega⟩];by_cases ai:Hv p.1.length (l.drop (i+1)) ((ix l (i:Int)).1+1)
        ·rw [if_pos ai,if_pos ⟨ax,by omega,ah,ai⟩]
        ·rw [if_neg ai,if_neg fun k=>ai k.2.2.2]
       ·rw [if_neg (by simpa using ah),if_neg fun k=>ah k.2.2.1]
      by_cases e:0<i
      ·obtain ⟨t1,t2,t3⟩:=ab e;rw [if_pos (decide_eq_true (by omega)),qD (by omega),show (i:Int)-1=((i-1:Nat):Int) by omega,qC (by omega)];by_cases a1:(ix l (i:Int)).1≤(ix l ((i-1:Nat):Int)).1
       ·rw [if_pos (decide_eq_true a1),if_neg fun k=>by have:=k.1;omega]
       ·rw [if_neg (by rw [decide_eq_true_eq];exact a1)];exact fin (by omega)
      ·rw [if_neg (by simpa using by omega)];exact fin (by have:=aQ (by omega);omega)
   ·rw [if_neg (by simpa using by omega),u_ (by omega),if_pos (show Hv _ [] t from trivial)]
theorem ahe (aB:p.1.length≤1000) (ao:o.length≤12) (ak:l.length≤1000):KJ p o l=some (if rU p o=0 then (if Hv p.1.length l 0 then (if 0<qx (rY l p.1,p.2) o then (0,23) else ((l.length:Int),0)) else (0,3)) else (0,rU p o)):=by
 unfold KJ;rw [ahH aB (by omega),sb,sb];by_cases h:rU p o=0
 ·rw [if_neg (show ¬ decide (rU p o≠0)=true by simpa using h),if_pos h];obtain ⟨ad,al⟩:=Lv.1 h;have J9:=ad.len;have:=U9 aB ak (K:=(N9 p l).bind fun q8=>(KM q8 o).bind fun rm=>if (decide ((0:Int)<rm))=true then some ((0:Int),(23:Int)) else some ((l.length:Int),(0:Int))) qj 0 (by omega) (Is (by omega)) 0 (fun _=>rfl) (fun h=>absurd h (by omega));rw [tq] at this;refine this.trans ?_;by_cases ab:Hv p.1.length l 0
  ·rw [if_pos ab,if_pos ab];unfold N9;rw [qC ⟨fun e=>by rw [e] at J9;simp at J9,aB,ak⟩,T8 l p.1 0 rfl (by omega) ab,sb,sb];have dg:q7 (rY l p.1,p.2):=⟨by rw [NS];exact ad.n,R7 ab ad.s,ad.lo,ad.le,ad.hi⟩;rw [Yk dg (by rw [NS];exact al),sb];by_cases ae:0<qx (rY l p.1,p.2) o
   ·rw [if_pos (decide_eq_true ae),if_pos ae]
   ·rw [if_neg (by simpa using ae),if_neg ae]
  ·rw [if_neg ab,if_neg ab]
 ·rw [if_pos (decide_eq_true h),if_neg h]
end
end Go.Proofs.YtkoioidpbbbaiaaGreat.Ab


namespace Go.Proofs.YtkoioidpbbbaiaaGreat.Ab
open Go
noncomputable def afq:gE :=
 .ov false [p1 48 9,p1 49 10,p0 50 [.Bs 49] (.yB 1 1 [.int .i64 0] [0]),p0 51 [.jq 48,.jq 50] (.app 1 8),p1 9 51]
noncomputable def RF:gE :=
 p2 [p3 44 0,p3 45 10,p0 46 [.cv (.func 77 [] []),.jq 44,.jq 45] (.call 9),qy 47 46 0 .gtr] (.cond (.nc 47) afq .skip)
noncomputable def RG:gE :=
 .seq (p2 [p3 34 0,p3 35 1,p3 36 2,p3 37 10,p0 38 [.Bs 37] (.yB 1 1 [.int .i64 0] [0]),p0 39 [.cv (.func 60 [] []),.jq 34,.jq 35,.jq 36,.jq 38] (.call 1),p1 33 39,qB 40 33 0,p0 41 [.Bs 33] (.ext 1),p1 11 40,p1 12 41] (p2 [p1 42 12] (.cond (.nc 42) (p2 [p1 43 11,p1 6 43] .ret) .skip))) RF
noncomputable def WU:gE :=
 .seq (p2 [p3 29 10,qy 30 29 2 .rem,p3 31 2,qn 32 30 31 .neq] (.cond (.nc 32) (.exit 1) .skip)) RG
noncomputable def WV:gE :=
 .block 1 (p2 [p3 28 26,p1 10 28] WU)
noncomputable def RH:gE :=
 .ov true [p1 59 13,p3 60 1,p3 61 15,re 62 60 61 1,qh 63 62,p3 64 0,p0 65 [.Bs 64] .z4,qv 66 65 0,qv 67 66 0,qh 68 67,p3 69 1,p3 70 1,qW 71 70,qy 72 71 1 .sub,p3 73 15,qn 74 72 73 .sub,re 75 69 74 1,qh 76 75,re 77 68 76 2,p0 78 [.Bs 77] (.zE (.str 2)),p0 79 [.Bs 63,.Bs 78] (.build [.int .i64 0,.int .i64 0,.int .i64 0] [(0,1),(1,2)]),p0 80 [.Bs 79] (.yB 1 3 [.int .i64 0,.int .i64 0,.int .i64 0] [0]),p0 81 [.jq 59,.jq 80] (.app 3 24),p1 13 81]
noncomputable def WW:gE :=
 .block 3 (p2 [p0 57 [.nc 53,.nc 55] (.kY 1),qh 58 57,p1 15 58] RH)
noncomputable def O2:gE :=
 .loop (some (p' false [0,2,11,1,39,3,28])) (p2 [p0 56 [.nc 55,.nc 54] (.bin .lss)] (.seq (.cond (.nc 56) .skip (.exit 2)) (.seq WW (qO [qV 82 55 1,p1 55 82]))))
noncomputable def RI:gE :=
 .seq (p2 [p1 53 9,p0 54 [.nc 53] .zJ,qf 55 0] (.block 2 O2)) (p2 [p1 83 13,p1 6 83] .ret)
noncomputable def O3:gE :=
 .loop (some (p' false [0,3,6,1,15,2,57])) (p2 [p0 27 [.nc 26,.nc 25] (.bin .lss)] (.seq (.cond (.nc 27) .skip (.exit 0)) (.seq WV (qO [qV 52 26 1,p1 26 52]))))
noncomputable def RJ:gE :=
 .seq (p2 [p3 24 1,qW 25 24,qf 26 0] (.block 0 O3)) (p2 [p0 13 [.cv (.av [] 0 .full)] (.nil 3)] RI)
noncomputable def WT:gE :=
 .seq (p2 [p3 17 0,p3 18 1,p3 19 2,p0 20 [.cv (.func 60 [] []),.jq 17,.jq 18,.jq 19,.cv (.av [] 0 .full)] (.call 1),p1 16 20,qB 21 16 0,p0 22 [.Bs 16] (.ext 1),p1 7 21,p1 8 22] (p2 [p1 23 8] (.cond (.nc 23) (p2 [p0 6 [.cv (.av [] 0 .full)] (.nil 3)] .ret) .skip))) (p2 [p0 9 [.cv (.av [] 0 .full)] (.nil 1)] RJ)
noncomputable def O1:gE :=
 p2 [p0 6 [.cv (.av [] 0 .full)] (.nil 3)] WT
theorem Q':qo Go.Proofs.Tryz.prog KY 57=some (O1,84,[.tmp 6]):=by kernel_rfl
end Go.Proofs.YtkoioidpbbbaiaaGreat.Ab


namespace Go.Proofs.YtkoioidpbbbaiaaGreat.Ab
open Go
set_option maxRecDepth 20000
set_option maxHeartbeats 4000000
def Jk (b:r3) (order:List Int) (qm:Int):List Int→Nat→List Int→Option (Nat×(List qu ⊕ List Int))
 | [],k,ad=>some (k,.inr ad)
 | i::r,k,ad =>
   if i.tmod 2≠qm then Jk b order qm r (k+1) ad
   else (Ip b order qm [i]).bind fun q=>if q.2=true then some (k+1,.inl q.1) else
    (Kk b i).bind fun p=>Jk b order qm r (k+1) (if 0<p then ad++[i] else ad)
def Jc (b:r3) (order:List Int):List Int→List qu→Option (List qu)
 | [],out=>some out
 | i::r,out=>qk (0≤i∧i<(order.length:Int)) <| qk (0≤w (w (order.length-1)-i)∧w (w (order.length-1)-i)<(order.length:Int)) <|
   qk (0≤ix order (w (w (order.length-1)-i))∧ix order (w (w (order.length-1)-i))<(b.1.1.length:Int)) <|
   Jc b order r (out++[(ix order i,ix b.1.1 (ix order (w (w (order.length-1)-i))))])
theorem aeB {b:r3} {m lo:Nat} {order ad:List Int} {v:List qu} (h:Jc b order ad []=some v) (ao:ad.length≤1000) {T:List I} {H:List ar} {Q:cQ→List I→List ar→Prop}
  (b0:eZ [true,true,false,false,false,false,false,false,false,false,false,false,false,true,false,false,false,false,false,false,false,false,false,false,false,false,false,false,false,false,false,false,false,false,false,false,false,false,false,false,false,false,false,false,false,false,false,false,false,false,false,false,false,true,true,true,false,false,false,false,false,false,false,false,false,false,false,false,false,false,false,false,false,false,false,false,false,false,false,false,false,false,false,false] T=qc 84 [(0,rS b m),(1,.av (order.map h0) order.length .shared),(13,.av [] 0 (.uniq 3)),(53,.av (ad.map h0) ad.length (.own 1)),(54,h0 ad.length),(55,h0 0)])
  (bp:∀ XX XY XZ X0,Q (.exit 2) (qc 84 [(0,rS b m),(1,.av (order.map h0) order.length .shared),(13,.av (v.flatMap qq) v.length (.uniq 3)),(53,XX),(54,XY),(55,XZ),(56,X0)]) H) :
  dQ Tryz.prog KY 57 lo none O2 T H Q:=by
 unfold O2;refine wp_loop b0 ?_;refine .intro (fun hr T H'=>∃ (i:Nat) (out:List qu),i≤ad.length∧hr=ad.length-i∧out.length=i∧Jc b order (ad.drop i) out=some v∧T=qc 84 [(0,rS b m),(1,.av (order.map h0) order.length .shared),(13,.av (out.flatMap qq) out.length (.uniq 3)),(53,.av (ad.map h0) ad.length (.own 1)),(54,h0 ad.length),(55,h0 i)]∧H'=H) ad.length ⟨0,[],sE _,rfl,rfl,h,rfl,rfl⟩ ?_;clear b0 h;rintro hr T H' ⟨i,out,hi,rfl,aq,al,rfl,rfl⟩;conv=>whnf
 refine HE (fun aR=>?_) (fun aR=>?_)
 ·have HG:i<ad.length:=by omega
  have It:0≤(i:Int)∧(i:Int)<(ad.length:Int):=by omega
  rw [s6 HG] at al;unfold Jc at al;obtain ⟨cf,al⟩:=rR al;obtain ⟨ca,al⟩:=rR al;obtain ⟨eS,al⟩:=rR al;unfold WW;obtain ⟨f',Hp⟩:∃ c,RH=c:=⟨_,rfl⟩;rw [Hp];conv=>whnf
  refine ⟨It,?_⟩;rw [ru h0 ad (i:Int) It,rr HG];conv=>whnf
  subst Hp;unfold RH;conv=>whnf
  refine ⟨cf,?_⟩;rw [ru h0 order _ cf];conv=>whnf
  refine ⟨ca,?_⟩;rw [ru h0 order _ ca];conv=>whnf
  refine ⟨eS,?_⟩;rw [HW p7 2 Jd b.1.1 _ eS];conv=>whnf
  refine ⟨rfl,by decide,?_⟩;conv=>whnf
  refine ⟨by decide,by omega,?_⟩;conv=>whnf
  have rC:IntKind.i64.wrap ((i:Int)+1)=((i+1:Nat):Int):=by rw [HO _ (by omega) (by omega)];omega
  refine ⟨ad.length-(i+1),by omega,i+1,_,by omega,rfl,by simp [aq],al,?_,rfl⟩;rw [rC,ug,sy];rfl
 ·have:i=ad.length:=by omega
  subst this;rw [List.drop_length] at al;obtain rfl:=Option.some.inj al;conv=>whnf
  exact bp _ _ _ _
theorem agC {n i:Nat} (h:i<n):(ql n).drop i=(i:Int)::(ql n).drop (i+1):=by
 have ao:i<(ql n).length:=by rw [LF];exact h
 rw [s6 ao];simp [ql]
theorem acL {b:r3} {m lo k:Nat} {order:List Int} {qm:Int} {res:List qu ⊕ List Int} (h:Jk b order qm (ql order.length) 0 []=some (k,res)) (ao:order.length≤1000) {Hs:Nat→List ar}
  (cp:∀ (i:Nat) q,(i:Int).tmod 2=qm→Ip b order qm [(i:Int)]=some q→Sem Tryz.prog (.fn 60) [rS b m,.av (order.map h0) order.length .shared,h0 qm,.av [h0 (i:Int)] 1 (.uniq 1)] (Hs i) lo (.tuple [.av (q.1.flatMap qq) q.1.length .shared,B q.2]) (Hs (i+1)))
  (bJ:∀ i:Nat,(i:Int).tmod 2≠qm→Hs (i+1)=Hs i) {T:List I} {Q:cQ→List I→List ar→Prop}
  (b0:eZ [true,true,true,false,false,false,false,false,false,true,false,false,false,false,false,false,false,false,false,false,false,false,false,false,false,true,true,false,false,false,false,false,false,false,false,false,false,false,false,false,false,false,false,false,false,false,false,false,false,false,false,false,false,false,false,false,false,false,false,false,false,false,false,false,false,false,false,false,false,false,false,false,false,false,false,false,false,false,false,false,false,false,false,false] T=qc 84 [(0,rS b m),(1,.av (order.map h0) order.length .shared),(2,h0 qm),(9,.av [] 0 (.uniq 1)),(25,h0 order.length),(26,h0 0)])
  (abS:∀ q T,res=.inl q→rQ (Hs k) T [.tmp 6]=some [.av (q.flatMap qq) q.length .shared]→Q .ret T (Hs k))
  (abT:∀ ad XT XU XV,res=.inr ad→ad.length≤order.length→Q (.exit 0) (qc 84 [(0,rS b m),(1,.av (order.map h0) order.length .shared),(2,h0 qm),(9,.av (ad.map h0) ad.length (.uniq 1)),(25,XT),(26,XU),(27,XV)]) (Hs k)) :
  dQ Tryz.prog KY 57 lo none O3 T (Hs 0) Q:=by
 unfold O3;refine wp_loop b0 ?_;refine .intro (fun hr T H'=>∃ (i:Nat) (ad:List Int),i≤order.length∧hr=order.length-i∧ad.length≤i∧Jk b order qm ((ql order.length).drop i) i ad=some (k,res)∧T=qc 84 [(0,rS b m),(1,.av (order.map h0) order.length .shared),(2,h0 qm),(9,.av (ad.map h0) ad.length (.uniq 1)),(25,h0 order.length),(26,h0 i)]∧H'=Hs i) order.length ⟨0,[],sE _,rfl,sc _,h,rfl,rfl⟩ ?_;clear b0 h;rintro hr T H' ⟨i,ad,hi,rfl,ach,al,rfl,rfl⟩;conv=>whnf
 have rC:i<order.length→IntKind.i64.wrap ((i:Int)+1)=((i+1:Nat):Int):=fun _=>by rw [HO _ (by omega) (by omega)];omega
 refine HE (fun aR=>?_) (fun aR=>?_)
 ·have HG:i<order.length:=by omega
  rw [agC HG] at al;unfold Jk at al;unfold WV WU;obtain ⟨bt,eS⟩:∃ c,RG=c:=⟨_,rfl⟩;rw [eS];conv=>whnf
  refine ⟨by decide,?_⟩;conv=>whnf
  by_cases Kv:(i:Int).tmod 2=qm
  ·rw [decide_eq_false (show ¬ ((i:Int).tmod 2≠qm) from fun h=>h Kv)];rw [if_neg (fun h=>h Kv)] at al;obtain ⟨q,a_,al⟩:=p8 al;(conv=>whnf);subst eS;unfold RG;obtain ⟨a9,ca⟩:∃ c,RF=c:=⟨_,rfl⟩;rw [ca];(conv=>whnf);refine ⟨_,_,rq (cp i q Kv a_),?_⟩;(conv=>whnf);obtain ⟨q1,aW⟩:=q;cases aW with
   | true =>
     rw [if_pos rfl] at al;obtain ⟨ab,ae⟩:=Prod.mk.inj (Option.some.inj al);subst ab;(conv=>whnf);exact abS _ _ ae.symm rfl
   | false =>
     rw [if_neg (by simp)] at al;obtain ⟨pl,hk,al⟩:=p8 al;(conv=>whnf);subst ca;unfold RF;(conv=>whnf);refine ⟨_,_,call9 (bs:=[lp b,h0 i]) rfl (p6 (Ia b) (p6 rfl rfl)) (KU hk),?_⟩;(conv=>whnf);refine HE (fun aB=>?_) (fun aB=>?_)
     ·rw [if_pos aB] at al;(conv=>whnf);refine ⟨rfl,by decide,?_⟩;(conv=>whnf);refine ⟨by decide,by omega,?_⟩;(conv=>whnf);refine ⟨order.length-(i+1),by omega,i+1,_,by omega,rfl,by simp;omega,al,?_,rfl⟩;rw [rC HG,sO,sy];rfl
     ·rw [if_neg aB] at al;(conv=>whnf);exact ⟨order.length-(i+1),by omega,i+1,ad,by omega,rfl,by omega,al,by rw [rC HG];rfl,rfl⟩
  ·rw [decide_eq_true (show (i:Int).tmod 2≠qm from Kv)];rw [if_pos Kv] at al;(conv=>whnf);refine ⟨order.length-(i+1),by omega,i+1,ad,by omega,rfl,by omega,al,by rw [rC HG];rfl,?_⟩;rw [bJ i Kv]
 ·have:i=order.length:=by omega
  subst this;rw [u_ (by rw [LF];omega)] at al;obtain ⟨ab,ae⟩:=Prod.mk.inj (Option.some.inj al);subst ab;conv=>whnf
  exact abT _ _ _ _ ae.symm ach
def KS (b:r3) (order:List Int) (qm:Int):Option (List qu) :=
 qk (order.length≤1000) <|
 (Ip b order qm []).bind fun r=>if r.2=true then some [] else
 (Jk b order qm (ql order.length) 0 []).bind fun q=>match q.2 with
 | .inl l=>some l
 | .inr ad=>Jc b order ad []
theorem Ic.refl (m:Nat) (H:List ar):Ic m H H:=⟨sc _,fun _ _ _=>rfl⟩
theorem Ic.trans {m:Nat} {H H1 H2:List ar} (h:Ic m H H1) (k:Ic m H1 H2):Ic m H H2 :=
 ⟨Nat.le_trans h.1 k.1,fun j aw ao=>by rw [k.2 j aw (by have:=h.1;omega),h.2 j aw ao]⟩
theorem Yx {b:r3} {order:List Int} {qm:Int} {v:List qu} (h:KS b order qm=some v) {m lo:Nat} {H:List ar} (bD:lo≤m) (bG:HU b m H) :
  ∃ H' c,(c=.shared∨c=.uniq 3∨c=.own 3)∧HU b m H'∧Ic m H H'∧Sem Tryz.prog (.fn 57) [rS b m,.av (order.map h0) order.length .shared,h0 qm] H lo (.av (v.flatMap qq) v.length c) H':=by
 unfold KS at h;obtain ⟨aI,h⟩:=rR h;obtain ⟨r,ai,h⟩:=p8 h;have er:m<H.length:=by obtain ⟨_,_,ab,_⟩:=bG;exact (sa.1 ab).1
 obtain ⟨dC,o,abU⟩:=YB ai (m:=m) (lo:=lo) (H:=H) (by omega);obtain ⟨aS,bj⟩:=r;have dC:aS=[]:=dC;subst dC
 classical
 obtain ⟨Hs,gL,Mc⟩:=Ox (fun i rH H5=>HU b m rH→(HU b m H5∧Ic m rH H5∧a' lo rH H5)∧(∀ q,(i:Int).tmod 2=qm→Ip b order qm [(i:Int)]=some q→Sem Tryz.prog (.fn 60) [rS b m,.av (order.map h0) order.length .shared,h0 qm,.av [h0 (i:Int)] 1 (.uniq 1)] rH lo (.tuple [.av (q.1.flatMap qq) q.1.length .shared,B q.2]) H5)∧((i:Int).tmod 2≠qm→H5=rH)) (H++[o]) (fun i rH=>by
  by_cases aP:HU b m rH
  ·by_cases hm:(i:Int).tmod 2=qm
   ·cases a_:Ip b order qm [(i:Int)] with
    | none=>exact ⟨rH,fun _=>⟨⟨aP,Ic.refl _ _,a'.refl _ _⟩,(fun q _ h=>by cases h),fun h=>absurd hm h⟩⟩
    | some q =>
      obtain ⟨H',f1,f2,f3⟩:=YC a_ bD aP;exact ⟨H',fun _=>⟨⟨f1,f2,f3.1⟩,(fun fW _ h=>by obtain rfl:=Option.some.inj h;exact f3),fun h=>absurd hm h⟩⟩
   ·exact ⟨rH,fun _=>⟨⟨aP,Ic.refl _ _,a'.refl _ _⟩,fun q h _=>absurd h hm,fun _=>rfl⟩⟩
  ·exact ⟨rH,fun h=>absurd h aP⟩)
 have c1:∀ i,HU b m (Hs i)∧Ic m H (Hs i)∧a' lo H (Hs i):=fun i=>by
  induction i with
  | zero=>rw [gL];exact ⟨bG.more _,⟨by simp,fun j _ aw=>by rw [sg aw]⟩,a'.append _ _ _⟩
  | succ i a8 =>
    obtain ⟨⟨aA,aG,aT⟩,_,_⟩:=Mc i a8.1;exact ⟨aA,a8.2.1.trans aG,a8.2.2.trans aT⟩
 have start:∀ (Q:cQ→List I→List ar→Prop) (B9:gE),RJ=B9→(bj=true→∀ T,rQ (H++[o]) T [.tmp 6]=some [.av [] 0 (.uniq 3)]→Q .ret T (H++[o]))→(bj=false→∀ JC,dQ Tryz.prog KY 57 lo none B9 (qc 84 [(0,rS b m),(1,.av (order.map h0) order.length .shared),(2,h0 qm),(6,.av [] 0 (.uniq 3)),(7,JC),(9,.av [] 0 (.uniq 1)),(23,.bool false)]) (H++[o]) Q) →
   dQ Tryz.prog KY 57 lo none O1 (qc 84 [(0,rS b m),(1,.av (order.map h0) order.length .shared),(2,h0 qm)]) H Q:=by
  intro Q B9 ab8 ab ae;unfold O1 WT;rw [ab8];conv=>whnf
  refine ⟨_,_,rq abU,?_⟩;conv=>whnf
  cases bj with
  | true =>
    (conv=>whnf);exact ab rfl _ rfl
  | false =>
    (conv=>whnf);exact ae rfl _
 cases bj with
 | true =>
   rw [if_pos rfl] at h;obtain rfl:=Option.some.inj h;refine ⟨H++[o],.uniq 3,.inr (.inl rfl),bG.more _,⟨by simp,fun j _ aw=>by rw [sg aw]⟩,?_⟩;refine rA eG Q' rfl (a'.append _ _ _) fun Q bp=>?_;refine start Q _ rfl (fun _ T b0=>?_) (fun h=>by cases h);exact bp _ _ _ ⟨.inr rfl,lI.refl _,by rw [b0];rfl⟩
 | false =>
   rw [if_neg (by simp)] at h;obtain ⟨⟨k,res⟩,ak,h⟩:=p8 h;have pB:∀ (Q:cQ→List I→List ar→Prop),
     (∀ q T,res=.inl q→rQ (Hs k) T [.tmp 6]=some [.av (q.flatMap qq) q.length .shared]→Q .ret T (Hs k)) →
     (∀ ad,res=.inr ad→∃ bo,Jc b order ad []=some bo∧∀ T,rQ (Hs k) T [.tmp 6]=some [.av (bo.flatMap qq) bo.length (.uniq 3)]→Q .ret T (Hs k)) →
     dQ Tryz.prog KY 57 lo none O1 (qc 84 [(0,rS b m),(1,.av (order.map h0) order.length .shared),(2,h0 qm)]) H Q:=by
    intro Q ab ae;refine start Q _ rfl (fun h=>by cases h) fun _ JC=>?_;unfold RJ;obtain ⟨a9,ca⟩:∃ c,O3=c:=⟨_,rfl⟩;obtain ⟨nv,Jm⟩:∃ c,RI=c:=⟨_,rfl⟩;rw [ca,Jm];(conv=>whnf);subst ca;rw [←gL];refine acL (b:=b) (m:=m) (lo:=lo) ak aI (Hs:=Hs) (fun i q hm a_=>(Mc i (c1 i).1).2.1 q hm a_) (fun i hm=>(Mc i (c1 i).1).2.2 hm) (by exact rfl) (fun q T a_ b0=>?_) (fun ad XT XU XV a_ xe=>?_)
    ·(conv=>whnf);exact ab q T a_ b0
    ·obtain ⟨bo,aq,ai⟩:=ae ad a_;(conv=>whnf);subst Jm;unfold RI;obtain ⟨a7,cf⟩:∃ c,O2=c:=⟨_,rfl⟩;rw [cf];(conv=>whnf);subst cf;refine aeB (b:=b) (m:=m) (lo:=lo) aq (by omega) (by exact rfl) fun XX XY XZ X0=>?_;(conv=>whnf);exact ai _ rfl
   have Me:=c1 k;cases res with
   | inl l =>
     obtain rfl:=Option.some.inj h;refine ⟨Hs k,.shared,.inl rfl,Me.1,Me.2.1,?_⟩;refine rA eG Q' rfl Me.2.2 fun Q bp=>?_;refine pB Q (fun q T a_ b0=>?_) (fun ad a_=>by cases a_);injection a_ with a_;subst a_;exact bp _ _ _ ⟨.inr rfl,lI.refl _,by rw [b0];rfl⟩
   | inr ad =>
     refine ⟨Hs k,.uniq 3,.inr (.inl rfl),Me.1,Me.2.1,?_⟩;refine rA eG Q' rfl Me.2.2 fun Q bp=>?_;refine pB Q (fun q T a_ b0=>by cases a_) (fun bh a_=>⟨v,?_,fun T b0=>?_⟩)
     ·injection a_ with a_;subst a_;exact h
     ·exact bp _ _ _ ⟨.inr rfl,lI.refl _,by rw [b0];rfl⟩
end Go.Proofs.YtkoioidpbbbaiaaGreat.Ab


namespace Go.Proofs.YtkoioidpbbbaiaaGreat.Ab
open Go
noncomputable def afj:gE :=
 p2 [p3 19 3, qy 20 19 0 .lss] (.cond (.nc 20) (qO [p0 21 [.cv (.str (ByteArray.mk (Array.mk [108, 101, 110, 32, 111, 117, 116, 32, 111, 102, 32, 114, 97, 110, 103, 101])))] (.other (Oper.mk (some 21) (Op.makeInterface 9 (Operand.const (Value.string (ByteArray.mk (Array.mk [108, 101, 110, 32, 111, 117, 116, 32, 111, 102, 32, 114, 97, 110, 103, 101]))))) 20 "slices.go:496" (Array.mk []) none) 0), ⟨none, [.Bs 21], none, none, .other (Oper.mk none (Op.panic (Operand.tmp 21)) 0 "slices.go:496" (Array.mk [Edge.mk 0 Ground.data]) none) 0⟩]) .skip)
noncomputable def afk:gE :=
 p2 [p1 15 3,p1 16 5,qW 17 16,qn 18 15 17 .add,p1 3 18] afj
noncomputable def afl:gE :=
 .block 1 (p2 [p0 13 [.nc 9,.nc 11] (.kY 1),qh 14 13,p1 5 14] afk)
noncomputable def afm:gE :=
 .ov false [p1 31 6,p1 32 8,p0 33 [.jq 31,.jq 32] (.app 3 24),p1 6 33]
noncomputable def afn:gE :=
 .block 3 (p2 [p0 29 [.nc 25,.nc 27] (.kY 1),qh 30 29,p1 8 30] afm)
noncomputable def afo:gE :=
 .seq (p2 [p1 25 0,p0 26 [.nc 25] .zJ,qf 27 0] (.block 2 (.loop (some (p' false [6,1,18,3,8])) (p2 [p0 28 [.nc 27,.nc 26] (.bin .lss)] (.seq (.cond (.nc 28) .skip (.exit 2)) (.seq afn (qO [qV 34 27 1,p1 27 34]))))))) (p2 [p1 35 6,p1 2 35] .ret)
noncomputable def afp:gE :=
 .seq (p2 [p3 9 0,p0 10 [.nc 9] .zJ,qf 11 0] (.block 0 (.loop (some (p' false [0,1,2,1,5,3,24])) (p2 [p0 12 [.nc 11,.nc 10] (.bin .lss)] (.seq (.cond (.nc 12) .skip (.exit 0)) (.seq afl (qO [qV 22 11 1,p1 11 22]))))))) (p2 [p1 23 3,p0 24 [.cv (.func 76 [] []),.cv (.av [] 0 .full),.nc 23] (.call 0),p1 6 24] afo)
noncomputable def WS:gE :=
 p2 [p0 2 [.cv (.av [] 0 .full)] (.nil 3)] (p2 [qf 3 0] afp)
theorem adf:qo Go.Proofs.Tryz.prog TD 56=some (WS,36,[.tmp 2]):=by kernel_rfl
end Go.Proofs.YtkoioidpbbbaiaaGreat.Ab


namespace Go.Proofs.YtkoioidpbbbaiaaGreat.Ab
open Go
set_option maxRecDepth 20000
set_option maxHeartbeats 4000000
noncomputable def Ph (k:Nat) (args:List I):Option I:=match ga Go.Proofs.Tryz.prog jD (Pn []) 300 (.fn k) args [] 0 with
 | some (r,H2)=>match bM H2 0 H2.length 0 8 r with
   | some v=>match cr 8 v with
     | true=>some v
     | false=>none
   | none=>none
 | none=>none
theorem Xl {k:Nat} {args:List I} {v:I} (h:Ph k args=some v):nn Go.Proofs.Tryz.prog k args v:=by
 unfold Ph at h;split at h
 ·rename_i r H2 ak;split at h
  ·rename_i u aP;split at h
   ·rename_i aB;cases h;have ah:=(Cb eG jD (XK (l:=[]) (by simp)) (VT TV) 300).Ha ak;refine ⟨⟨a'.refl _ _,ah.2.1,fun B aa J S w xs ag aI ad=>CallsIn.mono (ah.2.2 B aa J S w xs ag aI ad) fun e w' he=>?_⟩,aB⟩;cases e with
    | returned x=>exact xG ag (fun id aE=>by simp at aE) aP he
    | panicked c=>exact he.elim
    | outgrown=>exact he.elim
   ·cases h
  ·cases h
 ·cases h
def OM:I→Bool
 | .av [] 0 (.uniq 3)=>true
 | _=>false
theorem U1 {v:I} (h:OM v=true):v=.av [] 0 (.uniq 3):=by
 unfold OM at h;split at h
 ·rfl
 ·cases h
theorem abI:((List.range 20).all fun n=>match Ph 76 [.av [] 0 .full,.int .i64 ((n+1:Nat):Int)] with | some v=>OM v | none=>false)=true:=by kernel_rfl
theorem abJ {n:Nat} (h:n<20):qw 76 [.av [] 0 .full,h0 ((n+1:Nat):Int)] (.av [] 0 (.uniq 3)):=by
 have:=List.all_eq_true.1 abI n (List.mem_range.2 h);split at this
 ·rename_i v ad;rw [U1 this] at ad;exact Xl ad
 ·cases this
theorem abc:(match Ph 56 [.av [.av [] 0 .shared,.av [] 0 .shared] 2 (.uniq 1)] with | some v=>OM v | none=>false)=true:=by kernel_rfl
theorem aba:qw 56 [.av [.av [] 0 .shared,.av [] 0 .shared] 2 (.uniq 1)] (.av [] 0 (.uniq 3)):=by
 have:=abc;split at this
 ·rename_i v ad;rw [U1 this] at ad;exact Xl ad
 ·cases this
abbrev LE (l:List qu):I:=.av (l.flatMap qq) l.length .shared
theorem abb {l1 l2:List qu} (aI:l1.length+l2.length≤20) {H:List ar} {lo:Nat}:Sem Tryz.prog (.fn 56) [.av [LE l1,LE l2] 2 (.uniq 1)] H lo (.av ((l1++l2).flatMap qq) (l1++l2).length (.uniq 3)) H:=by
 by_cases aQ:l1.length+l2.length=0
 ·obtain rfl:=sP.1 (show l1.length=0 by omega);obtain rfl:=sP.1 (show l2.length=0 by omega);have:=Xp (H:=H) (by rfl) aba;exact ⟨a'.refl _ _,this.2⟩
 obtain ⟨k,al⟩:∃ k,l1.length+l2.length=k+1:=⟨l1.length+l2.length-1,by omega⟩;refine rA eG adf rfl (a'.refl _ _) fun Q bp=>?_;unfold WS;conv=>whnf
 have bI:IntKind.i64.wrap (0+(l1.length:Int))=(l1.length:Int):=by rw [HO _ (by omega) (by omega)];omega
 have bX:IntKind.i64.wrap ((l1.length:Int)+(l2.length:Int))=((l1.length+l2.length:Nat):Int):=by rw [HO _ (by omega) (by omega)];omega
 refine .intro (fun m T H'=>(m=2∧T=qc 36 [(0,.av [LE l1,LE l2] 2 (.own 1)),(3,h0 0),(9,.av [LE l1,LE l2] 2 .shared),(10,h0 2),(11,h0 0)]∧H'=H)∨(m=1∧T=qc 36 [(0,.av [LE l1,LE l2] 2 (.own 1)),(3,h0 l1.length),(9,.av [LE l1,LE l2] 2 .shared),(10,h0 2),(11,h0 1)]∧H'=H)∨(m=0∧T=qc 36 [(0,.av [LE l1,LE l2] 2 (.own 1)),(3,h0 ((l1.length+l2.length:Nat):Int)),(9,.av [LE l1,LE l2] 2 .shared),(10,h0 2),(11,h0 2)]∧H'=H)) 2 (.inl ⟨rfl,rfl,rfl⟩) ?_;rintro m T H' (⟨rfl,rfl,rfl⟩ | ⟨rfl,rfl,rfl⟩ | ⟨rfl,rfl,rfl⟩)
 ·conv=>whnf
  refine ⟨by decide,?_⟩;conv=>whnf
  rw [bI,decide_eq_false (show ¬ ((l1.length:Int)<0) by omega)];conv=>whnf
  exact ⟨1,by decide,.inr (.inl ⟨rfl,rfl,rfl⟩)⟩
 ·conv=>whnf
  refine ⟨by decide,?_⟩;conv=>whnf
  rw [bX,decide_eq_false (show ¬ (((l1.length+l2.length:Nat):Int)<0) by omega)];conv=>whnf
  exact ⟨0,by decide,.inr (.inr ⟨rfl,rfl,rfl⟩)⟩
 ·conv=>whnf
  rw [al];refine ⟨_,_,M_ (p6 rfl (p6 rfl rfl)) (abJ (n:=k) (by omega)) _ _,?_⟩;conv=>whnf
  have bm:(l1.flatMap qq).length=l1.length*3:=HX qq 3 (fun _=>rfl) l1;have cw:(l2.flatMap qq).length=l2.length*3:=HX qq 3 (fun _=>rfl) l2;refine .intro (fun m T H2=>(m=2∧T=qc 36 [(6,.av [] 0 (.uniq 3)),(25,.av [LE l1,LE l2] 2 (.own 1)),(26,h0 2),(27,h0 0)]∧H2=H')∨(m=1∧T=qc 36 [(6,.av (l1.flatMap qq) l1.length (.uniq 3)),(25,.av [LE l1,LE l2] 2 (.own 1)),(26,h0 2),(27,h0 1)]∧H2=H')∨(m=0∧T=qc 36 [(6,.av ((l1++l2).flatMap qq) (l1++l2).length (.uniq 3)),(25,.av [LE l1,LE l2] 2 (.own 1)),(26,h0 2),(27,h0 2)]∧H2=H')) 2 (.inl ⟨rfl,rfl,rfl⟩) ?_;rintro m T H2 (⟨rfl,rfl,rfl⟩ | ⟨rfl,rfl,rfl⟩ | ⟨rfl,rfl,rfl⟩)
  ·(conv=>whnf);refine ⟨by decide,?_⟩;(conv=>whnf);refine ⟨bm,by omega,rfl,by omega,?_⟩;(conv=>whnf);refine ⟨1,by decide,.inr (.inl ⟨rfl,?_,rfl⟩)⟩;rw [sB];rfl
  ·(conv=>whnf);refine ⟨by decide,?_⟩;(conv=>whnf);refine ⟨cw,by omega,rfl,by omega,?_⟩;(conv=>whnf);refine ⟨0,by decide,.inr (.inr ⟨rfl,?_,rfl⟩)⟩;rw [ug,sy];rfl
  ·(conv=>whnf);exact bp _ _ _ ⟨.inr rfl,lI.refl _,rfl⟩

noncomputable def Zj:gE :=
 p2 [p0 2 [.jq 0] .box,p0 3 [.jq 1] .box,qf 4 0] (p2 [qv 5 2 0,qh 6 5,qv 7 3 0,qh 8 7,qn 9 6 8 .sub,p1 4 9] .ret)
theorem ad2:qo Tryz.prog TF 59=some (Zj,10,[.tmp 4]):=by kernel_rfl
def Yy (x:(Int×(Int×Int))) (y:(Int×(Int×Int))):Option Int :=
 some (w (x.1-y.1))
theorem ahL {x:(Int×(Int×Int))} {y:(Int×(Int×Int))} {v:Int} (h:Yy x y=some v):qw 59 [(.agg [(h0 x.1),(h0 x.2.1),(h0 x.2.2)]),(.agg [(h0 y.1),(h0 y.2.1),(h0 y.2.2)])] (h0 v):=by
 refine qL eG ad2 rfl rfl fun Q bp=>?_;have jJ:qI [.tmp 4] Q (fun v=>(h0 v)) v:=fun T H bE=>bp _ T H bE;unfold Yy at h;unfold Zj;conv=>whnf
 exact p_ h jJ rfl rfl
end Go.Proofs.YtkoioidpbbbaiaaGreat.Ab


namespace Go.Proofs.YtkoioidpbbbaiaaGreat.Ab
open Go
noncomputable def afr:gE :=
 .ov false [p1 7 0,p3 8 4,p1 9 4,p0 10 [.Bs 9] (.conv .u64),p0 11 [.cv (.func 79 [] []),.nc 10] (.call 3),p1 12 1,p0 13 [.cv (.func 78 [] []),.jq 7,.cv (.int .i64 0),.jq 8,.jq 11,.jq 12] (.call 1)]
noncomputable def RK:gE :=
 p2 [p3 5 0,qW 6 5,p1 4 6] afr
theorem Vw:qo Go.Proofs.Tryz.prog TE 58=some (RK,14,[]):=by kernel_rfl
noncomputable def NM:gE :=
 p2 [p1 26 0,p1 27 1,p1 28 2,p1 29 4,p0 30 [.cv (.func 90 [] []),.jq 26,.jq 27,.jq 28,.jq 29] (.call 1)] .ret
noncomputable def afF:gE :=
 p2 [p1 33 0,p1 34 1,p1 35 2,p1 36 4,p0 37 [.cv (.func 91 [] []),.jq 33,.jq 34,.jq 35,.jq 36] (.call 1)] .ret
noncomputable def afG:gE :=
 p2 [p3 40 0,p3 41 1,p3 42 2,p3 43 4,p0 44 [.cv (.func 92 [] []),.jq 40,.jq 41,.jq 42,.jq 43] (.call 1)] (qO [p1 45 3,qy 46 45 1 .sub,p1 3 46])
noncomputable def afH:gE :=
 p2 [p3 62 2,qy 63 62 1 .sub,p1 64 13,p3 65 1,qn 66 64 65 .sub,qn 67 63 66 .sub,p1 13 67] (qO [qf 14 1])
noncomputable def afI:gE :=
 p2 [p3 57 0,p3 58 1,p3 59 2,p3 60 4,p0 61 [.cv (.func 94 [] []),.jq 57,.jq 58,.jq 59,.jq 60] (.call 1)] afH
noncomputable def afJ:gE :=
 p2 [p3 76 0,p3 77 1,p3 78 2,p3 79 4,p0 80 [.cv (.func 95 [] []),.jq 76,.jq 77,.jq 78,.jq 79] (.call 1)] (.cond (.nc 80) .ret .skip)
noncomputable def afK:gE :=
 p2 [p3 98 0,p1 99 1,p3 100 2,p1 101 13,p3 102 4,p0 103 [.cv (.func 96 [] []),.jq 98,.jq 99,.jq 100,.jq 101,.jq 102] (.call 1),p1 15 103] (p2 [p1 104 15,p1 1 104] (.exit 1))
noncomputable def afL:gE :=
 p2 [p3 129 0,p1 130 1,p3 131 16,p3 132 3,p3 133 4,p0 134 [.cv (.func 78 [] []),.jq 129,.jq 130,.jq 131,.jq 132,.jq 133] (.call 1)] (qO [p1 135 16,qV 136 135 1,p1 1 136])
noncomputable def afM:gE :=
 p2 [p1 126 18,p1 127 20,qn 128 126 127 .geq,p1 10 128] afL
noncomputable def afx:gE :=
 p2 [p3 140 0,p3 141 16,qV 142 141 1,p1 143 2,p3 144 3,p3 145 4,p0 146 [.cv (.func 78 [] []),.jq 140,.jq 142,.jq 143,.jq 144,.jq 145] (.call 1)] (qO [p1 147 16,p1 2 147])
noncomputable def afy:gE :=
 p2 [p1 137 19,p1 138 20,qn 139 137 138 .geq,p1 10 139] afx
noncomputable def afz:gE :=
 p2 [p1 121 12,qy 122 121 8 .quo,p1 20 122] (p2 [p3 123 18,p3 124 19,qn 125 123 124 .lss] (.cond (.nc 125) afM afy))
noncomputable def afA:gE :=
 p2 [p3 115 16,p3 116 1,qn 117 115 116 .sub,p3 118 2,p3 119 16,qn 120 118 119 .sub,p1 18 117,p1 19 120] afz
noncomputable def afB:gE :=
 p2 [p3 106 0,p3 107 1,p3 108 2,p1 109 13,p3 110 4,p0 111 [.cv (.func 97 [] []),.jq 106,.jq 107,.jq 108,.jq 109,.jq 110] (.call 1),p1 105 111,qB 112 105 0,p0 113 [.Bs 105] (.ext 1),p1 16 112,p1 17 113] (p2 [p1 114 17,p1 11 114] afA)
noncomputable def afC:gE :=
 .seq (.seq (ra [p3 81 1,qy 82 81 0 .gtr,p1 83 82,cl 84 [.nc 4] 83 true .mU,cl 85 [.nc 0] 83 true .mU,cl 86 [.nc 1] 83 true .mU,cl 87 [.Bs 86,.cv (.int .i64 1)] 83 true (.bin .sub),cl 88 [.Bs 85,.Bs 87] 83 true (.kY 3),cl 89 [.Bs 88] 83 true (.zE (.str 3)),cl 90 [.nc 0] 83 true .mU,cl 91 [.nc 13] 83 true .mU,cl 92 [.Bs 90,.Bs 91] 83 true (.kY 3),cl 93 [.Bs 92] 83 true (.zE (.str 3)),cl 94 [.nc 84,.nc 89,.nc 93] 83 true (.call 6),cl 95 [.Bs 94,.cv (.int .i64 0)] 83 true (.bin .lss),cl 96 [.Bs 95] 83 true (.un .not),p0 97 [.nc 83,.Bs 96,.cv (.bool false)] .pick]) (.cond (.nc 97) afK .skip)) afB
noncomputable def afD:gE :=
 .seq (p2 [p3 68 10,p1 69 68,cl 70 [.nc 11] 69 true .mU,p0 71 [.Bs 69,.Bs 70,.cv (.bool false)] .pick,p1 72 71,cl 73 [.jq 14] 72 true .mU,cl 74 [.Bs 73,.cv (.int .i64 1)] 72 true (.bin .eql),p0 75 [.Bs 72,.Bs 74,.cv (.bool false)] .pick] (.cond (.nc 75) afJ .skip)) afC
noncomputable def afE:gE :=
 p2 [p3 48 0,p3 49 1,p3 50 2,p3 51 4,p0 52 [.cv (.func 93 [] []),.jq 48,.jq 49,.jq 50,.jq 51] (.call 1),p1 47 52,qB 53 47 0,p0 54 [.Bs 47] (.ext 1),p1 13 53,p1 14 54] (.seq (p2 [p3 55 14,qy 56 55 2 .eql] (.cond (.nc 56) afI .skip)) afD)
noncomputable def RU:gE :=
 .seq (p2 [p3 31 3,qy 32 31 0 .eql] (.cond (.nc 32) afF .skip)) (.seq (p2 [p3 38 10,p0 39 [.Bs 38] (.un .not)] (.cond (.nc 39) afG .skip)) afE)
noncomputable def NN:gE :=
 .block 1 (p2 [p3 21 2,p3 22 1,qn 23 21 22 .sub,p1 12 23] (.seq (p2 [p3 24 12,qy 25 24 12 .leq] (.cond (.nc 25) NM .skip)) RU))
noncomputable def RT:gE :=
 p2 [p0 10 [.cv (.bool true)] .mU] (p2 [p0 11 [.cv (.bool true)] .mU] (.block 0 (.loop (some (p' false [0,5,5,2,136])) NN)))
theorem Vz:qo Go.Proofs.Tryz.prog TN 78=some (RT,148,[]):=by kernel_rfl
noncomputable def afQ:gE :=
 .block 3 (ra [p3 37 0,p3 38 9,p3 39 0,p3 40 9,qy 41 40 1 .sub,p3 42 0,p3 43 9,qy 44 43 1 .sub,re 45 42 44 3,p0 46 [.Bs 45] (.zE (.str 3)),p3 47 0,p3 48 9,re 49 47 48 3,p0 50 [.Bs 49] (.zE (.str 3)),re 51 37 38 3,⟨none,[.jq 51,.jq 46],none,none,.st 3⟩,re 52 39 41 3,⟨none,[.jq 52,.jq 50],none,none,.st 3⟩])
noncomputable def afR:gE :=
 .seq (.seq (ra [p3 18 9,p3 19 1,qn 20 18 19 .gtr,p1 21 20,cl 22 [.nc 3] 21 true .mU,cl 23 [.nc 0] 21 true .mU,cl 24 [.nc 9] 21 true .mU,cl 25 [.Bs 23,.Bs 24] 21 true (.kY 3),cl 26 [.Bs 25] 21 true (.zE (.str 3)),cl 27 [.nc 0] 21 true .mU,cl 28 [.nc 9] 21 true .mU,cl 29 [.Bs 28,.cv (.int .i64 1)] 21 true (.bin .sub),cl 30 [.Bs 27,.Bs 29] 21 true (.kY 3),cl 31 [.Bs 30] 21 true (.zE (.str 3)),cl 32 [.nc 22,.nc 26,.nc 31] 21 true (.call 6),cl 33 [.Bs 32,.cv (.int .i64 0)] 21 true (.bin .lss),p0 34 [.nc 21,.Bs 33,.cv (.bool false)] .pick]) (.cond (.nc 34) .skip (.exit 2))) (.seq afQ (qO [p1 35 9,qy 36 35 1 .sub,p1 9 36]))
noncomputable def afS:gE :=
 .block 1 (p2 [p3 17 8,p1 9 17] (.block 2 (.loop (some (p' false [0,4,4,2,43])) afR)))
noncomputable def afT:gE :=
 .seq (p2 [p3 12 8,p3 13 2,qn 14 12 13 .lss] (.cond (.nc 14) .skip (.exit 0))) (.seq afS (qO [p1 15 8,qV 16 15 1,p1 8 16]))
noncomputable def R3:gE :=
 p2 [p3 10 1,qV 11 10 1,p1 8 11] (.block 0 (.loop (some (p' false [0,4,4,1,44])) afT))
theorem VB:qo Go.Proofs.Tryz.prog TU 90=some (R3,53,[]):=by kernel_rfl
end Go.Proofs.YtkoioidpbbbaiaaGreat.Ab


namespace Go.Proofs.YtkoioidpbbbaiaaGreat.Ab
open Go
set_option maxRecDepth 20000
set_option maxHeartbeats 4000000
def qU (S:List qu) (j:Nat):qu:=ix S (j:Int)
def Kf (S:List qu) (j:Nat):List qu:=(S.set (j+1) (qU S j)).set j (qU S (j+1))
def Nv (x y:qu):Bool:=decide (w (x.1-y.1)<0)
def H_:Nat→List qu→List qu
 | 0,S=>S
 | j+1,S=>if Nv (qU S (j+1)) (qU S j)=true then H_ j (Kf S j) else S
def ID:Nat→Nat→List qu→List qu
 | 0,_,S=>S
 | m+1,i,S=>ID m (i+1) (H_ i S)
def r4 (S:List qu):List qu:=ID (S.length-1) 1 S
theorem XJ (S:List qu) (j:Nat):(Kf S j).length=S.length:=by simp [Kf]
theorem UW:∀ (j:Nat) (S:List qu),(H_ j S).length=S.length
 | 0,S=>rfl
 | j+1,S=>by
   unfold H_;split
   ·rw [UW j,XJ]
   ·rfl
theorem Xs (S:List qu) (i:Nat) (c:qu) (h:i<S.length):(((S.flatMap qq).set (i*3) (h0 c.1)).set (i*3+1) (h0 c.2.1)).set (i*3+2) (h0 c.2.2)=(S.set i c).flatMap qq:=by
 induction S generalizing i with
 | nil=>exact absurd h (by simp)
 | cons s S a8 =>
   cases i with
   | zero=>rfl
   | succ i =>
     have:=a8 i (by simpa using h);show (((h0 s.1::h0 s.2.1::h0 s.2.2::S.flatMap qq).set ((i+1)*3) (h0 c.1)).set ((i+1)*3+1) (h0 c.2.1)).set ((i+1)*3+2) (h0 c.2.2)=h0 s.1::h0 s.2.1::h0 s.2.2::(S.set i c).flatMap qq;rw [←this,show (i+1)*3=i*3+1+1+1 by omega];rfl
abbrev Iz (S:List qu):ar:=.cells (S.flatMap qq)
theorem acD {H:List ar} {id lo n:Nat} (bD:lo≤id) {S:List qu} (aI:S.length=n) (za:n≤100) (ag:H[id]?=some (Iz S)) :
  Sem Tryz.prog (.fn 90) [.ref id 0 n none 3,h0 0,h0 n,.func 59 [] []] H lo (.tuple []) (H.set id (Iz (r4 S))):=by
 have aE:=(sa.1 ag).1;refine rA eG VB rfl ⟨by simp,fun j ab ae=>by rw [sd (by omega)]⟩ fun Q bp=>?_;have CI:Nat.ble lo id=true:=tj bD;have gs:∀ c:ar,(H.set id c)[id]?=some c:=fun c=>by rw [sj aE]
 have JZ:∀ c e:ar,(H.set id c).set id e=H.set id e:=fun c e=>List.set_set ..;unfold R3;conv=>whnf
 refine .intro (fun m T H'=>∃ (i:Nat) (S':List qu),1≤i∧(i≤n∨i=1)∧m=n-i∧S'.length=n∧ID (n-i) i S'=r4 S∧T=qc 53 [(0,.ref id 0 n none 3),(1,h0 0),(2,h0 n),(3,.func 59 [] []),(8,h0 i)]∧H'=H.set id (Iz S')) (n-1) ⟨1,S,sc _,.inr rfl,rfl,aI,by rw [←aI];rfl,rfl,?_⟩ ?_
 ·obtain ⟨ab,ae⟩:=sa.1 ag;rw [←ae,List.set_getElem_self]
 rintro m T H' ⟨i,S',aci,acj,rfl,pk,he,rfl,rfl⟩;have Ua:i<n→IntKind.i64.wrap ((i:Int)+1)=((i+1:Nat):Int):=fun _=>by rw [HO _ (by omega) (by omega)];omega
 conv=>whnf
 refine HE (fun aR=>?_) (fun aR=>?_)
 ·have HG:i<n:=by omega
  conv=>whnf
  refine .intro (fun j T H'=>∃ bL:List qu,j≤i∧bL.length=n∧H_ j bL=H_ i S'∧T=qc 53 [(0,.ref id 0 n none 3),(1,h0 0),(2,h0 n),(3,.func 59 [] []),(8,h0 i),(9,h0 j)]∧H'=H.set id (Iz bL)) i ⟨S',sc _,pk,rfl,rfl,rfl⟩ ?_;rintro j T H' ⟨bL,aw,QM,Lp,rfl,rfl⟩;have pE:(bL.flatMap qq).length=bL.length*3:=HX qq 3 (fun _=>rfl) bL;conv=>whnf
  cases j with
  | zero =>
    (conv=>whnf);refine ⟨n-(i+1),by omega,i+1,bL,by omega,by omega,rfl,QM,?_,by rw [Ua HG];rfl,rfl⟩;rw [←he,show n-i=(n-(i+1))+1 by omega];show _=ID (n-(i+1)) (i+1) (H_ i S');rw [←Lp];rfl
  | succ y =>
    (have hw:IntKind.i64.wrap (((y+1:Nat):Int)-1)=(y:Int):=by rw [HO _ (by omega) (by omega)];omega);rw [decide_eq_true (show (0:Int)<((y+1:Nat):Int) by omega)];(conv=>whnf);refine ⟨by omega,?_⟩;(conv=>whnf);refine Ew (gs _) ?_;(have gM:0≤((y+1:Nat):Int)∧((y+1:Nat):Int)<(bL.length:Int):=by omega);(have iS:0≤(y:Int)∧(y:Int)<(bL.length:Int):=by omega);(conv=>whnf);refine Pg qq 3 H4 bL ((y+1:Nat):Int) gM rfl ?_;(conv=>whnf);refine Kd qq 3 H4 bL ((y+1:Nat):Int) gM 1 rfl ?_;(conv=>whnf);refine Kd qq 3 H4 bL ((y+1:Nat):Int) gM 2 rfl ?_;(conv=>whnf);rw [hw];refine ⟨by omega,?_⟩;(conv=>whnf);refine Ew (gs _) ?_;(conv=>whnf);refine Pg qq 3 H4 bL (y:Int) iS rfl ?_;(conv=>whnf);refine Kd qq 3 H4 bL (y:Int) iS 1 rfl ?_;(conv=>whnf);refine Kd qq 3 H4 bL (y:Int) iS 2 rfl ?_;(conv=>whnf);refine ⟨p6 (H0 (p6 rfl (p6 rfl (p6 rfl rfl)))) (p6 (H0 (p6 rfl (p6 rfl (p6 rfl rfl)))) rfl),[.agg [h0 (qU bL (y+1)).1,h0 (qU bL (y+1)).2.1,h0 (qU bL (y+1)).2.2],.agg [h0 (qU bL y).1,h0 (qU bL y).2.1,h0 (qU bL y).2.2]],rfl,h0 (w ((qU bL (y+1)).1-(qU bL y).1)),rfl,ahL rfl,Hg,?_⟩;(conv=>whnf);have mv:decide (w ((qU bL (y+1)).1-(qU bL y).1)<0)=Nv (qU bL (y+1)) (qU bL y):=rfl;rw [mv];have h':H_ (y+1) bL=if Nv (qU bL (y+1)) (qU bL y)=true then H_ y (Kf bL y) else bL:=rfl;cases ak:Nv (qU bL (y+1)) (qU bL y) with
    | false =>
      rw [ak,if_neg (by decide)] at h';(conv=>whnf);refine ⟨n-(i+1),by omega,i+1,bL,by omega,by omega,rfl,QM,?_,by rw [Ua HG];rfl,rfl⟩;rw [←he,show n-i=(n-(i+1))+1 by omega];show _=ID (n-(i+1)) (i+1) (H_ i S');rw [←Lp,h']
    | true =>
      rw [ak,if_pos rfl] at h';(conv=>whnf);rw [hw];refine ⟨by omega,?_⟩;(conv=>whnf);refine Ew (gs _) ?_;(conv=>whnf);refine Pg qq 3 H4 bL (y:Int) iS rfl ?_;(conv=>whnf);refine Kd qq 3 H4 bL (y:Int) iS 1 rfl ?_;(conv=>whnf);refine Kd qq 3 H4 bL (y:Int) iS 2 rfl ?_;(conv=>whnf);refine ⟨by omega,?_⟩;(conv=>whnf);refine Ew (gs _) ?_;(conv=>whnf);refine Pg qq 3 H4 bL ((y+1:Nat):Int) gM rfl ?_;(conv=>whnf);refine Kd qq 3 H4 bL ((y+1:Nat):Int) gM 1 rfl ?_;(conv=>whnf);refine Kd qq 3 H4 bL ((y+1:Nat):Int) gM 2 rfl ?_;(conv=>whnf);refine ⟨by omega,?_⟩;(conv=>whnf);rw [CI];refine Ew (gs _) ?_;(conv=>whnf);rw [show 0+((y+1:Nat):Int).toNat*3=(y+1)*3 by omega];refine Gn (by omega) ?_;(conv=>whnf);refine Gn (by rw [s0];omega) ?_;(conv=>whnf);refine Gn (by rw [s0,s0];omega) ?_;(conv=>whnf);have e1:=Xs bL (y+1) (qU bL y) (by omega);obtain ⟨jz,QN⟩:∃ jz,jz=bL.set (y+1) (qU bL y):=⟨_,rfl⟩;(have J9:jz.length=n:=by rw [QN,s0];exact QM);rw [←QN] at e1;have aiD:(jz.flatMap qq).length=jz.length*3:=HX qq 3 (fun _=>rfl) jz;erw [e1,JZ];refine ⟨by omega,?_⟩;(conv=>whnf);rw [CI];refine Ew (gs _) ?_;(conv=>whnf);rw [show 0+(y:Int).toNat*3=y*3 by omega];refine Gn (by omega) ?_;(conv=>whnf);refine Gn (by rw [s0];omega) ?_;(conv=>whnf);refine Gn (by rw [s0,s0];omega) ?_;(conv=>whnf);have b':=Xs jz y (qU bL (y+1)) (by omega);erw [b',JZ];(conv=>whnf);rw [hw];refine ⟨y,by omega,jz.set y (qU bL (y+1)),by omega,by rw [s0];exact J9,?_,rfl,rfl⟩;rw [←Lp,h',QN];rfl
 ·have bk:n-i=0:=by omega
  rw [bk] at he;have he:S'=r4 S:=he;subst he;conv=>whnf
  exact bp _ _ _ ⟨.inl rfl,lI.refl _,rfl⟩
theorem aeF {H:List ar} {id lo n:Nat} (bD:lo≤id) {S:List qu} {Jq:Int} (aI:S.length=n) (za:n≤12) (ag:H[id]?=some (Iz S)) :
  Sem Tryz.prog (.fn 78) [.ref id 0 n none 3,h0 0,h0 n,h0 Jq,.func 59 [] []] H lo (.tuple []) (H.set id (Iz (r4 S))):=by
 refine rA eG Vz rfl ⟨by simp,fun j ab ae=>by rw [sd (by omega)]⟩ fun Q bp=>?_;unfold RT;obtain ⟨Qt,Jl⟩:∃ c,NN=c:=⟨_,rfl⟩;rw [Jl];conv=>whnf
 refine .intro (fun m T H'=>T=qc 148 [(0,.ref id 0 n none 3),(1,h0 0),(2,h0 n),(3,h0 Jq),(4,.func 59 [] []),(10,B true),(11,B true)]∧H'=H) 0 ⟨rfl,rfl⟩ ?_;rintro m T H' ⟨rfl,rfl⟩;subst Jl;unfold NN;obtain ⟨a7,cf⟩:∃ c,NM=c:=⟨_,rfl⟩;obtain ⟨Qs,K4⟩:∃ c,RU=c:=⟨_,rfl⟩;rw [cf,K4];conv=>whnf
 rw [show IntKind.i64.wrap ((n:Int)-0)=(n:Int) by rw [HO _ (by omega) (by omega)];omega,decide_eq_true (show (n:Int)≤12 by omega)];conv=>whnf
 subst cf;unfold NM;conv=>whnf
 refine ⟨_,_,rq (acD bD aI (by omega) ag),?_⟩;conv=>whnf
 exact bp _ _ _ ⟨.inr rfl,lI.refl _,rfl⟩
theorem agi {H:List ar} {id lo n:Nat} (bD:lo≤id) {S:List qu} (aI:S.length=n) (za:n≤12) (ag:H[id]?=some (Iz S)) :
  Sem Tryz.prog (.fn 58) [.ref id 0 n none 3,.func 59 [] []] H lo (.tuple []) (H.set id (Iz (r4 S))):=by
 refine rA eG Vw rfl ⟨by simp,fun j ab ae=>by rw [sd (by omega)]⟩ fun Q bp=>?_;unfold RK;conv=>whnf
 rw [show IntKind.u64.wrap (n:Int)=(n:Int) by rw [X9];omega];refine ⟨by first | rfl | simp only [tx,tZ,Mm,Mu,Mn,Mp,Mo,Mq,Mw,Mv,Kc,Mr,Ms,Mt,tt,tW],_,Ou n za,?_⟩
 conv=>whnf
 refine ⟨_,_,rq (aeF bD aI za ag),?_⟩;conv=>whnf
 exact bp _ _ _ ⟨.inl rfl,lI.refl _,rfl⟩
section
variable {H:List ar} {lo:Nat}
theorem acE:Sem Tryz.prog (.fn 90) [.av [] 0 .shared,h0 0,h0 0,.func 59 [] []] H lo (.tuple []) H:=by
 refine rA eG VB rfl (a'.refl _ _) fun Q bp=>?_;unfold R3;conv=>whnf
 refine .intro (fun m T H'=>T=qc 53 [(0,.av [] 0 .shared),(1,h0 0),(2,h0 0),(3,.func 59 [] []),(8,h0 1)]∧H=H') 0 ⟨rfl,rfl⟩ ?_;rintro m T H' ⟨rfl,rfl⟩;conv=>whnf
 exact bp _ _ _ ⟨.inl rfl,lI.refl _,rfl⟩
theorem aeG {Jq:Int}:Sem Tryz.prog (.fn 78) [.av [] 0 .shared,h0 0,h0 0,h0 Jq,.func 59 [] []] H lo (.tuple []) H:=by
 refine rA eG Vz rfl (a'.refl _ _) fun Q bp=>?_;unfold RT;obtain ⟨Qt,Jl⟩:∃ c,NN=c:=⟨_,rfl⟩;rw [Jl];conv=>whnf
 refine .intro (fun m T H'=>T=qc 148 [(0,.av [] 0 .shared),(1,h0 0),(2,h0 0),(3,h0 Jq),(4,.func 59 [] []),(10,B true),(11,B true)]∧H'=H) 0 ⟨rfl,rfl⟩ ?_;rintro m T H' ⟨rfl,rfl⟩;subst Jl;unfold NN;obtain ⟨a7,cf⟩:∃ c,NM=c:=⟨_,rfl⟩;obtain ⟨Qs,K4⟩:∃ c,RU=c:=⟨_,rfl⟩;rw [cf,K4];conv=>whnf
 subst cf;unfold NM;conv=>whnf
 refine ⟨_,_,rq acE,?_⟩;conv=>whnf
 exact bp _ _ _ ⟨.inr rfl,lI.refl _,rfl⟩
theorem agj:Sem Tryz.prog (.fn 58) [.av [] 0 .shared,.func 59 [] []] H lo (.tuple []) H:=by
 refine rA eG Vw rfl (a'.refl _ _) fun Q bp=>?_;unfold RK;conv=>whnf
 refine ⟨by first | rfl | simp only [tx,tZ,Mm,Mu,Mn,Mp,Mo,Mq,Mw,Mv,Kc,Mr,Ms,Mt,tt,tW],_,Ou 0 (by decide),?_⟩
 conv=>whnf
 refine ⟨_,_,rq aeG,?_⟩;conv=>whnf
 exact bp _ _ _ ⟨.inl rfl,lI.refl _,rfl⟩
end

abbrev L6 (p:qb) (qe:List (List Int)):List I:=[(.agg [(.av (p.1.flatMap p7) p.1.length .shared),(h0 p.2.1),(h0 p.2.2)]),(.av (qe.map oX) qe.length (.uniq 1))]
theorem ahz {eK:(List Int)} {q6:Unit→Option ((Option (((List (Int×Int))×(Int×Int))×Unit))×Int)} {s2:Int} {p:((List (Int×Int))×(Int×Int))} {qe:(List (List Int))} {s1:Int} {v:((Option (((List (Int×Int))×(Int×Int))×Unit))×Int)} {Q:cQ→List I→List ar→Prop}   (jJ:∀ (e:Int) (T:List I),v=(none,e)→rQ [rJ p] T [.tmp 4,.tmp 5]=some [.eI,h0 e]→Q .ret T [rJ p]) (J8:∀ (qd:List I),q6 ()=some v→rv 48 [(2,(.ptr 0 0)),(8,(.av ((ix qe s1).map h0) (ix qe s1).length .shared)),(17,(.av (qe.map oX) qe.length (.own 1))),(18,(h0 (qe.length:Int))),(19,(h0 s1))] qd→Q (.exit 2) qd [ar.cells [(.av (p.1.flatMap p7) p.1.length .shared),(h0 p.2.1),(h0 p.2.2)]]) {T:List I} (b0:eZ [false,false,true,false,false,false,false,false,true,false,false,false,false,false,false,false,false,true,true,true,false,false,false,false,false,false,true,true,true,false,false,false,false,false,false,false,false,false,false,false,false,false,false,false,false,false,false,false] T=qc 48 [(2,(.ptr 0 0)),(8,(.av ((ix qe s1).map h0) (ix qe s1).length .shared)),(17,(.av (qe.map oX) qe.length (.own 1))),(18,(h0 (qe.length:Int))),(19,(h0 s1)),(26,(.av (eK.map h0) eK.length .shared)),(27,(h0 (eK.length:Int))),(28,(h0 s2))]) (h:Iy eK q6 qj s2=some v) :
  dQ Tryz.prog Kq 40 0 none JU T [ar.cells [(.av (p.1.flatMap p7) p.1.length .shared),(h0 p.2.1),(h0 p.2.2)]] Q:=by
 unfold JU;skip;refine wp_loop b0 ?_;refine .intro (fun m T H=>∃ (s2:Int),T=qc 48 [(2,(.ptr 0 0)),(8,(.av ((ix qe s1).map h0) (ix qe s1).length .shared)),(17,(.av (qe.map oX) qe.length (.own 1))),(18,(h0 (qe.length:Int))),(19,(h0 s1)),(26,(.av (eK.map h0) eK.length .shared)),(27,(h0 (eK.length:Int))),(28,(h0 s2))]∧H=[ar.cells [(.av (p.1.flatMap p7) p.1.length .shared),(h0 p.2.1),(h0 p.2.2)]]∧Iy eK q6 m s2=some v) qj ⟨s2,rfl,rfl,h⟩ ?_;clear h b0;rintro m T H ⟨s2,rfl,rfl,h⟩;cases m
 ·exact r0 h
 rename_i m;rw [Iy.eq_2] at h;conv=>whnf
 refine bs h (fun qS h=>?_) fun qS h=>?_
 ·rw [qS];conv=>whnf
  refine qP h id fun ry h=>?_;rw [ru h0 eK s2 ry];conv=>whnf
  refine bs h (fun q_ h=>?_) fun q_ h=>?_
  ·rw [q_];(conv=>whnf);obtain rfl:=Option.some.inj h;exact jJ _ _ rfl rfl
  ·rw [q_];(conv=>whnf);exact ⟨m,sD m,(w (s2+(1:Int))),rfl,rfl,h⟩
 ·rw [qS];conv=>whnf
  exact J8  _ h ⟨rfl,rfl⟩
theorem Yo {p:((List (Int×Int))×(Int×Int))} {qe:(List (List Int))} {qa:Unit→Option ((Option (((List (Int×Int))×(Int×Int))×Unit))×Int)} {s1:Int} {v:((Option (((List (Int×Int))×(Int×Int))×Unit))×Int)} {Q:cQ→List I→List ar→Prop}   (jJ:∀ (e:Int) (T:List I),v=(none,e)→rQ [rJ p] T [.tmp 4,.tmp 5]=some [.eI,h0 e]→Q .ret T [rJ p]) (ri:∀ (qd:List I),qa ()=some v→rv 48 [(2,(.ptr 0 0))] qd→Q (.exit 0) qd [ar.cells [(.av (p.1.flatMap p7) p.1.length .shared),(h0 p.2.1),(h0 p.2.2)]]) {T:List I} (b0:eZ [false,false,true,false,false,false,false,false,false,false,false,false,false,false,false,false,false,true,true,true,false,false,false,false,false,false,false,false,false,false,false,false,false,false,false,false,false,false,false,false,false,false,false,false,false,false,false,false] T=qc 48 [(2,(.ptr 0 0)),(17,(.av (qe.map oX) qe.length (.own 1))),(18,(h0 (qe.length:Int))),(19,(h0 s1))]) (h:Hy p qe qa qj s1=some v) :
  dQ Tryz.prog Kq 40 0 none Ji T [ar.cells [(.av (p.1.flatMap p7) p.1.length .shared),(h0 p.2.1),(h0 p.2.2)]] Q:=by
 unfold Ji;obtain ⟨HD,qE⟩:∃ c,JU=c:=⟨_,rfl⟩;rw [qE];refine wp_loop b0 ?_;refine .intro (fun m T H=>∃ (s1:Int),T=qc 48 [(2,(.ptr 0 0)),(17,(.av (qe.map oX) qe.length (.own 1))),(18,(h0 (qe.length:Int))),(19,(h0 s1))]∧H=[ar.cells [(.av (p.1.flatMap p7) p.1.length .shared),(h0 p.2.1),(h0 p.2.2)]]∧Hy p qe qa m s1=some v) qj ⟨s1,rfl,rfl,h⟩ ?_;clear h b0;rintro m T H ⟨s1,rfl,rfl,h⟩;cases m
 ·exact r0 h
 rename_i m;rw [Hy.eq_2] at h;conv=>whnf
 refine bs h (fun qs h=>?_) fun qs h=>?_
 ·rw [qs];conv=>whnf
  refine qP h id fun qK h=>?_;rw [ru oX qe s1 qK];conv=>whnf
  obtain ⟨bj,qY,h⟩:=p8 h;refine ⟨qi.pl,_,SG qY,?_⟩;conv=>whnf
  obtain ⟨eK,rn,h⟩:=p8 h;refine ⟨(p6 (IX rfl (p6 (Ik (p6 (rM (fun _=>rfl) _ _ _) rfl)) rfl)) rfl),_,SF  rn,?_⟩;conv=>whnf
  subst qE;refine ahz ?_ ?_ (by exact rfl) h
  ·exact fun e T bE ai=>jJ e T bE ai
  ·intro  qd h qz;obtain ⟨rB,rfl⟩:=qz.ex;(conv=>whnf);refine bs h (fun r2 h=>?_) fun r2 h=>?_
   ·rw [r2];(conv=>whnf);obtain rfl:=Option.some.inj h;exact jJ _ _ rfl rfl
   ·rw [r2];(conv=>whnf);exact ⟨m,sD m,(w (s1+(1:Int))),rfl,rfl,h⟩
 ·rw [qs];conv=>whnf
  exact ri  _ h ⟨rfl,rfl⟩
theorem ahv {p:qb} {qe:List (List Int)} {e:Int} (h:rN p qe=some (none,e)):Sem Tryz.prog (.fn 40) (L6 p qe) [] 0 (.tuple [.eI,h0 e]) [rJ p]:=by
 refine rA eG Nw rfl (IF (sE _)) fun Q bp=>?_;have jJ:∀ (cV:Int) (T:List I),((none,e):Option (qb×Unit)×Int)=(none,cV)→rQ [rJ p] T [.tmp 4,.tmp 5]=some [.eI,h0 cV]→Q .ret T [rJ p]:=fun cV T he ai=>by
  obtain rfl:=(Prod.mk.inj he).2;exact bp _ _ _ ⟨.inr rfl,lI.refl _,by rw [ai];rfl⟩
 unfold rN at h;unfold M1;obtain ⟨K2,rX⟩:∃ c,Ji=c:=⟨_,rfl⟩;rw [rX];conv=>whnf
 obtain ⟨aS,gM,h⟩:=p8 h;refine ⟨qi.pl,_,Od gM,?_⟩;conv=>whnf
 refine bs h (fun gN h=>?_) fun gN h=>?_
 ·rw [gN];conv=>whnf
  obtain rfl:aS=e:=(Prod.mk.inj (Option.some.inj h)).2;exact jJ _ _ rfl rfl
 ·rw [gN];conv=>whnf
  subst rX;refine Yo ?_ ?_ (by exact rfl) h
  ·exact fun e T bE ai=>jJ e T bE ai
  ·intro  qd h qz;exact absurd (Prod.mk.inj (Option.some.inj h)).1 (by simp)
theorem ahA {p:qb} {qe:List (List Int)} {t:qb×Unit} {e:Int} (h:rN p qe=some (some t,e)):t=(p,())∧e=0∧Sem Tryz.prog (.fn 40) (L6 p qe) [] 0 (.tuple [.ptr 2 0,h0 0]) [rJ p,.map [] 0,.cells [(.av (p.1.flatMap p7) p.1.length .shared),(h0 p.2.1),(h0 p.2.2),.map 1]]:=by
 have ad:t=(p,())∧e=0:=by
  have aX:=h;unfold rN at aX;obtain ⟨aS,gM,aX⟩:=p8 aX;split at aX
  ·cases aX
  ·exact Vb aX
 obtain ⟨rfl,rfl⟩:=ad;refine ⟨rfl,rfl,?_⟩;refine rA eG Nw rfl (IF (sE _)) fun Q bp=>?_;unfold rN at h;unfold M1;obtain ⟨K2,rX⟩:∃ c,Ji=c:=⟨_,rfl⟩;rw [rX];conv=>whnf
 obtain ⟨aS,gM,h⟩:=p8 h;refine ⟨qi.pl,_,Od gM,?_⟩;conv=>whnf
 refine bs h (fun gN h=>?_) fun gN h=>?_
 ·exact absurd (Prod.mk.inj (Option.some.inj h)).1 (by simp)
 ·rw [gN];conv=>whnf
  subst rX;refine Yo ?_ ?_ (by exact rfl) h
  ·exact fun e T bE ai=>absurd (Prod.mk.inj bE).1 (by simp)
  ·intro  qd h qz;obtain ⟨rB,rfl⟩:=qz.ex;(conv=>whnf);exact bp _ _ _ ⟨.inr rfl,lI.refl _,rfl⟩
section
variable {p:qb} {qe:List (List Int)}
theorem aaQ {e:Int} {lo:Nat} (h:rN p qe=some (none,e)):oV Tryz.prog 8 lo (.fn 40) (L6 p qe) [] (.tuple [.eI,h0 e]) [] :=
 ⟨_,EB (ahv h),by
  show (k9 _ _ _ _ _ _ (.fn 40) (L6 p qe) [] 0).bind _=_
  rw [EA];rfl⟩
theorem aaS {t:qb×Unit} {e:Int} {lo:Nat} (h:rN p qe=some (some t,e)):oV Tryz.prog 8 lo (.fn 40) (L6 p qe) [] (.tuple [.bS [(.av (p.1.flatMap p7) p.1.length .shared),(h0 p.2.1),(h0 p.2.2),.map 0],h0 0]) [.map [] 0] :=
 ⟨_,EB (ahA h).2.2,by
  show (k9 _ _ _ _ _ _ (.fn 40) (L6 p qe) [] 0).bind _=_;rw [EA];have e1:ea (bM [rJ p,.map [] 0,.cells [(.av (p.1.flatMap p7) p.1.length .shared),(h0 p.2.1),(h0 p.2.2),.map 1]] 0 1 0 6) [(.av (p.1.flatMap p7) p.1.length .shared),(h0 p.2.1),(h0 p.2.2),.map 1]=some [(.av (p.1.flatMap p7) p.1.length .shared),(h0 p.2.1),(h0 p.2.2),.map 0] :=
   rF (yW (Hx (fun _=>p6 rfl (p6 rfl rfl)) _ _ _)) (rF (yW rfl) (rF (yW rfl) (rF rfl IG)))
  have b':bM [rJ p,.map [] 0,.cells [(.av (p.1.flatMap p7) p.1.length .shared),(h0 p.2.1),(h0 p.2.2),.map 1]] 0 1 0 8 (.tuple [.ptr 2 0,h0 0])=some (.tuple [.bS [(.av (p.1.flatMap p7) p.1.length .shared),(h0 p.2.1),(h0 p.2.2),.map 0],h0 0]) :=
   M' (rF (show (ea (bM [rJ p,.map [] 0,.cells [(.av (p.1.flatMap p7) p.1.length .shared),(h0 p.2.1),(h0 p.2.2),.map 1]] 0 1 0 6) [(.av (p.1.flatMap p7) p.1.length .shared),(h0 p.2.1),(h0 p.2.2),.map 1]).map I.bS=_ by rw [e1];rfl) (rF rfl IG))
  show (match mapM (bM [rJ p,.map [] 0,.cells [(.av (p.1.flatMap p7) p.1.length .shared),(h0 p.2.1),(h0 p.2.2),.map 1]] 0 1 0 8) [],bM [rJ p,.map [] 0,.cells [(.av (p.1.flatMap p7) p.1.length .shared),(h0 p.2.1),(h0 p.2.2),.map 1]] 0 1 0 8 (.tuple [.ptr 2 0,h0 0]) with | some es',some v=>some (v,[]++[ar.map es' 0]) | _,_=>none)=_
  rw [b'];rfl⟩
end
end Go.Proofs.YtkoioidpbbbaiaaGreat.Ab


namespace Go.Proofs.YtkoioidpbbbaiaaGreat.Ab
open Go
noncomputable def Rz:gE :=
 p2 [p3 33 9, p1 34 8, p0 35 [.jq 33, .jq 34] (.other (Oper.mk (some 35) (Op.call (Call.mk (Callee.builtin Builtin.copy) (Array.mk [Operand.tmp 33, Operand.tmp 34]) (Array.mk [38, 38]))) 3 "curl.go:142" (Array.mk [Edge.mk 0 Ground.data, Edge.mk 1 Ground.data]) none) 0)] (p2 [p1 36 9, p1 4 36, qf 5 0] .ret)
noncomputable def NH:gE :=
 p2 [p3 30 8,qW 31 30,p0 32 [.nc 31,.Bs 31] (.z1 [.int .i64 0,.int .i64 0,.int .i64 0] 3 24),p1 9 32] Rz
noncomputable def Ly:gE :=
 p2 [p3 28 8,p0 29 [.cv (.func 58 [] []),.jq 28,.cv (.func 59 [] [])] (.call 1)] NH
noncomputable def RA:gE :=
 p2 [p3 20 6,p3 21 1,p0 22 [.cv (.func 57 [] []),.jq 20,.jq 21,.cv (.int .i64 0)] (.call 1),p1 23 6,p1 24 1,p0 25 [.cv (.func 57 [] []),.jq 23,.jq 24,.cv (.int .i64 1)] (.call 1),p0 26 [.Bs 22,.Bs 25] (.yB 2 1 [.av [] 0 .full] [0,1]),p0 27 [.cv (.func 56 [] []),.jq 26] (.call 1),⟨some 8,[.jq 27],none,some 27,.Bq⟩] Ly
noncomputable def WE:gE :=
 .seq (p2 [p3 17 7,qy 18 17 0 .neq] (.cond (.nc 18) (p2 [p1 19 7,p0 4 [.cv (.av [] 0 .full)] (.nil 3),p1 5 19] .ret) .skip)) RA
noncomputable def WG:gE :=
 p2 [p0 11 [.Bs 2] (.zE (.str 3)),p3 12 1,p0 13 [.Bs 12] (.yB 1 1 [.av [] 0 .full] [0]),p0 14 [.cv (.func 40 [] []),.jq 11,.jq 13] (.call 8),p1 10 14,qB 15 10 0,p0 16 [.Bs 10] (.ext 1),p1 6 15,p1 7 16] WE
noncomputable def WD:gE :=
 p2 [p0 2 [.jq 0] .yy,p0 4 [.cv (.av [] 0 .full)] (.nil 3),qf 5 0] WG
theorem ac7:qo Go.Proofs.Tryz.prog Ol 23=some (WD,37,[.tmp 4,.tmp 5]):=by kernel_rfl
end Go.Proofs.YtkoioidpbbbaiaaGreat.Ab


namespace Go.Proofs.YtkoioidpbbbaiaaGreat.Ab
open Go
set_option maxRecDepth 20000
set_option maxHeartbeats 4000000
def KK (p:qb) (order:List Int):Option (List qu×Int) :=
 (rN p [order]).bind fun r=>match r with
 | (none,q)=>if decide (q≠0)=true then some ([],q) else none
 | (some b,_)=>(KS b order 0).bind fun l1=>(KS b order 1).bind fun l2=>qk (l1.length+l2.length≤12) <| some (r4 (l1++l2),0)
theorem abD (b:r3):HU b 0 [.map [] 0]:=⟨[],0,rfl,fun e he=>absurd he (by simp)⟩
theorem UY:∀ (m i:Nat) (S:List qu),(ID m i S).length=S.length
 | 0,_,_=>rfl
 | m+1,i,S=>by unfold ID;rw [UY m,UW]
theorem Xz (S:List qu):(r4 S).length=S.length:=UY _ _ _
theorem afV (n:Nat) {a b c:I}:(e_ n [a,b,c]).length=n*3:=by
 induction n with
 | zero=>rfl
 | succ n a8=>show ([a,b,c]++e_ n [a,b,c]).length=_;rw [sy,a8];simp;omega
theorem Xi {S:List qu} {H:List ar} {id n:Nat} {cap:Option Nat} (ag:H[id]?=some (Iz S)) (aI:S.length=n):rowOf H (.ref id 0 n cap 3)=some (S.flatMap qq):=by
 have ao:(S.flatMap qq).length=S.length*3:=HX qq 3 (fun _=>rfl) S;simp only [rowOf,ag,sB,tq];rw [if_pos (by omega),te (by omega),Rb (X6 (f:=qq) (fun _=>NY rfl (NY rfl (NY rfl X7))) S)]
theorem agd {vs cs:List I} (h:vs.length=cs.length):setCells 0 vs cs=vs:=by
 apply List.ext_getElem?;intro j;rw [m' _ _ _ _ (by omega)];by_cases aw:j<vs.length
 ·rw [if_pos ⟨by omega,by omega⟩];simp
 ·rw [if_neg (by omega),uP (by omega),uP (by omega)]
theorem abf {P:Program} {lo a b n:Nat} {H:List ar} {S:List qu} {cells:List I} {cap:Option Nat} {e:TypeId} {ts:Array TypeId} (e1:(ts[0]?).bind P.underlying=some (.slice e)) (b':bF P e=some 3) (bD:lo≤a)
  (af:H[b]?=some (Iz S)) (aI:S.length=n) (cu:H[a]?=some (.cells cells)) (ak:cells.length=n*3):j_ P lo ts H [.ref a 0 n (some n) 3,.ref b 0 n cap 3]=some (.int .i64 (n:Int),H.set a (Iz S)):=by
 have ao:(S.flatMap qq).length=S.length*3:=HX qq 3 (fun _=>rfl) S;have cI:=Xi (cap:=cap) af aI;unfold j_;simp only [e1,b',lenOf,cI,fS,cu,if_pos bD];rw [if_pos ⟨trivial,by omega⟩,if_pos (by omega),Nat.min_self,te (by omega),agd (by omega)];rfl
theorem Um {S:List qu} {H:List ar} {id n d:Nat} {cap:Option Nat} (aE:id<H.length) (ag:H[id]?=some (Iz S)) (aI:S.length=n):bM H 0 H.length 0 (d+2) (.ref id 0 n cap 3)=some (.av (S.flatMap qq) n (e3 cap n)):=by
 show (if id<0 then some (I.ref id 0 n cap 3) else if id=H.length then some (.ref 0 0 n cap 3) else match rowOf H (.ref id 0 n cap 3) with | some row=>(ea (bM H 0 H.length 0 (d+1)) row).map fun cs=>.av cs n (e3 cap n) | none=>none)=_;rw [if_neg (by omega),if_neg (by omega),Xi ag aI];have l0:ea (bM H 0 H.length 0 (d+1)) (S.flatMap qq)=some (S.flatMap qq):=zU fun u hu=>by
  obtain ⟨x,_,aj⟩:=List.mem_flatMap.1 hu;simp only [qq,sA,tQ,or_false] at aj;rcases aj with rfl | rfl | rfl <;> rfl
 simp only [l0,Option.map_some]
theorem agx {H2:List ar} {L:List qu} (fq:L.length≤12) {Sg:I} {Q:cQ→List I→List ar→Prop}
  (bp:∀ T H,HV [.tmp 4,.tmp 5] (.tuple [.av ((r4 L).flatMap qq) (r4 L).length .shared,h0 0]) .ret T H→Q .ret T H) :
  dQ Tryz.prog Ol 23 0 none Ly (qc 37 [(4,.av [] 0 (.uniq 3)),(5,h0 0),(7,h0 0),(8,.ref H2.length 0 L.length none 3),(18,Sg),(27,.ref H2.length 0 L.length none 3)]) (H2++[Iz L]) Q:=by
 have DG:(r4 L).length=L.length:=Xz L;unfold Ly;obtain ⟨a9,ca⟩:∃ c,NH=c:=⟨_,rfl⟩;rw [ca];conv=>whnf
 refine ⟨_,_,rq (agi (sE _) rfl fq (IP _ _)),?_⟩;rw [HT];conv=>whnf
 subst ca;unfold NH Rz;conv=>whnf
 refine ⟨by omega,sR _,by omega,?_⟩;conv=>whnf
 rw [tp];refine ⟨_,_,fun C=>(VY rfl).trans (abf (e:=62) (S:=r4 L) (by kernel_rfl) (by kernel_rfl) (sE _) (by exact UD (IP _ _)) DG (IP _ _) (afV _)),?_⟩;conv=>whnf
 rw [HT];refine bp _ _ ⟨.inr rfl,[.ref (H2++[Iz (r4 L)]).length 0 L.length (some L.length) 3,h0 0],rfl,_,M' (rF (Um (S:=r4 L) (by simp) (IP _ _) DG) (rF (yW rfl) IG)),?_⟩;have e1:e3 (some L.length) L.length=.full:=by simp [e3]
 rw [e1,DG];rfl
theorem abg {P:Program} {lo a:Nat} {H:List ar} {cap:Option Nat} {c:hE} {e:TypeId} {ts:Array TypeId} (e1:(ts[0]?).bind P.underlying=some (.slice e)) (b':bF P e=some 3) (bD:lo≤a) (cu:H[a]?=some (.cells [])):j_ P lo ts H [.ref a 0 0 cap 3,.av [] 0 c]=some (.int .i64 0,H.set a (.cells [])):=by
 unfold j_;simp only [e1,b',lenOf,rowOf,fS,cu,if_pos bD];rfl
theorem agy {H2:List ar} {Sg:I} {Q:cQ→List I→List ar→Prop}
  (bp:∀ T H,HV [.tmp 4,.tmp 5] (.tuple [.av (([]:List qu).flatMap qq) ([]:List qu).length .shared,h0 0]) .ret T H→Q .ret T H) :
  dQ Tryz.prog Ol 23 0 none Ly (qc 37 [(4,.av [] 0 (.uniq 3)),(5,h0 0),(7,h0 0),(8,.av [] 0 (.uniq 3)),(18,Sg),(27,.av [] 0 .shared)]) H2 Q:=by
 unfold Ly;obtain ⟨a9,ca⟩:∃ c,NH=c:=⟨_,rfl⟩;rw [ca];conv=>whnf
 refine ⟨_,_,rq agj,?_⟩;conv=>whnf
 subst ca;unfold NH Rz;conv=>whnf
 refine ⟨by omega,sR _,by omega,?_⟩;conv=>whnf
 refine ⟨_,_,fun C=>(VY rfl).trans (abg (e:=62) (a:=H2.length) (by kernel_rfl) (by kernel_rfl) (sE _) (IP _ _)),?_⟩;conv=>whnf
 rw [HT];refine bp _ _ ⟨.inr rfl,[.ref H2.length 0 0 (some 0) 3,h0 0],rfl,_,M' (rF (Um (S:=[]) (by simp) (IP _ _) rfl) (rF (yW rfl) IG)),rfl⟩
theorem Yf {p:qb} {order:List Int} {v:List qu×Int} (h:KK p order=some v):qw 23 [.agg [.av (p.1.flatMap p7) p.1.length .shared,h0 p.2.1,h0 p.2.2],.av (order.map h0) order.length .shared] (.tuple [.av (v.1.flatMap qq) v.1.length .shared,h0 v.2]):=by
 unfold KK at h;obtain ⟨⟨aS,bj⟩,ai,h⟩:=p8 h;refine qL eG ac7 rfl (Je (p6 (Hx (fun _=>p6 rfl (p6 rfl (p6 rfl rfl))) _ _ _) (p6 rfl rfl))) fun Q bp=>?_;have jJ:∀ T H,HV [.tmp 4,.tmp 5] (.tuple [.av (v.1.flatMap qq) v.1.length .shared,h0 v.2]) .ret T H→Q .ret T H:=fun T H bE=>bp _ T H bE;unfold WD WG WE;obtain ⟨bt,eS⟩:∃ c,RA=c:=⟨_,rfl⟩;rw [eS];conv=>whnf
 refine ⟨rfl,?_⟩;conv=>whnf
 rcases aS with _ | b
 ·refine ⟨_,_,aaQ ai,?_⟩;conv=>whnf
  refine bs h (fun af h=>?_) fun af h=>?_
  ·rw [af];(conv=>whnf);obtain rfl:=Option.some.inj h;exact jJ _ _ (Il rfl rfl)
  ·cases h
 ·obtain ⟨rfl,rfl,_⟩:=N3 ai;refine ⟨_,_,aaS ai,?_⟩;obtain ⟨l1,ab,h⟩:=p8 h;obtain ⟨l2,ae,h⟩:=p8 h;obtain ⟨aI,h⟩:=rR h;obtain rfl:=Option.some.inj h;obtain ⟨H1,aJ,Da,f1,e1,s1⟩:=Yx ab (m:=0) (lo:=0) (sc 0) (abD (p,()));obtain ⟨H2,aN,pO,f2,b',s2⟩:=Yx ae (m:=0) (lo:=0) (sc 0) f1;have bn:=abb (l1:=l1) (l2:=l2) (H:=H2) (lo:=0) (by omega);subst eS;unfold RA;by_cases he:(l1++l2).length≠0
  ·rcases Da with rfl | rfl | rfl <;> rcases pO with rfl | rfl | rfl
   all_goals
    obtain ⟨a9,ca⟩:∃ c,Ly=c:=⟨_,rfl⟩;rw [ca];(conv=>whnf);refine ⟨_,_,rq s1,?_⟩;(conv=>whnf);refine ⟨_,_,rq s2,?_⟩;(conv=>whnf);refine ⟨_,_,rq bn,?_⟩;(conv=>whnf);refine .inl ⟨he,?_⟩;(conv=>whnf);subst ca;exact agx (H2:=H2) (L:=l1++l2) (by simp;omega) jJ
  ·(have aiC:l1.length+l2.length=0:=by simp at he;simp [he]);obtain rfl:=sP.1 (show l1.length=0 by omega);obtain rfl:=sP.1 (show l2.length=0 by omega);rcases Da with rfl | rfl | rfl <;> rcases pO with rfl | rfl | rfl
   all_goals
    obtain ⟨a9,ca⟩:∃ c,Ly=c:=⟨_,rfl⟩;rw [ca];(conv=>whnf);refine ⟨_,_,rq s1,?_⟩;(conv=>whnf);refine ⟨_,_,rq s2,?_⟩;(conv=>whnf);refine ⟨_,_,rq bn,?_⟩;(conv=>whnf);refine .inr ⟨rfl,?_⟩;(conv=>whnf);subst ca;exact agy (H2:=H2) jJ
end Go.Proofs.YtkoioidpbbbaiaaGreat.Ab


namespace Go.Proofs.YtkoioidpbbbaiaaGreat.Ab
open Go
set_option maxRecDepth 20000
set_option maxHeartbeats 1000000
theorem Uv (S:List qu) (j k:Nat) (c:qu) (aw:j<S.length):qU (S.set j c) k=if k=j then c else qU S k:=by
 unfold qU ix;rw [tp,sw,tC,sw];by_cases e:j=k
 ·subst e;simp [aw]
 ·rw [if_neg e,if_neg (Ne.symm e)]
theorem abH {S:List qu} {j:Nat} (aw:j+1<S.length) (k:Nat):qU (Kf S j) k=if k=j then qU S (j+1) else if k=j+1 then qU S j else qU S k:=by
 unfold Kf;rw [Uv _ _ _ _ (by simp;omega),Uv _ _ _ _ aw]
theorem agv {S:List qu} {j:Nat} (aw:j+1<S.length):(Kf S j).Perm S:=by
 have:=Sort.perm_set_set S (j+1) j aw (by omega);unfold Kf;have e1:qU S j=S[j]:=rr (by omega);have b':qU S (j+1)=S[j+1]:=rr aw;rw [e1,b'];exact this
theorem UX:∀ (j:Nat) (S:List qu),j<S.length→(∀ c∈S,0≤c.1∧c.1≤1000)→(∀ a b,a<b→b<j→(qU S a).1≤(qU S b).1) →
  (H_ j S).Perm S∧(∀ k,j<k→qU (H_ j S) k=qU S k)∧(∀ a b,a<b→b≤j→(qU (H_ j S) a).1≤(qU (H_ j S) b).1)∧∀ a,a≤j→∃ b,b≤j∧qU (H_ j S) a=qU S b
 | 0,S,_,_,_=>⟨.refl _,fun _ _=>rfl,fun a b ab ae=>by omega,fun a cu=>⟨a,cu,rfl⟩⟩
 | j+1,S,aw,ak,ah=>by
   have hm:∀ k,k<S.length→0≤(qU S k).1∧(qU S k).1≤1000:=fun k al=>ak _ (Jp (by omega));have da:=hm j (by omega);have db:=hm (j+1) aw;unfold H_ Nv;rw [qD (by omega)];by_cases aR:(qU S (j+1)).1-(qU S j).1<0
   ·rw [if_pos (decide_eq_true aR)];have aO:=abH aw;have aB:=agv aw
    obtain ⟨i1,i2,i3,i4⟩:=UX j (Kf S j) (by rw [XJ];omega) (fun c h=>ak c (aB.mem_iff.1 h)) (fun a b ab ae=>by
     rw [aO,aO,if_neg (by omega),if_neg (by omega),if_neg (by omega),if_neg (by omega)]
     exact ah a b ab (by omega))
    refine ⟨i1.trans aB,fun k al=>?_,fun a b ab ae=>?_,fun a cu=>?_⟩
    ·rw [i2 k (by omega),aO,if_neg (by omega),if_neg (by omega)]
    ·by_cases e:b=j+1
     ·subst e;rw [i2 (j+1) (by omega),aO (j+1),if_neg (by omega),if_pos rfl];obtain ⟨c,aF,ba⟩:=i4 a (by omega);rw [ba,aO c];by_cases b':c=j
      ·rw [if_pos b'];omega
      ·rw [if_neg b',if_neg (by omega)];exact ah c j (by omega) (by omega)
     ·exact i3 a b ab (by omega)
    ·by_cases e:a=j+1
     ·subst e;rw [i2 (j+1) (by omega),aO (j+1),if_neg (by omega),if_pos rfl];exact ⟨j,by omega,rfl⟩
     ·obtain ⟨c,aF,ba⟩:=i4 a (by omega);rw [ba,aO c];by_cases b':c=j
      ·rw [if_pos b'];exact ⟨j+1,by omega,rfl⟩
      ·rw [if_neg b',if_neg (by omega)];exact ⟨c,by omega,rfl⟩
   ·rw [if_neg (by simpa using aR)];refine ⟨.refl _,fun _ _=>rfl,fun a b ab ae=>?_,fun a cu=>⟨a,cu,rfl⟩⟩;by_cases e:b=j+1
    ·subst e;by_cases b':a=j
     ·subst b';omega
     ·have:=ah a j (by omega) (by omega);omega
    ·exact ah a b ab (by omega)
theorem UZ:∀ (m i:Nat) (S:List qu),i+m=S.length→(∀ c∈S,0≤c.1∧c.1≤1000)→(∀ a b,a<b→b<i→(qU S a).1≤(qU S b).1) →
  (ID m i S).Perm S∧∀ a b,a<b→b<S.length→(qU (ID m i S) a).1≤(qU (ID m i S) b).1
 | 0,i,S,h,_,ah=>⟨.refl _,fun a b ab ae=>ah a b ab (by omega)⟩
 | m+1,i,S,h,ak,ah=>by
   obtain ⟨i1,_,i3,_⟩:=UX i S (by omega) ak ah;have ao:=i1.length_eq;obtain ⟨dD,dt⟩:=UZ m (i+1) (H_ i S) (by omega) (fun c h=>ak c (i1.mem_iff.1 h)) (fun a b ab ae=>i3 a b ab (by omega));unfold ID;exact ⟨dD.trans i1,fun a b ab ae=>dt a b ab (by omega)⟩
theorem agk {S:List qu} (ak:∀ c∈S,0≤c.1∧c.1≤1000):(r4 S).Perm S∧(r4 S).Pairwise fun a b=>a.1≤b.1:=by
 unfold r4;by_cases aQ:S.length=0
 ·obtain rfl:=sP.1 aQ;exact ⟨.refl _,.nil⟩
 ·obtain ⟨ab,ae⟩:=UZ (S.length-1) 1 S (by omega) ak (fun a b ab ae=>by omega);refine ⟨ab,List.pairwise_iff_getElem.2 fun i j hi aw h_=>?_⟩;have:=ae i j h_ (by rw [←ab.length_eq];exact aw);have e1:∀ k (al:k<(ID (S.length-1) 1 S).length),qU (ID (S.length-1) 1 S) k=(ID (S.length-1) 1 S)[k]:=fun k al=>rr al;rw [e1 i hi,e1 j aw] at this;exact this
theorem VW {n:Int}:∀ {l:List qu} {m:Int},l.Pairwise (fun a b=>a.1<b.1)→(∀ c∈l,m≤c.1∧c.1<n∧qT c.2)→Hv n l m
 | [],_,_,_=>trivial
 | c::r,m,aB,ak=>by
   obtain ⟨ab,ae⟩:=List.pairwise_cons.1 aB;have aF:=ak c (by simp)
   exact ⟨aF.1,aF.2.1,aF.2.2,VW ae fun dU aX=>by
    have:=ab dU aX;have ba:=ak dU (by simp [aX])
    exact ⟨by omega,ba.2⟩⟩
theorem VV {n:Int}:∀ {l:List qu} {m:Int},Hv n l m→∀ c∈l,m≤c.1
 | [],_,_,c,ak=>absurd ak (by simp)
 | c::r,m,h,dU,ak=>by
   rcases sA.1 ak with rfl | aX
   ·exact h.1
   ·have:=VV h.2.2.2 dU aX;have:=h.1;omega
theorem U2 {α:Type} [Inhabited α] {S:List α} {j k:Int} {c:α} (aw:0≤j∧j<(S.length:Int)) (al:0≤k):ix (S.set j.toNat c) k=if k=j then c else ix S k:=by
 unfold ix;rw [sw,tC,sw];by_cases e:k=j
 ·subst e;rw [if_pos rfl,if_pos rfl,if_pos (by omega)];rfl
 ·rw [if_neg (by omega),if_neg e]
theorem R8 {n:Int}:∀ {l:List qu} {S:List qt} {m:Int},Hv n l m→0≤m→(S.length:Int)=n→∀ {j:Int},0≤j→(∀ c∈l,c.1≠j)→ix (rY l S) j=ix S j
 | [],_,_,_,_,_,_,_,_=>rfl
 | c::r,S,m,h,hm,cp,j,aw,ak=>by
   have ab:=h.1;have ae:=h.2.1;unfold rY;rw [R8 h.2.2.2 (by omega) (by simpa using cp) aw fun dU aX=>ak dU (by simp [aX]),U2 (by omega) aw,if_neg fun e=>ak c (by simp) e.symm]
theorem Xq {n:Int}:∀ {l:List qu} {S:List qt} {m:Int},Hv n l m→0≤m→(S.length:Int)=n→∀ {c:qu},c∈l→ix (rY l S) c.1=c.2
 | [],_,_,_,_,_,_,ak=>absurd ak (by simp)
 | c::r,S,m,h,hm,cp,dU,ak=>by
   have ab:=h.1;have ae:=h.2.1;unfold rY;rcases sA.1 ak with rfl | aX
   ·rw [R8 h.2.2.2 (by omega) (by simpa using cp) (by omega) fun a9 ae=>by have:=VV h.2.2.2 a9 ae;omega,U2 (by omega) (by omega),if_pos rfl]
   ·exact Xq h.2.2.2 (by omega) (by simpa using cp) aX
section
variable {p:qb} {o:List Int}
def IV (n a:Nat):Nat→List Int
 | 0=>[]
 | i+1=>if i % 2=a∧0<qG n i then IV n a i++[(i:Int)] else IV n a i
theorem Qx (h:q7 p) (k:qp p.1.length o) {a:Nat}:∀ (m i:Nat),i≤o.length→o.length-i=m→(∀ j,j<i→j % 2=a→¬ JW p o a j) →
  (∃ (j:Nat) (s:qt),Jk (p,()) o (a:Int) ((ql o.length).drop i) i (IV o.length a i)=some (j+1,.inl [(ix o (j:Int),s)])∧j<o.length∧j % 2=a∧qT s∧I8 p o a j s) ∨
  (Jk (p,()) o (a:Int) ((ql o.length).drop i) i (IV o.length a i)=some (o.length,.inr (IV o.length a o.length))∧∀ j,j<o.length→j % 2=a→¬ JW p o a j)
 | 0,i,hi,hm,ft=>by
   (obtain rfl:i=o.length:=by omega);refine .inr ⟨?_,ft⟩;rw [u_ (by rw [KD];omega)];rfl
 | m+1,i,hi,hm,ft=>by
   (have aR:i<o.length:=by omega);have e1:(ql o.length).drop i=(i:Int)::(ql o.length).drop (i+1):=by
    rw [s6 (by rw [KD];omega)];congr 1;rw [←rr,Q7 aR]
   rw [e1,Jk,NV];by_cases a_:i % 2=a
   ·rw [if_neg (by omega)];rcases Yz h k (a:=a) aR with ⟨s,ab,ae,aF⟩ | ⟨ab,ae⟩
    ·refine .inl ⟨i,s,?_,aR,a_,ae,aF⟩;rw [ab,sb,if_pos rfl]
    ·rw [ab,sb,if_neg (by decide),PI (b:=(p,())) (qp.len h k) k.1.symm aR,sb];have b':(if 0<qG o.length i then IV o.length a i++[(i:Int)] else IV o.length a i)=IV o.length a (i+1):=by
      rw [IV];by_cases aB:0<qG o.length i
      ·rw [if_pos aB,if_pos ⟨a_,aB⟩]
      ·rw [if_neg aB,if_neg fun k=>aB k.2]
     rw [b'];refine Qx h k m (i+1) (by omega) (by omega) fun j aw OJ=>?_;by_cases e:j=i
     ·subst e;exact ae
     ·exact ft j (by omega) OJ
   ·rw [if_pos (by omega)];(have b':IV o.length a (i+1)=IV o.length a i:=by rw [IV,if_neg fun k=>a_ k.1]);rw [←b'];refine Qx h k m (i+1) (by omega) (by omega) fun j aw OJ=>?_;by_cases e:j=i
    ·subst e;exact absurd OJ a_
    ·exact ft j (by omega) OJ
structure ZB (p:qb) (o:List Int) (a:Nat) (l:List qu):Prop where
 len:l.length=I7 p o a
 own:∀ c∈l,qT c.2∧∃ i:Nat,i<o.length∧i % 2=a∧c.1=ix o (i:Int)
 VQ:(l.map (·.1)).Nodup
 flat:∀ S':List qt,(∀ i:Nat,i<o.length→i % 2=a→(∀ c∈l,c.1=ix o (i:Int)→qF S' o i=c.2)∧((∀ c∈l,c.1≠ix o (i:Int))→qF S' o i=qF p.1 o i))→∀ d,d=p.2.1∨d=p.2.2→rp S' o a (q3 d)=0
theorem Lu {o:List Int} (h:o.Nodup) {i j:Nat} (hi:i<o.length) (aw:j<o.length) (e:ix o (i:Int)=ix o (j:Int)):i=j:=by
 rw [rr hi,rr aw] at e;exact (List.getElem_inj h).1 e
theorem aes (S:List qt) (o:List Int) {a i:Nat} (f:qt→Int) (hi:i<o.length) (cu:i % 2=a):rp S o a f=qN S o a [(i:Int)] f+qG o.length i*f (qF S o i):=by
 unfold rp qN;have key:∀ m,qM m (fun j=>if j % 2=a then qG o.length j*f (qF S o j) else 0)=qM m (fun j=>if j % 2=a∧(j:Int) ∉ [(i:Int)] then qG o.length j*f (qF S o j) else 0)+if i<m then qG o.length i*f (qF S o i) else 0:=by
  intro m
  induction m with
  | zero=>simp [qM]
  | succ m a8 =>
    simp only [qM];rw [a8];by_cases e:m=i
    ·subst e;rw [if_neg (show ¬ m<m by omega),if_pos cu,if_neg (by simp),if_pos (show m<m+1 by omega)]
    ·have dA:(m % 2=a∧(m:Int) ∉ [(i:Int)])↔m % 2=a:=⟨fun h=>h.1,fun h=>⟨h,by simp;omega⟩⟩;(have l0:i<m+1↔i<m:=by omega);simp only [dA,l0];omega
 rw [key,if_pos hi]
theorem aem {S S':List qt} {o:List Int} {a i:Nat} {f:qt→Int} (h:∀ j,j<o.length→j % 2=a→j≠i→qF S' o j=qF S o j):qN S' o a [(i:Int)] f=qN S o a [(i:Int)] f:=by
 unfold qN;refine KC fun j aw=>?_;by_cases a_:j % 2=a∧(j:Int) ∉ [(i:Int)]
 ·rw [if_pos a_,if_pos a_,h j aw a_.1 fun e=>a_.2 (by rw [e];simp)]
 ·rw [if_neg a_,if_neg a_]
theorem aeo {S S':List qt} {o:List Int} {a:Nat} {f:qt→Int} (h:∀ j,j<o.length→j % 2=a→qF S' o j=qF S o j):rp S' o a f=rp S o a f:=by
 unfold rp;refine KC fun j aw=>?_;by_cases a_:j % 2=a
 ·rw [if_pos a_,if_pos a_,h j aw a_]
 ·rw [if_neg a_,if_neg a_]
theorem ael {S:List qt} {o:List Int} {f:qt→Int} (aI:o.length=7):rp S o 0 f=-3*f (qF S o 0)-f (qF S o 2)+f (qF S o 4)+3*f (qF S o 6):=by
 unfold rp;rw [aI];simp [qM,qG];omega
theorem VL {S:List qt} {o:List Int} {f:qt→Int} (aI:o.length=3):rp S o 1 f=0:=by
 unfold rp;rw [aI];simp [qM,qG]
theorem VJ {S:List qt} {o:List Int} {a i:Nat} {f:qt→Int} (h:(o.length=3∧a=0∧i=2)∨(o.length=5∧a=0∧i=4)∨(o.length=5∧a=1∧i=3)∨(o.length=7∧a=1∧i=5)) :
  qN S o a [(i:Int)] f+qG o.length i*f (qF S o (o.length-1-i))=0:=by
 rcases h with ⟨aI,rfl,rfl⟩ | ⟨aI,rfl,rfl⟩ | ⟨aI,rfl,rfl⟩ | ⟨aI,rfl,rfl⟩
 ·unfold qN;rw [aI];simp [qM,qG];try omega
 ·unfold qN;rw [aI];simp [qM,qG];try omega
 ·unfold qN;rw [aI];simp [qM,qG];try omega
 ·unfold qN;rw [aI];simp [qM,qG];try omega
theorem aei (h:q7 p) (k:qp p.1.length o) {a i:Nat} (hi:(o.length=3∧a=0∧i=2)∨(o.length=5∧a=0∧i=4)∨(o.length=5∧a=1∧i=3)∨(o.length=7∧a=1∧i=5)):i<o.length∧i % 2=a∧JW p o a i :=
 ⟨by omega,by omega,Ov.2 ⟨_,IZ h.s (Hw k) (i:=o.length-1-i) (by omega),VJ hi,VJ hi⟩⟩
theorem Yw (h:q7 p) (k:qp p.1.length o) {a:Nat} (cu:a<2):∃ l,KS (p,()) o (a:Int)=some l∧ZB p o a l:=by
 have acp:=qp.Vo h k;have aI:=h.n;rw [←k.1] at aI;unfold KS;rw [qC (by omega),YA h k,sb];by_cases aP:Iq p o a
 ·rw [if_pos (decide_eq_true aP)];refine ⟨[],rfl,⟨by unfold I7;rw [if_pos aP];rfl,fun c ak=>absurd ak (by simp),by simp,fun S' pk d a1=>?_⟩⟩;rw [aeo fun j aw a_=>(pk j aw a_).2 (by simp)];rcases a1 with rfl | rfl
  ·exact aP.1
  ·exact aP.2
 ·rw [if_neg (by simpa using aP)];rcases Qx h k (a:=a) o.length 0 (by omega) rfl (fun j aw=>absurd aw (by omega)) with ⟨i,s,ab,ae,aF,ba,bP⟩ | ⟨ab,ae⟩
  ·have iR:Jk (p,()) o (a:Int) (ql o.length) 0 []=_:=ab;rw [iR,sb];refine ⟨_,rfl,⟨?_,?_,by simp,?_⟩⟩
   ·unfold I7;rw [if_neg aP,if_pos ⟨i,ae,aF,Ov.2 ⟨s,ba,bP⟩⟩];rfl
   ·intro c ak;obtain rfl:=sT.1 ak;exact ⟨ba,i,ae,aF,rfl⟩
   ·intro S' pk d a1
    rw [aes S' o _ ae aF,(pk i ae aF).1 (ix o (i:Int),s) (by simp) rfl,aem fun j aw a_ bJ=>(pk j aw a_).2 fun c ak=>by
     obtain rfl:=sT.1 ak
     exact fun e=>bJ (Lu k.2.1 ae aw e).symm]
    rcases a1 with rfl | rfl
    ·exact bP.1
    ·exact bP.2
  ·have iR:Jk (p,()) o (a:Int) (ql o.length) 0 []=_:=ab;rw [iR,sb];simp only;have cO:o.length=7∧a=0:=by
    by_cases e:o.length=7∧a=0
    ·exact e
    ·exfalso;have ft:∀ i,¬ ((o.length=3∧a=0∧i=2)∨(o.length=5∧a=0∧i=4)∨(o.length=5∧a=1∧i=3)∨(o.length=7∧a=1∧i=5)):=fun i hi=>by
      obtain ⟨aJ,aN,cb⟩:=aei h k hi;exact ae i aJ aN cb
     rcases (show a=0∨a=1 by omega) with rfl | rfl <;> rcases aI with aI | aI | aI
     ·exact ft 2 (.inl ⟨aI,rfl,rfl⟩)
     ·exact ft 4 (.inr (.inl ⟨aI,rfl,rfl⟩))
     ·exact e ⟨aI,rfl⟩
     ·exact aP ⟨VL aI,VL aI⟩
     ·exact ft 3 (.inr (.inr (.inl ⟨aI,rfl,rfl⟩)))
     ·exact ft 5 (.inr (.inr (.inr ⟨aI,rfl,rfl⟩)))
   obtain ⟨cO,rfl⟩:=cO;have jJ:=Hw k;(have ad:IV o.length 0 o.length=[4,6]:=by rw [cO];decide);(have aiG:p.1.length=7:=by rw [←k.1];exact cO);have w5:Jc (p,()) o [4,6] []=some [(ix o ((4:Nat):Int),qF p.1 o 2),(ix o ((6:Nat):Int),qF p.1 o 0)]:=by
    have hT:=jJ 0 (by omega);have bj:=jJ 2 (by omega);(have agM:w (w (((7:Nat):Int)-1)-4)=((2:Nat):Int):=by rw [qD (n:=((7:Nat):Int)-1) (by omega),qD (by omega)];omega);(have w0:w (w (((7:Nat):Int)-1)-6)=((0:Nat):Int):=by rw [qD (n:=((7:Nat):Int)-1) (by omega),qD (by omega)];omega);have s1:∀ out,Jc (p,()) o [4,6] out=Jc (p,()) o [6] (out++[(ix o ((4:Nat):Int),qF p.1 o 2)]):=fun out=>by
     rw [Jc,cO,qC (by omega),agM,qC (by omega),qC bj];rfl
    have s2:∀ out,Jc (p,()) o [6] out=some (out++[(ix o ((6:Nat):Int),qF p.1 o 0)]):=fun out=>by
     rw [Jc.eq_2,cO,qC (by omega),w0,qC (by omega),qC hT];rfl
    rw [s1,s2];rfl
   rw [ad,w5];have acv:ix o ((4:Nat):Int)≠ix o ((6:Nat):Int):=fun e=>absurd (Lu k.2.1 (by omega) (by omega) e) (by decide);refine ⟨_,rfl,⟨?_,?_,?_,?_⟩⟩
   ·unfold I7;rw [if_neg aP,if_neg (by rintro ⟨i,aJ,aN,cb⟩;exact ae i aJ aN cb)];rfl
   ·intro c ak;rcases sA.1 ak with rfl | ak
    ·exact ⟨IZ h.s jJ (by omega),4,by omega,rfl,rfl⟩
    ·obtain rfl:=sT.1 ak;exact ⟨IZ h.s jJ (by omega),6,by omega,rfl,rfl⟩
   ·simp only [sG,uy,List.nodup_cons,sT,tQ,not_false_eq_true,List.nodup_nil,and_true];exact acv
   ·intro S' pk d _;rw [ael cO];rw [(pk 4 (by omega) rfl).1 (ix o ((4:Nat):Int),qF p.1 o 2) (by simp) rfl,(pk 6 (by omega) rfl).1 (ix o ((6:Nat):Int),qF p.1 o 0) (by simp) rfl];have ft:∀ j:Nat,j<7→j≠4→j≠6→∀ c∈[(ix o ((4:Nat):Int),qF p.1 o 2),(ix o ((6:Nat):Int),qF p.1 o 0)],c.1≠ix o (j:Int):=by
     intro j aw ba bQ c ak e;rcases sA.1 ak with rfl | ak
     ·exact ba (Lu k.2.1 (by omega) (by omega) e).symm
     ·obtain rfl:=sT.1 ak;exact bQ (Lu k.2.1 (by omega) (by omega) e).symm
    rw [(pk 0 (by omega) rfl).2 (ft 0 (by omega) (by omega) (by omega)),(pk 2 (by omega) rfl).2 (ft 2 (by omega) (by omega) (by omega))];simp only;omega
theorem abl {q:qb} {o:List Int}:qx q o=0↔Iq q o 0∧Iq q o 1:=by
 unfold qx Hr Iq;generalize qA q o 0 q.2.1=a;generalize qA q o 0 q.2.2=b;generalize qA q o 1 q.2.1=c;generalize qA q o 1 q.2.2=d;omega
theorem Ye (aB:p.1.length≤1000) (ao:o.length≤12):∃ l,KK p o=some (if rU p o=0 then (l,0) else ([],rU p o))∧(rU p o=0→l.length=I7 p o 0+I7 p o 1∧Hv p.1.length l 0∧qx (rY l p.1,p.2) o=0):=by
 unfold KK;rw [PC aB ao,sb];by_cases HF:rU p o=0
 ·rw [if_pos HF];obtain ⟨h,k⟩:=Lv.1 HF;obtain ⟨cy,gb,g9⟩:=Yw h k (a:=0) (by omega);obtain ⟨l1,e1,a7⟩:=Yw h k (a:=1) (by omega);have abr:KS (p,()) o 0=some cy:=gb;have abt:KS (p,()) o 1=some l1:=e1;have de:=Ub p o 0;have bm:=Ub p o 1;have aiJ:=g9.len;have b7:=a7.len;have J9:=h.len;simp only;rw [abr,sb,abt,sb,qC (by omega)];refine ⟨r4 (cy++l1),by rw [if_pos HF],fun _=>?_⟩;have nR:∀ c∈cy++l1,qT c.2∧0≤c.1∧c.1<(p.1.length:Int):=by
   intro c ak;rcases tf.1 ak with ak | ak
   ·obtain ⟨aJ,i,aN,_,hq⟩:=g9.own c ak;rw [hq];exact ⟨aJ,Hw k i aN⟩
   ·obtain ⟨aJ,i,aN,_,hq⟩:=a7.own c ak;rw [hq];exact ⟨aJ,Hw k i aN⟩
  obtain ⟨s1,s2⟩:=agk (S:=cy++l1) fun c ak=>by have:=nR c ak;omega
  have acd:∀ c∈cy,∀ dU∈l1,c.1≠dU.1:=by
   intro c ak dU J7 e;obtain ⟨_,i,aN,cb,hq⟩:=g9.own c ak;obtain ⟨_,j,db,j4,k5⟩:=a7.own dU J7;have:=Lu k.2.1 aN db (by rw [←hq,←k5];exact e);omega
  have jV:((r4 (cy++l1)).map (·.1)).Nodup:=by
   refine ((s1.map (·.1)).nodup_iff).2 ?_;rw [sO,List.nodup_append];refine ⟨g9.VQ,a7.VQ,fun x aj y aY e=>?_⟩;obtain ⟨c,ak,rfl⟩:=sC.1 aj;obtain ⟨dU,J7,rfl⟩:=sC.1 aY;exact acd c ak dU J7 e
  have Q3:Hv p.1.length (r4 (cy++l1)) 0:=by
   (refine VW ?_ fun c ak=>by have:=nR c (s1.mem_iff.1 ak);exact ⟨this.2.1,this.2.2,this.1⟩);have acu:=List.pairwise_map.1 jV;exact (s2.and acu).imp fun h=>by omega
  refine ⟨by rw [Xz,sy];omega,Q3,?_⟩;rw [abl];have w5:∀ i:Nat,i<o.length→(∀ c∈r4 (cy++l1),c.1≠ix o (i:Int))→qF (rY (r4 (cy++l1)) p.1) o i=qF p.1 o i:=fun i hi ak =>
   R8 Q3 (sR _) rfl (Hw k i hi).1 ak
  have hg:∀ i:Nat,∀ c∈r4 (cy++l1),c.1=ix o (i:Int)→qF (rY (r4 (cy++l1)) p.1) o i=c.2:=fun i c ak e=>by
   have:=Xq Q3 (sR _) (S:=p.1) rfl ak;rw [e] at this;exact this
  have f0:=g9.flat (rY (r4 (cy++l1)) p.1) fun i hi a_=>⟨fun c ak=>hg i c (s1.mem_iff.2 (tf.2 (.inl ak))),fun ft=>w5 i hi fun c ak=>by
   rcases tf.1 (s1.mem_iff.1 ak) with ak | ak
   ·exact ft c ak
   ·obtain ⟨_,j,db,j4,k5⟩:=a7.own c ak;intro e;have:=Lu k.2.1 db hi (by rw [←k5];exact e)
    omega⟩
  have f1:=a7.flat (rY (r4 (cy++l1)) p.1) fun i hi a_=>⟨fun c ak=>hg i c (s1.mem_iff.2 (tf.2 (.inr ak))),fun ft=>w5 i hi fun c ak=>by
   rcases tf.1 (s1.mem_iff.1 ak) with ak | ak
   ·obtain ⟨_,j,db,j4,k5⟩:=g9.own c ak;intro e;have:=Lu k.2.1 db hi (by rw [←k5];exact e);omega
   ·exact ft c ak⟩
  exact ⟨⟨f0 _ (.inl rfl),f0 _ (.inr rfl)⟩,f1 _ (.inl rfl),f1 _ (.inr rfl)⟩
 ·rw [if_neg HF];simp only;rw [if_pos (by simpa using HF)];exact ⟨[],by rw [if_neg HF],fun h=>absurd h HF⟩
end
end Go.Proofs.YtkoioidpbbbaiaaGreat.Ab


namespace Go.Proofs.YtkoioidpbbbaiaaGreat.Ab
open Go
set_option maxRecDepth 20000
set_option maxHeartbeats 4000000
def Yj (rD:Int) (qa:p9→Option p9):Nat→p9→Int→Option p9
 | 0,_,_=>none
 | m+1,s1,s2 =>
   if (decide (s2<rD))=true then
    qk ((s1.length+1)*8≤140737488355328) <|
    Yj rD qa m (s1++[s2]) (w (s2+(1:Int)))
   else
    qa s1
def Yi (rD:Int):Option p9 :=
 Yj rD (fun yn =>
   some yn) qj ([]:List Int) (0:Int)

def N8 (order:p9) (s1:Int) (q6:Int→Option p9):Nat→Int→Int→Option p9
 | 0,_,_=>none
 | m+1,s2,dk =>
   if (decide (dk<(order.length:Int)))=true then
    qk (0≤dk∧dk<(order.length:Int)) <|
    qk (0≤s1∧s1<(order.length:Int)) <|
    if (decide ((ix order s1)<(ix order dk)))=true then
     if (decide (s2<(0:Int)))=true then
      qk (0≤dk∧dk<(order.length:Int)) <|
      N8 order s1 q6 m (ix order dk) (w (dk+(1:Int)))
     else
      qk (0≤dk∧dk<(order.length:Int)) <|
      if (decide ((ix order dk)<s2))=true then
       qk (0≤dk∧dk<(order.length:Int)) <|
       N8 order s1 q6 m (ix order dk) (w (dk+(1:Int)))
      else
       N8 order s1 q6 m s2 (w (dk+(1:Int)))
    else
     N8 order s1 q6 m s2 (w (dk+(1:Int)))
   else
    q6 s2
def Sz (order:p9) (Kw:p9→Option p9):Nat→p9→Int→Option p9
 | 0,_,_=>none
 | m+1,G',r5 =>
   if (decide (r5<(order.length:Int)))=true then
    (LW G' r5).bind fun aS =>
    if aS=true then
     Sz order Kw m G' (w (r5+(1:Int)))
    else
     qk ((G'.length+1)*8≤140737488355328) <|
     Sz order Kw m (G'++[r5]) (w (r5+(1:Int)))
   else
    Kw G'
def Yr (order:p9) (qa:Unit→Option p9):Nat→Int→Option p9
 | 0,_=>none
 | m+1,s1 =>
   if (decide ((0:Int)≤s1))=true then
    qk (0≤s1∧s1<(order.length:Int)) <|
    qk (0≤(w (s1+(1:Int)))∧(w (s1+(1:Int)))<(order.length:Int)) <|
    if (decide ((ix order (w (s1+(1:Int))))<(ix order s1)))=true then
     Yr order qa m (w (s1-(1:Int)))
    else
     N8 order s1 (fun yn =>
       qk (0≤s1∧s1≤(order.length:Int)) <|
       qk ((([]:List Int).length+(order.take s1.toNat).length)*8≤140737488355328) <|
       qk (((([]:List Int)++(order.take s1.toNat)).length+1)*8≤140737488355328) <|
       Sz order (fun oT =>
         some oT) qj ((([]:List Int)++(order.take s1.toNat))++[yn]) (0:Int)) qj (-1:Int) (w (s1+(1:Int)))
   else
    qa ()
def N7 (order:p9):Option p9 :=
 Yr order (fun _ =>
   some []) qj (w ((order.length:Int)-(2:Int)))
end Go.Proofs.YtkoioidpbbbaiaaGreat.Ab


namespace Go.Proofs.YtkoioidpbbbaiaaGreat.Ab
open Go
set_option maxRecDepth 20000
set_option maxHeartbeats 1000000
theorem agD (n:Nat):(ql n).length=n:=by simp [ql]
section
variable {o:List Int}
end
end Go.Proofs.YtkoioidpbbbaiaaGreat.Ab


namespace Go.Proofs.YtkoioidpbbbaiaaGreat.Ab
open Go
set_option maxRecDepth 20000
set_option maxHeartbeats 4000000
noncomputable def W':gE :=
 .ov false [p0 7 [.jq 18] .mU]
theorem adm:ey Tryz.prog JL (rf Tryz.prog 16 0) 0=some W':=by kernel_rfl
noncomputable def Xd:gE :=
 .block 1 (.seq (.ov false [p0 19 [.Bs 4] (.zE .one),p0 20 [.jq 7] .mU,p0 21 [.cv (.func 41 [] []),.nc 19,.nc 20] (.call 3),p0 22 [.Bs 21,.cv (.int .i64 0)] (.bin .eql)]) (.cond (.nc 22) (.ov false [p0 23 [.nc 6] (.zE .one),p0 24 [.Bs 23,.cv (.int .i64 1)] (.bin .add),⟨none,[.jq 6,.jq 24],none,none,.st 1⟩]) .skip))
theorem adq:ey Tryz.prog JL (rh Tryz.prog 16 0) 0=some Xd:=by kernel_rfl
def JY (b:qb×Unit) (s:Int) (o:List Int):Option Int:=(Kj b o).bind fun c=>some (if decide (c=0)=true then w (s+1) else s)
def KI (p:qb):Option (Int×Int) :=
 (rN p []).bind fun r=>match r with
 | (none,q)=>if decide (q≠0)=true then some (0,q) else none
 | (some b,q)=>if decide (q≠0)=true then some (0,q) else
   qk (0<b.1.1.length∧b.1.1.length≤7) <|
   (Ir (JY b) (q4 b.1.1.length (ql b.1.1.length)) 0).bind fun n=>some (n,0)
theorem afZ {b:qb×Unit} {o:List Int} {g9:ar} {s t:Int} (ah:JY b s o=some t) {yh fA gv Gi rT HM u8 HN HJ HK HL MB MC MD u16 ME MF MG MH MI MJ I1 MK ML:I} (he:o≠[]) (Y:List ar) :
  ∃ Z,Sem Tryz.prog (.yield [g9,ar.cells [lp b],ar.cells [h0 s]].length) [Hh o] (([g9,ar.cells [lp b],ar.cells [h0 s]]++[ar.loop .ready none 16 [yh,fA,gv,Gi,.ptr 1 0,rT,.ptr 2 0,HM,u8,HN,HJ,HK,HL,MB,MC,MD,u16,ME,MF,MG,MH,MI,MJ,I1,MK,ML] [18] (rf Tryz.prog 16 0) (rh Tryz.prog 16 0) JL])++Y) 0 (.bool true) (([g9,ar.cells [lp b],ar.cells [h0 t]]++[ar.loop .ready none 16 [yh,fA,gv,Gi,.ptr 1 0,rT,.ptr 2 0,HM,u8,HN,HJ,HK,HL,MB,MC,MD,u16,ME,MF,MG,MH,MI,MJ,I1,MK,ML] [18] (rf Tryz.prog 16 0) (rh Tryz.prog 16 0) JL])++(Y++Z)):=by
 refine ⟨[],?_⟩;rw [List.append_nil];obtain ⟨gb,e,rfl⟩:=List.exists_cons_of_ne_nil he;unfold JY at ah;obtain ⟨c,ak,ah⟩:=p8 ah;obtain rfl:=Option.some.inj ah;refine Pj eG adm adq (IC _ _ _) rfl (IF (by simp)) ?_;unfold W';conv=>whnf
 refine ⟨rfl,IC _ _ _,?_⟩;rw [JA];unfold Xd;conv=>whnf
 refine ⟨p6 (Ia b) (p6 (rM (fun _=>rfl) _ _ _) rfl),_,aeQ (N5 ak),?_⟩;conv=>whnf
 cases a1:decide (c=0)
 ·conv=>whnf
  show _∧(([g9,ar.cells [lp b],ar.cells [h0 s]]++[ar.loop .busy none 16 [yh,fA,gv,Gi,.ptr 1 0,rT,.ptr 2 0,HM,u8,HN,HJ,HK,HL,MB,MC,MD,u16,ME,MF,MG,MH,MI,MJ,I1,MK,ML] [18] (rf Tryz.prog 16 0) (rh Tryz.prog 16 0) JL])++Y)[[g9,ar.cells [lp b],ar.cells [h0 s]].length]?=_∧lI ((([g9,ar.cells [lp b],ar.cells [h0 s]]++[ar.loop .busy none 16 [yh,fA,gv,Gi,.ptr 1 0,rT,.ptr 2 0,HM,u8,HN,HJ,HK,HL,MB,MC,MD,u16,ME,MF,MG,MH,MI,MJ,I1,MK,ML] [18] (rf Tryz.prog 16 0) (rh Tryz.prog 16 0) JL])++Y).set [g9,ar.cells [lp b],ar.cells [h0 s]].length _) _;exact ⟨rfl,IC _ _ _,by rw [JA];exact lI.refl _⟩
 ·conv=>whnf
  show _∧(([g9,ar.cells [lp b],ar.cells [h0 (w (s+1))]]++[ar.loop .busy none 16 [yh,fA,gv,Gi,.ptr 1 0,rT,.ptr 2 0,HM,u8,HN,HJ,HK,HL,MB,MC,MD,u16,ME,MF,MG,MH,MI,MJ,I1,MK,ML] [18] (rf Tryz.prog 16 0) (rh Tryz.prog 16 0) JL])++Y)[[g9,ar.cells [lp b],ar.cells [h0 (w (s+1))]].length]?=_∧lI ((([g9,ar.cells [lp b],ar.cells [h0 (w (s+1))]]++[ar.loop .busy none 16 [yh,fA,gv,Gi,.ptr 1 0,rT,.ptr 2 0,HM,u8,HN,HJ,HK,HL,MB,MC,MD,u16,ME,MF,MG,MH,MI,MJ,I1,MK,ML] [18] (rf Tryz.prog 16 0) (rh Tryz.prog 16 0) JL])++Y).set [g9,ar.cells [lp b],ar.cells [h0 (w (s+1))]].length _) _;exact ⟨rfl,IC _ _ _,by rw [JA];exact lI.refl _⟩
theorem Yc {p:qb} {v:Int×Int} (h:KI p=some v):qw 16 [.agg [.av (p.1.flatMap p7) p.1.length .shared,h0 p.2.1,h0 p.2.2]] (.tuple [h0 v.1,h0 v.2]):=by
 unfold KI at h;obtain ⟨⟨aS,bj⟩,ai,h⟩:=p8 h;refine qL eG ac5 rfl (Je (p6 rfl (p6 rfl rfl))) fun Q bp=>?_;have jJ:∀ T H,HV [.tmp 2,.tmp 3] (.tuple [h0 v.1,h0 v.2]) .ret T H→Q .ret T H:=fun T H bE=>bp _ T H bE;unfold Wu Ww Wv;obtain ⟨a7,cf⟩:∃ c,Ru=c:=⟨_,rfl⟩;rw [cf];conv=>whnf
 refine ⟨qi.pl,_,MW ai,?_⟩;rcases aS with _ | b
 ·conv=>whnf
  refine bs h (fun af h=>?_) fun af h=>?_
  ·rw [af];(conv=>whnf);obtain rfl:=Option.some.inj h;exact jJ _ _ (Il rfl rfl)
  ·cases h
 ·conv=>whnf
  refine bs h (fun af h=>?_) fun af h=>?_
  ·rw [af];(conv=>whnf);obtain rfl:=Option.some.inj h;exact jJ _ _ (Il rfl rfl)
  ·rw [af];(conv=>whnf);subst cf;unfold Ru;obtain ⟨⟨Di,Mf⟩,h⟩:=rR h;obtain ⟨n,ao,h⟩:=p8 h;obtain rfl:=Option.some.inj h;obtain ⟨F,Nf,K6,bG⟩:=OE ao;obtain ⟨a9,ca⟩:∃ c,gE.AM (.nc 17) [18] (rf Tryz.prog 16 0) (rh Tryz.prog 16 0)=c:=⟨_,rfl⟩;rw [ca];(conv=>whnf);refine ⟨p6 (Ia b) rfl,_,Sv (b:=b) (v:=()) rfl,?_⟩;(conv=>whnf);subst ca;have pw:[I.bS [lp b]].all (cr 7)=true:=p6 (Ik (p6 (Ia b) rfl)) rfl;refine Xh (f:=Hh) (Xm (b:=b) Mf Di) (fun i=>[ar.cells [.av (p.1.flatMap p7) p.1.length .shared,h0 p.2.1,h0 p.2.2],ar.cells [lp b],ar.cells [h0 (F i)]]) (by exact rfl) (by rw [Nf];exact rfl) (fun _=>rfl) ?_ (rl:=none) (by exact rfl) (Hn:=[ar.cells [.av (p.1.flatMap p7) p.1.length .shared,h0 p.2.1,h0 p.2.2],ar.cells [lp b],ar.cells [h0 n]]) (by rw [K6]) ?_
   ·intro i hi Y;exact afZ (bG i hi) (Q_ Di _ (List.getElem_mem hi)) Y
   ·intro qH;(conv=>whnf);exact jJ _ _ (Il rfl rfl)

noncomputable def YW:gE :=
 p2 [p0 1 [.jq 0] .box,qf 2 0,qf 3 0] (p2 [p0 7 [.nc 1] (.zE (.str 3)),p0 8 [.cv (.func 14 [] []),.nc 7] (.call 3),p1 6 8,qB 9 6 0,p0 10 [.Bs 6] (.ext 1),p1 4 9,p1 5 10] (.seq (p2 [p3 11 5,qy 12 11 0 .neq] (.cond (.nc 12) (p2 [p1 13 5,qf 2 0,p1 3 13] .ret) .skip)) (p2 [p0 14 [.Bs 1] (.zE (.str 3)),p1 15 4,p0 16 [.cv (.func 29 [] []),.nc 14,.nc 15] (.call 3),qB 17 16 0,p0 18 [.Bs 16] (.ext 1),p1 2 17,p1 3 18] .ret)))
theorem adE:qo Tryz.prog Te 12=some (YW,19,[.tmp 2,.tmp 3]):=by kernel_rfl
def KH (p:(qg×(Int×Int))):Option (Int×Int) :=
 (Kh p).bind fun aS =>
 if (decide (aS.2≠(0:Int)))=true then
  some ((0:Int),aS.2)
 else
  (Iw p aS.1).bind fun bj =>
  some (bj.1,bj.2)
theorem X' {p:(qg×(Int×Int))} {v:(Int×Int)} (h:KH p=some v):qw 12 [(.agg [(.av (p.1.flatMap p7) p.1.length .shared),(h0 p.2.1),(h0 p.2.2)])] (.tuple [(h0 v.1),(h0 v.2)]):=by
 refine qL eG adE rfl (Je (p6 rfl (p6 rfl rfl))) fun Q bp=>?_;have jJ:qI [.tmp 2,.tmp 3] Q (fun v=>(.tuple [(h0 v.1),(h0 v.2)])) v:=fun T H bE=>bp _ T H bE;unfold KH at h;unfold YW;conv=>whnf
 obtain ⟨aS,gM,h⟩:=p8 h;refine ⟨qi.pl,_,Sj gM,?_⟩;conv=>whnf
 refine bs h (fun gN h=>?_) fun gN h=>?_
 ·rw [gN];conv=>whnf
  exact p_ h jJ rfl rfl
 ·rw [gN];conv=>whnf
  obtain ⟨bj,qs,h⟩:=p8 h;refine ⟨qi.pl,_,JF qs,?_⟩;conv=>whnf
  exact p_ h jJ rfl rfl

def Sk (p:(qg×(Int×Int))) (qa:p9→Option (p9×Int)):Nat→p9→Int→p9→Option (p9×Int)
 | 0,_,_,_=>none
 | m+1,s1,s2,dk =>
   if (decide ((0:Int)<(dk.length:Int)))=true then
    (Sy p dk).bind fun rm =>
    if (decide (rm<s2))=true then
     (N7 dk).bind fun rZ =>
     Sk p qa m dk rm rZ
    else
     (N7 dk).bind fun rO =>
     Sk p qa m s1 s2 rO
   else
    qa s1
def Ya (p:(qg×(Int×Int))):Option (p9×Int) :=
 (JG p).bind fun aS =>
 if (decide (aS≠(0:Int)))=true then
  (JG p).bind fun bj =>
  some ([],bj)
 else
  (Yi (p.1.length:Int)).bind fun eK =>
  (Sy p eK).bind fun q5 =>
  (N7 eK).bind fun q8 =>
  Sk p (fun yn =>
    some (yn,(0:Int))) qj eK q5 q8

def ahb (p:(qg×(Int×Int))):Option (Int×Int) :=
 (Ya p).bind fun aS =>
 if (decide (aS.2≠(0:Int)))=true then
  some ((0:Int),aS.2)
 else
  (KM p aS.1).bind fun bj =>
  some (bj,(0:Int))

def Sl (p:(qg×(Int×Int))) (qa:Int→Option (Int×Int)):Nat→Int→p9→Option (Int×Int)
 | 0,_,_=>none
 | m+1,s1,s2 =>
   if (decide ((0:Int)<(s2.length:Int)))=true then
    (Sy p s2).bind fun q5 =>
    if (decide (q5=(0:Int)))=true then
     (N7 s2).bind fun q8 =>
     Sl p qa m (w (s1+(1:Int))) q8
    else
     (N7 s2).bind fun rm =>
     Sl p qa m s1 rm
   else
    qa s1
def ahc (p:(qg×(Int×Int))):Option (Int×Int) :=
 (JG p).bind fun aS =>
 if (decide (aS≠(0:Int)))=true then
  (JG p).bind fun bj =>
  some ((0:Int),bj)
 else
  (Yi (p.1.length:Int)).bind fun eK =>
  Sl p (fun yn =>
    some (yn,(0:Int))) qj (0:Int) eK
end Go.Proofs.YtkoioidpbbbaiaaGreat.Ab
