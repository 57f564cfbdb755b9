
import Derived.Test.YtkoioidpbbbaiaaGreatJe5
import Derived.Test.YtkoioidpbbbaiaaGreatJe6
import Derived.KernelRfl
import Derived.Test.YtkoioidpbbbaiaaGreatProg
set_option linter.unusedSimpArgs false
set_option linter.unusedVariables false
set_option linter.unusedSectionVars false

open Bool renaming and_eq_true→sn,and_self→tV,and_true→tt,eq_iff_iff→vB
open Int renaming le_refl→sU,toNat_natCast→tp
open List renaming all_cons→tz,all_nil→tY,append_assoc→sx,append_nil→sM,drop_eq_getElem_cons→s0,drop_of_length_le→u_,drop_zero→tq,flatMap_append→ug,getD_eq_getElem?_getD→sw,getElem?_append→sq,getElem?_append_left→sg,getElem?_eq_none→uN,getElem?_eq_some_iff→sa,getElem?_set→tE,getElem?_set_ne→sd,getElem?_set_self→sj,getElem_mem→tN,length_append→sA,length_eq_zero_iff→sO,length_set→sV,map_append→sP,map_cons→sG,map_nil→uz,mem_append→tf,mem_cons→sB,mem_filter→ta,mem_map→sD,mem_map_of_mem→td,mem_of_getElem?→sv,mem_singleton→sS,not_mem_nil→tP,take_of_length_le→te,take_succ_eq_append_getElem→uZ
open Nat renaming ble_eq_true_of_le→tj,le_refl→sc,lt_succ_self→sE,zero_add→sy,zero_le→sC
open Option renaming bind_some→sb
namespace Go.Proofs.YtkoioidpbbbaiaaGreat.Ab
open Go
set_option maxRecDepth 20000
set_option maxHeartbeats 4000000
noncomputable def YI:gE :=
 p2 [p0 2 [.jq 0] .box,qd 4 0,qd 5 0] (p2 [p0 9 [.Bs 2] (.zE (.str 3)),p3 10 1,p0 11 [.Bs 10] (.yB 1 1 [.av [] 0 .full] [0]),p0 12 [.cv (.func 40 [] []),.nc 9,.nc 11] (.call 3),p1 8 12,qJ 13 8 0,p0 14 [.Bs 8] (.ext 1),p1 6 13,p1 7 14] (.seq (p2 [p3 15 7,qw 16 15 0 .neq] (.cond (.nc 16) (p2 [p1 17 7,qd 4 0,p1 5 17] .ret) .skip)) (p2 [p1 18 6,p1 19 1,p0 20 [.cv (.func 41 [] []),.nc 18,.nc 19] (.call 3),p1 4 20,qd 5 0] .ret)))
theorem adI:ql Tryz.prog S1 29=some (YI,21,[.tmp 4,.tmp 5]):=by kernel_rfl
def I6 (p:(qk×(Int×Int))) (order:p9):Option (Int×Int) :=
 (rI p [order]).bind fun aS =>
 match aS with
 | (none,q1) =>
   if (decide (q1≠(0:Int)))=true then
    some ((0:Int),q1)
   else
    none
 | (some bU,q1) =>
   if (decide (q1≠(0:Int)))=true then
    some ((0:Int),q1)
   else
    (J2 (bU.1,()) order).bind fun bj =>
    some (bj,(0:Int))
theorem M7 {p:(qk×(Int×Int))} {order:p9} {v:(Int×Int)} (h:I6 p order=some v):qx 29 [(.agg [(.av (p.1.flatMap p7) p.1.length .shared),(h0 p.2.1),(h0 p.2.2)]),(.av (order.map h0) order.length .shared)] (.tuple [(h0 v.1),(h0 v.2)]):=by
 refine qK eG adI rfl (I4 (p6 rfl (p6 rfl rfl))) fun Q bp=>?_;have jJ:qH [.tmp 4,.tmp 5] Q (fun v=>(.tuple [(h0 v.1),(h0 v.2)])) v:=fun T H bE=>bp _ T H bE;unfold I6 at h;unfold YI;conv=>whnf
 obtain ⟨aS,gM,h⟩:=p' h;rcases aS with ⟨_ | bU,q1⟩
 ·refine ⟨(p6 (HU (p6 (Hy (fun _=>(p6 rfl (p6 rfl rfl))) _ _ _) (p6 rfl (p6 rfl rfl)))) (p6 (N1 (p6 (rC (fun _=>rfl) _ _ _) rfl)) rfl)),_,Mb gM,?_⟩;conv=>whnf
  refine bs h (fun gN h=>?_) fun gN h=>?_
  ·rw [gN];(conv=>whnf);exact qe h jJ rfl rfl
  ·rw [gN];(conv=>whnf);exact rT h
 ·refine ⟨(p6 (HU (p6 (Hy (fun _=>(p6 rfl (p6 rfl rfl))) _ _ _) (p6 rfl (p6 rfl rfl)))) (p6 (N1 (p6 (rC (fun _=>rfl) _ _ _) rfl)) rfl)),_,Mb gM,?_⟩;conv=>whnf
  refine bs h (fun qp h=>?_) fun qp h=>?_
  ·rw [qp];(conv=>whnf);exact qe h jJ rfl rfl
  ·rw [qp];(conv=>whnf);obtain ⟨bj,qI,h⟩:=p' h;refine ⟨qj.pl,_,M' qI,?_⟩;(conv=>whnf);exact qe h jJ rfl rfl

noncomputable def YJ:gE :=
 p2 [p0 3 [.jq 0] .box,qd 6 0,qd 7 0,qd 8 0] (p2 [p0 13 [.nc 3] (.zE (.str 3)),p3 14 1,p0 15 [.Bs 14] (.yB 1 1 [.av [] 0 .full] [0]),p0 16 [.cv (.func 40 [] []),.nc 13,.nc 15] (.call 3),p1 12 16,qJ 17 12 0,p0 18 [.Bs 12] (.ext 1),p1 9 17,p1 10 18] (.seq (.block 0 (p2 [p3 20 10,qw 21 20 0 .neq,p1 19 21] (.cond (.nc 19) (p2 [p1 22 10,qd 6 0,qd 7 0,p1 8 22] .ret) (p2 [p0 24 [.nc 3] (.yM 1),qz 25 24 0,qg 26 25,qz 27 3 1,qz 28 27 1,qg 29 28,p3 30 2,p0 31 [.Bs 30] (.yB 1 1 [.int .i64 0] [0]),p0 32 [.cv (.func 50 [] []),.nc 26,.nc 29,.nc 31] (.call 3),p0 33 [.Bs 32] (.un .not),p1 23 33] (.cond (.nc 23) (p2 [qd 6 0,qd 7 0,qd 8 3] .ret) .skip))))) (p2 [p1 34 9,p1 35 1,p1 36 2,p0 37 [.cv (.func 63 [] []),.nc 34,.nc 35,.nc 36] (.call 3),p0 11 [] (.alloc [.int .i64 0,.int .i64 0]),⟨none,[.nc 11,.jq 37],none,none,.st 2⟩] (.seq (q8 [p0 38 [.nc 11,.cv (.int .i64 0)] (.zu 2 1),qg 39 38,p0 40 [.nc 11,.cv (.int .i64 1)] (.zu 2 1),qg 41 40,p1 6 39,p1 7 41,qd 8 0]) .ret))))
theorem adJ:ql Tryz.prog S2 30=some (YJ,42,[.tmp 6,.tmp 7,.tmp 8]):=by kernel_rfl
def Kr (p:(qk×(Int×Int))) (order:p9) (rh:Int):Option (Int×Int×Int) :=
 (rI p [order]).bind fun aS =>
 match aS with
 | (none,q1) =>
   if (decide (q1≠(0:Int)))=true then
    some ((0:Int),(0:Int),q1)
   else
    (ID p.2.1 p.2.2 [rh]).bind fun bj =>
    if bj=true then
     none
    else
     some ((0:Int),(0:Int),(3:Int))
 | (some bU,q1) =>
   if (decide (q1≠(0:Int)))=true then
    some ((0:Int),(0:Int),q1)
   else
    (ID p.2.1 p.2.2 [rh]).bind fun eK =>
    if eK=true then
     (Lh (bU.1,()) order rh).bind fun r0 =>
     some (r0.1,r0.2,(0:Int))
    else
     some ((0:Int),(0:Int),(3:Int))
theorem X6 {p:(qk×(Int×Int))} {order:p9} {rh:Int} {v:(Int×Int×Int)} (h:Kr p order rh=some v):qx 30 [(.agg [(.av (p.1.flatMap p7) p.1.length .shared),(h0 p.2.1),(h0 p.2.2)]),(.av (order.map h0) order.length .shared),(h0 rh)] (.tuple [(h0 v.1),(h0 v.2.1),(h0 v.2.2)]):=by
 refine qK eG adJ rfl (I4 (p6 rfl (p6 rfl (p6 rfl rfl)))) fun Q bp=>?_;have jJ:qH [.tmp 6,.tmp 7,.tmp 8] Q (fun v=>(.tuple [(h0 v.1),(h0 v.2.1),(h0 v.2.2)])) v:=fun T H bE=>bp _ T H bE;unfold Kr at h;unfold YJ;conv=>whnf
 obtain ⟨aS,gM,h⟩:=p' h;rcases aS with ⟨_ | bU,q1⟩
 ·refine ⟨(p6 (HU (p6 (Hy (fun _=>(p6 rfl (p6 rfl rfl))) _ _ _) (p6 rfl (p6 rfl rfl)))) (p6 (N1 (p6 (rC (fun _=>rfl) _ _ _) rfl)) rfl)),_,Mb gM,?_⟩;conv=>whnf
  refine bs h (fun gN h=>?_) fun gN h=>?_
  ·rw [gN];(conv=>whnf);exact qe h jJ rfl rfl
  ·rw [gN];(conv=>whnf);obtain ⟨bj,qp,h⟩:=p' h;refine ⟨(p6 rfl (p6 rfl (p6 rfl rfl))),_,Kv qp,?_⟩;(conv=>whnf);cases bj
   ·(conv=>whnf);replace h:=Ho rfl h;exact qe h jJ rfl rfl
   ·(conv=>whnf);replace h:=Hp rfl h;exact rT h
 ·refine ⟨(p6 (HU (p6 (Hy (fun _=>(p6 rfl (p6 rfl rfl))) _ _ _) (p6 rfl (p6 rfl rfl)))) (p6 (N1 (p6 (rC (fun _=>rfl) _ _ _) rfl)) rfl)),_,Mb gM,?_⟩;conv=>whnf
  refine bs h (fun qI h=>?_) fun qI h=>?_
  ·rw [qI];(conv=>whnf);exact qe h jJ rfl rfl
  ·rw [qI];(conv=>whnf);obtain ⟨eK,q9,h⟩:=p' h;refine ⟨(p6 rfl (p6 rfl (p6 rfl rfl))),_,Kv q9,?_⟩;(conv=>whnf);cases eK
   ·(conv=>whnf);replace h:=Ho rfl h;exact qe h jJ rfl rfl
   ·(conv=>whnf);replace h:=Hp rfl h;obtain ⟨r0,rH,h⟩:=p' h;refine ⟨qj.pl,_,Sj rH,?_⟩;(conv=>whnf);refine ⟨by decide,?_⟩;(conv=>whnf);refine ⟨by decide,?_⟩;(conv=>whnf);exact qe h jJ rfl rfl

noncomputable def O4:gE :=
 .loop (some (p8 false [1,2,2,2,29])) (.seq (p2 [p3 12 6,p0 13 [.nc 2] (.yM 1),qz 14 13 1,qg 15 14,qm 16 12 15 .leq] (.cond (.nc 16) .skip (.exit 0))) (.seq (.block 1 (.seq (q8 [p0 19 [.nc 2] (.zE (.str 3)),p3 20 1,p3 21 6,p0 22 [.cv (.func 65 [] []),.nc 19,.nc 20,.nc 21,.cv (.int .i64 0)] (.call 3),p0 23 [.nc 2] (.zE (.str 3)),p3 24 1,p3 25 6,p0 26 [.cv (.func 65 [] []),.nc 23,.nc 24,.nc 25,.cv (.int .i64 1)] (.call 3),p1 7 22,p1 8 26]) (qF [p1 27 5,p3 28 7,p1 29 7,p0 30 [.Bs 29] (.un .neg),p3 31 8,p1 32 8,p0 33 [.Bs 32] (.un .neg),p0 34 [.jq 27,.jq 28,.jq 30,.jq 31,.jq 33] .max,p1 5 34]))) (qF [p1 17 6,qP 18 17 1,p1 6 18])))
noncomputable def YR:gE :=
 p2 [p0 2 [.jq 0] .box,qd 4 0] (p2 [qd 5 0] (.seq (p2 [p0 9 [.nc 2] (.yM 1),qz 10 9 0,qg 11 10,p1 6 11] (.block 0 O4)) (p2 [p1 35 5,p1 4 35] .ret)))
theorem adR:ql Tryz.prog Pq 39=some (YR,36,[.tmp 4]):=by kernel_rfl
def Lb (p:(qk×(Int×Int))) (order:p9) (p_:Int→Option Int):Nat→Int→Int→Option Int
 | 0,_,_=>none
 | m+1,s1,s2 =>
   if (decide (s2≤p.2.2))=true then
    (Jp p order s2 (0:Int)).bind fun aS =>
    (Jp p order s2 (1:Int)).bind fun bj =>
    Lb p order p_ m (max (max (max (max s1 aS) (w (-aS))) bj) (w (-bj))) (w (s2+(1:Int)))
   else
    p_ s1
def Ks (p:(qk×(Int×Int))) (order:p9):Option Int :=
 Lb p order (fun yn =>
   some yn) qi (0:Int) p.2.1
theorem ahG {p:(qk×(Int×Int))} {order:p9} {p_:Int→Option Int} {s1:Int} {s2:Int} {v:Int} {Q:Hr}   (rf:∀ (yn:Int) (bx:ar) (qf:List I),p_ yn=some v→ry 36 [(5,(h0 yn))] qf→Q (.exit 0) qf [bx]) {T:List I} (b0:eZ (p8 false [1,2,2,2,29]) T=qa 36 [(1,(qG order .shared)),(2,(.ptr 0 0)),(5,(h0 s1)),(6,(h0 s2))]) (h:Lb p order p_ qi s1 s2=some v) :
  dQ Tryz.prog Pq 39 0 none O4 T [ar.cells [(re p.1 .shared),(h0 p.2.1),(h0 p.2.2)]] Q:=by
 unfold O4;refine wp_loop b0 ?_;refine .intro (fun m T H=>∃ (s1 s2:Int),T=qa 36 [(1,(qG order .shared)),(2,(.ptr 0 0)),(5,(h0 s1)),(6,(h0 s2))]∧H=[ar.cells [(re p.1 .shared),(h0 p.2.1),(h0 p.2.2)]]∧Lb p order p_ m s1 s2=some v) qi ⟨s1,s2,rfl,rfl,h⟩ ?_;clear h b0;rintro m T H ⟨s1,s2,rfl,rfl,h⟩;cases m
 ·exact rT h
 rename_i m;rw [Lb.eq_2] at h;conv=>whnf
 refine bs h (fun gM h=>?_) fun gM h=>?_
 ·rw [gM];conv=>whnf
  obtain ⟨aS,gN,h⟩:=p' h;refine ⟨qj.pl,_,Yo gN,Hf,?_⟩;conv=>whnf
  obtain ⟨bj,qp,h⟩:=p' h;refine ⟨qj.pl,_,Yo qp,(SG (fun _ e=>by simp at e) Hf),?_⟩;conv=>whnf
  exact ⟨m,sE m,(max (max (max (max s1 aS) (w (-aS))) bj) (w (-bj))),(w (s2+(1:Int))),rfl,rfl,h⟩
 ·rw [gM];conv=>whnf
  exact rf _ _ _ h ⟨rfl,rfl⟩
theorem X8 {p:(qk×(Int×Int))} {order:p9} {v:Int} (h:Ks p order=some v):qx 39 [(.agg [(.av (p.1.flatMap p7) p.1.length .shared),(h0 p.2.1),(h0 p.2.2)]),(.av (order.map h0) order.length .shared)] (h0 v):=by
 refine qK eG adR rfl rfl fun Q bp=>?_;have jJ:qH [.tmp 4] Q (fun v=>(h0 v)) v:=fun T H bE=>bp _ T H bE;unfold Ks at h;unfold YR;obtain ⟨HN,qD⟩:∃ c,O4=c:=⟨_,rfl⟩;rw [qD];conv=>whnf
 subst qD;refine ahG ?_ (by exact rfl) h;intro yn bx qf h qA;obtain ⟨rD,rfl⟩:=qA.ex;conv=>whnf
 exact qe h jJ rfl rfl

def Sf (p:(qk×(Int×Int))) (order:p9):Option Int :=
 (Jp p order p.2.1 (0:Int)).bind fun aS =>
 (Jp p order p.2.1 (1:Int)).bind fun bj =>
 (Jp p order p.2.2 (0:Int)).bind fun eK =>
 (Jp p order p.2.2 (1:Int)).bind fun r0 =>
 some (max (max (max (max (max (max (max aS (w (-aS))) bj) (w (-bj))) eK) (w (-eK))) r0) (w (-r0)))
end Go.Proofs.YtkoioidpbbbaiaaGreat.Ab


namespace Go.Proofs.YtkoioidpbbbaiaaGreat.Ab
open Go
set_option maxRecDepth 20000
set_option maxHeartbeats 1000000
abbrev q7 (p:qb) (o:List Int) (a:Nat) (d:Int):Int:=rp p.1 o a (q3 d)
def Iu (p:qb) (o:List Int) (d:Int):Int:=max (max (q7 p o 0 d) (-(q7 p o 0 d))) (max (q7 p o 1 d) (-(q7 p o 1 d)))
def qS (p:qb) (o:List Int):Int:=max (Iu p o p.2.1) (Iu p o p.2.2)
theorem aa6 (p:qb) (o:List Int) (d:Int):0≤Iu p o d:=by unfold Iu;omega
theorem TP (p:qb) (o:List Int):0≤qS p o:=by have:=aa6 p o p.2.1;unfold qS;omega
theorem qY.len {p:qb} (h:qY p):3≤p.1.length∧p.1.length≤7:=by have:=h.n;omega
theorem qo.len {p:qb} {o:List Int} (h:qY p) (k:qo p.1.length o):o.length≤10:=by have:=h.len;have:=k.1;omega
theorem LF {p:qb} {o:List Int} {a:Nat} {d:Int} (h:qY p) (k:qo p.1.length o) (a1:0≤d∧d≤50):-60000≤q7 p o a d∧q7 p o a d≤60000 :=
 aei (B:=600) (qo.len h k) (by omega) fun i hi=>Lr (IC h.s (rR k) hi) a1
theorem TC (p:qb) (o:List Int) (a:Nat) {lo d hi:Int} (ab:lo≤d) (ae:d≤hi):(q7 p o a lo≤q7 p o a d∧q7 p o a d≤q7 p o a hi)∨(q7 p o a hi≤q7 p o a d∧q7 p o a d≤q7 p o a lo):=by
 simp only [q7,aek];generalize rp p.1 o a Prod.snd=B;rcases Int.le_total 0 B with h | h
 ·have:=Int.mul_le_mul_of_nonneg_left ab h;have:=Int.mul_le_mul_of_nonneg_left ae h;omega
 ·have:=Int.mul_le_mul_of_nonpos_left h ab;have:=Int.mul_le_mul_of_nonpos_left h ae;omega
theorem aa5 {p:qb} {o:List Int} {lo d hi:Int} (ab:lo≤d) (ae:d≤hi):Iu p o d≤max (Iu p o lo) (Iu p o hi):=by
 have a:=TC p o 0 ab ae;have b:=TC p o 1 ab ae;unfold Iu;omega
theorem aec (a b c d:Int):max (max (max (max (max (max (max (max 0 a) (-a)) b) (-b)) c) (-c)) d) (-d)=max (max (max a (-a)) (max b (-b))) (max (max c (-c)) (max d (-d))):=by
 rw [show max (max 0 a) (-a)=max a (-a) by omega];simp only [Int.max_assoc]
section
variable {p:qb} {o:List Int}
theorem M_ (h:qY p) (k:qo p.1.length o):J2 (p,()) o=some (qS p o):=by
 have hle:=h.le;have bD:=h.lo;have GO:=h.hi;unfold J2;have fL:=qo.len h k;rw [Si (b:=(p,())) h.s (rR k) fL k.1.symm (show 0≤p.2.1∧p.2.1≤50 by omega),sb,Si (b:=(p,())) h.s (rR k) fL k.1.symm (show 0≤p.2.2∧p.2.2≤50 by omega),sb];have aA:=LF (a:=0) h k (show 0≤p.2.1∧p.2.1≤50 by omega);have aG:=LF (a:=1) h k (show 0≤p.2.1∧p.2.1≤50 by omega);have aT:=LF (a:=0) h k (show 0≤p.2.2∧p.2.2≤50 by omega);have br:=LF (a:=1) h k (show 0≤p.2.2∧p.2.2≤50 by omega);simp only;rw [qR (n := -(q7 p o 0 p.2.1)) (by omega),qR (n := -(q7 p o 1 p.2.1)) (by omega),qR (n := -(q7 p o 0 p.2.2)) (by omega),qR (n := -(q7 p o 1 p.2.2)) (by omega)];exact congrArg some (aec _ _ _ _)
theorem Yp (h:qY p) (k:qo p.1.length o) {d:Int} (a1:0≤d∧d≤50) {a:Nat}:Jp p o d (a:Int)=some (q7 p o a d):=ah1 h.s (rR k) (qo.len h k) a1
theorem abh {n:Nat} (h:n≤1000000):n<qi:=Ie h
theorem UQ (h:qY p) (k:qo p.1.length o):∀ (m i:Nat) (s:Int),p.2.1+i≤p.2.2+1→(p.2.2+1-(p.2.1+i)).toNat<m→0≤s→s≤qS p o→(0<i→Iu p o p.2.1≤s)→(p.2.1+i=p.2.2+1→Iu p o p.2.2≤s) →
  Lb p o (fun z=>some z) m s (p.2.1+i)=some (qS p o)
 | 0,_,_,_,h,_,_,_,_=>absurd h (by omega)
 | m+1,i,s,hi,hm,aQ,ab,ae,aF=>by
   have hle:=h.le;have bD:=h.lo;have GO:=h.hi;rw [Lb];by_cases aR:p.2.1+i≤p.2.2
   ·rw [if_pos (decide_eq_true aR)];rw [show (0:Int)=((0:Nat):Int) from rfl,Yp h k (d:=p.2.1+i) (by omega),sb];rw [show (1:Int)=((1:Nat):Int) from rfl,Yp h k (d:=p.2.1+i) (by omega),sb];have aA:=LF (a:=0) h k (show 0≤p.2.1+i∧p.2.1+i≤50 by omega);have aG:=LF (a:=1) h k (show 0≤p.2.1+i∧p.2.1+i≤50 by omega);rw [qR (n := -(q7 p o 0 (p.2.1+i))) (by omega),qR (n := -(q7 p o 1 (p.2.1+i))) (by omega),qR (by omega)];(have e:max (max (max (max s (q7 p o 0 (p.2.1+i))) (-(q7 p o 0 (p.2.1+i)))) (q7 p o 1 (p.2.1+i))) (-(q7 p o 1 (p.2.1+i)))=max s (Iu p o (p.2.1+i)):=by unfold Iu;simp only [Int.max_assoc]);have b:=aa5 (p:=p) (o:=o) (lo:=p.2.1) (d:=p.2.1+i) (hi:=p.2.2) (by omega) aR;rw [e,show p.2.1+(i:Int)+((1:Nat):Int)=p.2.1+((i+1:Nat):Int) by omega];refine UQ h k m (i+1) _ (by omega) (by omega) (by omega) (by unfold qS at *;omega) (fun _=>?_) (fun he=>?_)
    ·by_cases gb:i=0
     ·subst gb;simp only [Int.natCast_zero,Int.add_zero];omega
     ·have:=ae (by omega);omega
    ·rw [show p.2.1+(i:Int)=p.2.2 by omega];omega
   ·rw [if_neg (by simpa using by omega)];have:=ae (by omega);have:=aF (by omega);congr 1;unfold qS at *;omega
theorem X7 (h:qY p) (k:qo p.1.length o):Ks p o=some (qS p o):=by
 have hle:=h.le;have bD:=h.lo;have GO:=h.hi;unfold Ks;have:=UQ h k qi 0 0 (by omega) (abh (by omega)) (by omega) (TP p o) (fun h=>absurd h (by omega)) (fun h=>by omega);simpa using this
theorem OK (aB:p.1.length≤1000) (ao:o.length≤12):I6 p o=some (if rP p o=0 then (qS p o,0) else (0,rP p o)):=by
 unfold I6;rw [OP aB ao,sb];by_cases h:rP p o=0
 ·rw [if_pos h,if_pos h];obtain ⟨ab,ae⟩:=KS.1 h;simp only;rw [if_neg (by decide),M_ ab ae];rfl
 ·rw [if_neg h,if_neg h];simp only;rw [if_pos (decide_eq_true h)]
theorem X5 (aB:p.1.length≤1000) (ao:o.length≤12) (d:Int):Kr p o d=some (if rP p o=0 then (if p.2.1≤d∧d≤p.2.2 then (q7 p o 0 d,q7 p o 1 d,0) else (0,0,3)) else (0,0,rP p o)):=by
 unfold Kr;rw [OP aB ao,sb];by_cases h:rP p o=0
 ·rw [if_pos h,if_pos h];obtain ⟨ab,ae⟩:=KS.1 h;have hle:=ab.le;have bD:=ab.lo;have GO:=ab.hi;simp only;rw [if_neg (by decide),Mc,sb];by_cases a1:p.2.1≤d∧d≤p.2.2
  ·rw [if_pos (by simp [a1.1,a1.2]),if_pos a1,Si (b:=(p,())) ab.s (rR ae) (qo.len ab ae) ae.1.symm (by omega)];rfl
  ·rw [if_neg (by simpa using a1),if_neg a1]
 ·rw [if_neg h,if_neg h];simp only;rw [if_pos (decide_eq_true h)]
end
end Go.Proofs.YtkoioidpbbbaiaaGreat.Ab


namespace Go.Proofs.YtkoioidpbbbaiaaGreat.Ab
open Go
noncomputable def N9:gE :=
 .seq (q8 [p0 37 [.nc 10] (.zE (.str 2)), p0 38 [] (.build [.int .i64 0, .int .i64 0] []), p0 39 [.Bs 37, .Bs 38] (.other (Oper.mk (some 39) (Op.binOp .eql 117 (Operand.tmp 37) (Operand.tmp 38) 117) 4 "press.go:129" (Array.mk [Edge.mk 0 Ground.data, Edge.mk 1 Ground.data]) none) 0), p1 40 39, cl 41 [.jq 11] 40 false .mU, cl 42 [.jq 41] 40 false .mU, cl 43 [.nc 10] 42 true (.yM 0), cl 44 [.Bs 43] 42 true (.zE .one), cl 45 [.nc 10] 42 true (.yM 1), cl 46 [.Bs 45] 42 true (.zE .one), cl 47 [.jq 0] 42 true .mU, cl 48 [.Bs 47] 42 true .z4, cl 49 [.Bs 48] 42 true (.yM 0), cl 50 [.Bs 49] 42 true (.yM 1), cl 51 [.Bs 50] 42 true (.yM 0), cl 52 [.Bs 51] 42 true (.zE .one), cl 53 [.Bs 46, .Bs 52] 42 true (.bin .mul), cl 54 [.Bs 44, .Bs 53] 42 true (.bin .add), cl 55 [.Bs 54, .cv (.int .i64 0)] 42 true (.bin .eql), cl 56 [.nc 42, .Bs 55, .cv (.bool false)] 40 false .pick, p0 57 [.nc 40, .cv (.bool true), .Bs 56] .pick, p0 8 [.cv (.av [] 0 .full)] (.nil 3), p1 9 57]) .ret
noncomputable def Rk:gE :=
 .ov false [p3 80 0,p0 81 [.Bs 80] .z4,qz 82 81 3,qg 83 82,p3 84 0,p3 85 3,p0 86 [.Bs 85,.cv (.int .i64 0)] (.kY 1),qg 87 86,p0 88 [.cv (.func 77 [] []),.jq 84,.jq 87] (.call 9),p3 89 12,⟨none,[.Bs 83,.Bs 88,.Bs 89],none,none,.zR (.int .i64)⟩]
noncomputable def N_:gE :=
 p2 [p3 73 0,p3 74 0,p3 75 3,p0 76 [.Bs 75,.cv (.int .i64 0)] (.kY 1),qg 77 76,p0 78 [.cv (.func 77 [] []),.jq 74,.jq 77] (.call 9),p0 79 [.cv (.func 81 [] []),.nc 73,.nc 78] (.call 2),p1 12 79] Rk
noncomputable def Rl:gE :=
 .ov true [p0 98 [.nc 10] (.yM 0),qg 99 98,p0 100 [.Bs 99] (.un .neg),p0 101 [.nc 10] (.yM 1),qg 102 101,p1 103 0,p0 104 [.Bs 103] .z4,qz 105 104 0,qz 106 105 1,qz 107 106 0,qg 108 107,qm 109 102 108 .mul,qm 110 100 109 .sub,p0 111 [.Bs 110,.cv (.int .i64 0)] (.build [.int .i64 0,.int .i64 0] [(0,1),(1,1)]),⟨none,[.nc 14,.jq 111],none,none,.st 2⟩]
noncomputable def WI:gE :=
 .seq (q8 [p1 120 1,p1 121 3,p0 122 [.Bs 121,.cv (.int .i64 0)] (.kY 1),qg 123 122,q5 124 120 123 1,qg 125 124,p0 126 [.Bs 15] (.zE (.str 2)),p0 127 [.Bs 125,.Bs 126] (.build [.int .i64 0,.int .i64 0,.int .i64 0] [(0,1),(1,2)]),p0 128 [.Bs 127] (.yB 1 3 [.int .i64 0,.int .i64 0,.int .i64 0] [0]),p1 8 128,p0 9 [.cv (.bool true)] .mU]) .ret
noncomputable def Oa:gE :=
 .seq (p2 [p1 118 13,p0 119 [.Bs 118] (.un .not)] (.cond (.nc 119) (p2 [p0 8 [.cv (.av [] 0 .full)] (.nil 3),p0 9 [.cv (.bool false)] .mU] .ret) .skip)) WI
noncomputable def Ob:gE :=
 p2 [p1 113 12,p0 114 [.Bs 14] (.zE (.str 2)),p0 115 [.Bs 113,.Bs 114] (.zQ (.str 2) true (some (.agg [.int .i64 0,.int .i64 0]))),p1 112 115,qJ 116 112 0,p0 117 [.Bs 112] (.ext 1),p0 15 [] (.alloc [.int .i64 0,.int .i64 0]),⟨none,[.nc 15,.jq 116],none,none,.st 2⟩,p1 13 117] Oa
noncomputable def MP:gE :=
 p2 [p0 90 [.nc 10] (.yM 0),qg 91 90,p0 92 [.Bs 91] (.un .neg),p0 93 [.nc 10] (.yM 1),qg 94 93,p0 95 [.Bs 94] (.un .neg),p0 96 [.Bs 92,.Bs 95] (.build [.int .i64 0,.int .i64 0] [(0,1),(1,1)]),p0 14 [] (.alloc [.int .i64 0,.int .i64 0]),⟨none,[.nc 14,.jq 96],none,none,.st 2⟩] (.seq (p2 [p1 97 11] (.cond (.nc 97) Rl .skip)) Ob)
noncomputable def LW:gE :=
 p2 [p3 59 0,p0 60 [.Bs 59] .z4,qz 61 60 3,qg 62 61,p3 63 0,p3 64 3,p0 65 [.Bs 64,.cv (.int .i64 0)] (.kY 1),qg 66 65,p0 67 [.cv (.func 77 [] []),.jq 63,.jq 66] (.call 9),p0 68 [.Bs 62,.Bs 67] (.zQ (.int .i64) true (some .a0)),p1 58 68,qJ 69 58 0,qJ 70 58 1,p1 12 69,p1 13 70] (.seq (p2 [p1 71 13,p0 72 [.Bs 71] (.un .not)] (.cond (.nc 72) N_ .skip)) MP)
noncomputable def MO:gE :=
 .seq (q8 [p3 21 0,p0 22 [.Bs 21] .z4,qz 23 22 0,qz 24 23 1,qz 25 24 0,qg 26 25,p3 27 0,p0 28 [.Bs 27] .z4,qz 29 28 0,qz 30 29 1,qz 31 30 1,qg 32 31,qm 33 26 32 .eql,p1 11 33]) (.seq (p2 [p3 34 3,qT 35 34,qw 36 35 0 .eql] (.cond (.nc 36) N9 .skip)) LW)
noncomputable def Rj:gE :=
 p2 [p3 16 0,p3 17 1,p1 18 2,p3 19 3,p0 20 [.cv (.func 80 [] []),.jq 16,.jq 17,.jq 18,.jq 19] (.call 9),p0 10 [] (.alloc [.int .i64 0,.int .i64 0]),⟨none,[.nc 10,.jq 20],none,none,.st 2⟩] MO
noncomputable def N8:gE :=
 p2 [p0 8 [.cv (.av [] 0 .full)] (.nil 3),p0 9 [.cv (.bool false)] .mU] Rj
theorem QK:ql Go.Proofs.Tryz.prog Lq 60=some (N8,129,[.tmp 8,.tmp 9]):=by kernel_rfl
end Go.Proofs.YtkoioidpbbbaiaaGreat.Ab


namespace Go.Proofs.YtkoioidpbbbaiaaGreat.Ab
open Go
set_option maxRecDepth 20000
set_option maxHeartbeats 4000000
abbrev rV:=((List (Int×Int))×(Int×Int))×Unit
abbrev rL (b:rV) (m:Nat):I:=.bS [.av (b.1.1.flatMap p7) b.1.1.length .shared,h0 b.1.2.1,h0 b.1.2.2,.map m]
def HS (b:rV) (m:Nat) (H:List ar):Prop:=∃ (es:List (Nat×I×I)) (IH:Nat),H[m]?=some (.map es IH) ∧
 ∀ e∈es,∃ (x:Int) (id c:Nat) (A:q2),e.2.1=h0 x∧e.2.2=.map id∧id≠m∧H[id]?=some (.map (q4 A) c)∧Mf b x=some A
theorem HS.more {b:rV} {m:Nat} {H:List ar} (h:HS b m H) (Z:List ar):HS b m (H++Z):=by
 obtain ⟨es,IH,ab,ae⟩:=h;refine ⟨es,IH,by rw [sg (sa.1 ab).1];exact ab,fun e he=>?_⟩;obtain ⟨x,id,c,A,aA,aG,aT,br,bg⟩:=ae e he;exact ⟨x,id,c,A,aA,aG,aT,by rw [sg (sa.1 br).1];exact br,bg⟩
theorem TU {x:Int}:∀ {es:List (Nat×I×I)} {n:Nat},(∀ e∈es,∃ y:Int,e.2.1=h0 y)→(∃ i e,fH (h0 x) es n=some (some (n+i))∧es[i]?=some e∧e.2.1=h0 x)∨fH (h0 x) es n=some none
 | [],n,_=>.inr rfl
 | (i,k,v)::es,n,h=>by
   obtain ⟨y,aY⟩:=h (i,k,v) (by simp);simp only at aY;subst aY;have he:gK (h0 x) (h0 y)=some (decide (x=y)):=by
    simp only [gK,if_true,Option.some.injEq];rw [vB];simp
   by_cases e:x=y
   ·subst e;refine .inl ⟨0,_,?_,rfl,rfl⟩;simp only [fH,he,decide_true];rfl
   ·rcases TU (x:=x) (es:=es) (n:=n+1) (fun e he=>h e (by simp [he])) with ⟨j,b',ab,ae,aF⟩ | ab
    ·refine .inl ⟨j+1,b',?_,by simpa using ae,aF⟩;simp only [fH,he];rw [decide_eq_false e];show fH (h0 x) es (n+1)=_;rw [ab];congr 2;omega
    ·refine .inr ?_;simp only [fH,he];rw [decide_eq_false e];exact ab
def H8 (m:Nat) (H H':List ar):Prop:=H.length≤H'.length∧∀ j,j≠m→j<H.length→H'[j]?=H[j]?
def Ij (b:rV) (order:List Int) (qu:Int) (KQ:List Int):Option (List qq×Bool) :=
 (Ll b order qu KQ).bind fun left =>
 match KQ with
 | []=>some ([],decide (left=(0,0)) || (decide (b.1.2.1=b.1.2.2) && decide (w (left.1+w (left.2*b.1.2.1))=0)))
 | cy::_ =>
   (J3 b cy).bind fun x=>(Mf b x).bind fun A =>
   match Jg A (if b.1.2.1=b.1.2.2 then (w (w (-left.1)-w (left.2*b.1.2.1)),0) else (w (-left.1),w (-left.2))) with
   | none=>some ([],false)
   | some s=>qs (0≤cy∧cy<(order.length:Int)) <| some ([(ix order cy,s)],true)
theorem Ym {b:rV} {order:List Int} {qu:Int} {v:List qq×Bool} (h:Ij b order qu []=some v) {m lo:Nat} {H:List ar} (bD:lo≤H.length) :
  v.1=[]∧∃ o,Sem Tryz.prog (.fn 60) [rL b m,.av (order.map h0) order.length .shared,h0 qu,.av [] 0 .full] H lo (.tuple [.av [] 0 .shared,B v.2]) (H++[o]):=by
 unfold Ij at h;obtain ⟨left,ao,h⟩:=p' h;obtain rfl:=Option.some.inj h;refine ⟨rfl,.cells [h0 left.1,h0 left.2],?_⟩;refine rn eG QK rfl (a'.append _ _ _) fun Q bp=>?_;unfold N8 Rj;obtain ⟨TH,Ja⟩:∃ c,MO=c:=⟨_,rfl⟩;rw [Ja];conv=>whnf
 refine ⟨_,_,call9 (bs:=[lp b,.av (order.map h0) order.length .shared,h0 qu,.av (([]:List Int).map h0) ([]:List Int).length .shared]) rfl (p6 (H5 b) (p6 (rC (fun _=>rfl) _ _ _) (p6 rfl (p6 rfl rfl)))) (OV ao),?_⟩;conv=>whnf
 rw [tj bD];refine Ew (x:=ar.cells [h0 0,h0 0]) (by first | exact qQ.h | rfl | (simp [sq,I.settle];done)) ?_
 conv=>whnf
 rw [HR];subst Ja;unfold MO;obtain ⟨B9,JA⟩:∃ c,LW=c:=⟨_,rfl⟩;obtain ⟨a7,cf⟩:∃ c,N9=c:=⟨_,rfl⟩;rw [JA,cf];conv=>whnf
 subst cf;unfold N9;conv=>whnf
 refine Ew (x:=ar.cells [h0 left.1,h0 left.2]) (by first | exact qQ.h | rfl | (simp [sq,I.settle];done)) ?_
 conv=>whnf
 refine ⟨.bool (decide (left=(0,0))),_,fun C=>VC rfl rfl (Zm (fs:=abg Tryz.prog 117) (by kernel_rfl) (by kernel_rfl) (by kernel_rfl) (by kernel_rfl) (by kernel_rfl) _ _ _ _ (.inl rfl)),?_⟩;conv=>whnf
 by_cases bk:left=(0,0)
 ·rw [decide_eq_true bk];conv=>whnf
  rw [decide_eq_true bk] at bp;exact bp _ _ _ ⟨.inr rfl,lI.refl _,rfl⟩
 ·rw [decide_eq_false bk];rw [decide_eq_false bk] at bp;conv=>whnf
  by_cases aq:b.1.2.1=b.1.2.2
  ·rw [decide_eq_true aq];rw [decide_eq_true aq] at bp;(conv=>whnf);refine Ew (x:=ar.cells [h0 left.1,h0 left.2]) (by first | exact qQ.h | rfl | (simp [sq,I.settle];done)) ?_
   (conv=>whnf);refine Ew (x:=ar.cells [h0 left.1,h0 left.2]) (by first | exact qQ.h | rfl | (simp [sq,I.settle];done)) ?_
   (conv=>whnf);exact bp _ _ _ ⟨.inr rfl,lI.refl _,rfl⟩
  ·rw [decide_eq_false aq];rw [decide_eq_false aq] at bp;(conv=>whnf);exact bp _ _ _ ⟨.inr rfl,lI.refl _,rfl⟩
theorem Xw {b:rV} {order:List Int} {cy:Int} {left:qV} {A:q2} {v:List qq×Bool} (h:(match Jg A (if b.1.2.1=b.1.2.2 then (w (w (-left.1)-w (left.2*b.1.2.1)),0) else (w (-left.1),w (-left.2))) with
  | none=>some ([],false)
  | some s=>qs (0≤cy∧cy<(order.length:Int)) <| some ([(ix order cy,s)],true))=some v) {m lo p10 id c:Nat} {H:List ar} {OA XL XM XN OB XO OD XD:I} (bD:lo≤H.length) (dp:H[p10]?=some (.cells [h0 left.1,h0 left.2])) (aE:H[id]?=some (.map (q4 A) c)) {Q:cQ→List I→List ar→Prop}
  (bp:∀ T bx bK,(rK (H++[bx,bK]) T [.tmp 8,.tmp 9]).map jg=some (.tuple [.av (v.1.flatMap qn) v.1.length .shared,B v.2])→Q .ret T (H++[bx,bK])) :
  dQ Tryz.prog Lq 60 lo none MP (qa 129 [(0,rL b m),(1,.av (order.map h0) order.length .shared),(3,.av [h0 cy] 1 (.own 1)),(8,XO),(9,OD),(10,.ptr p10 0),(11,.bool (decide (b.1.2.1=b.1.2.2))),(12,.map id),(13,XD),(36,OA),(58,XL),(72,XM),(73,XN),(78,OB)]) H Q:=by
 have Ja:∀ Z,(H++Z)[p10]?=some (.cells [h0 left.1,h0 left.2]):=fun Z=>by rw [sg (sa.1 dp).1];exact dp
 have gid:∀ Z,(H++Z)[id]?=some (.map (q4 A) c):=fun Z=>by rw [sg (sa.1 aE).1];exact aE
 obtain ⟨Jn,MA⟩:∃ Jn,Jn=(if b.1.2.1=b.1.2.2 then (w (w (-left.1)-w (left.2*b.1.2.1)),0) else (w (-left.1),w (-left.2))):=⟨_,rfl⟩;rw [←MA] at h;have fin:∀ v0 XP,dQ Tryz.prog Lq 60 lo none Ob (qa 129 [(0,v0),(1,.av (order.map h0) order.length .shared),(3,.av [h0 cy] 1 (.own 1)),(8,XO),(9,OD),(10,.ptr p10 0),(12,.map id),(13,XD),(14,.ptr H.length 0),(36,OA),(58,XL),(72,XM),(73,XN),(78,OB),(97,XP)]) (H++[ar.cells [h0 Jn.1,h0 Jn.2]]) Q:=by
  intro v0 XP;unfold Ob;obtain ⟨f',rU⟩:∃ c,Oa=c:=⟨_,rfl⟩;rw [rU];conv=>whnf
  refine Ew (x:=ar.cells [h0 Jn.1,h0 Jn.2]) (by first | exact qQ.h | rfl | (simp [sq,I.settle];done)) ?_
  conv=>whnf
  rcases adv Jn A with ⟨s,i,e,aJ,aN,cb,hq⟩ | ⟨aJ,aN⟩
  ·rw [aJ] at h;obtain ⟨jT,h⟩:=rM h;obtain rfl:=Option.some.inj h;refine ⟨rfl,_,_,gid _,some i,aN,e,cb,?_⟩;rw [hq];(conv=>whnf);rw [tj (show lo≤(H++[ar.cells [h0 Jn.1,h0 Jn.2]]).length by simp;omega)];refine Ew (x:=ar.cells [h0 0,h0 0]) (by first | exact qQ.h | rfl | (simp [sq,I.settle];done)) ?_
   (conv=>whnf);rw [HR];subst rU;unfold Oa WI;(conv=>whnf);refine ⟨⟨sU _,by decide⟩,?_⟩;(conv=>whnf);refine ⟨jT,?_⟩;rw [rb h0 order cy jT];(conv=>whnf);refine Ew (x:=ar.cells [h0 s.1,h0 s.2]) (by first | exact qQ.h | rfl | (simp [sq,I.settle];done)) ?_
   (conv=>whnf);rw [sx];exact bp _ _ _ rfl
  ·rw [aJ] at h;obtain rfl:=Option.some.inj h;refine ⟨rfl,_,_,gid _,none,aN,_,rfl,?_⟩;(conv=>whnf);rw [tj (show lo≤(H++[ar.cells [h0 Jn.1,h0 Jn.2]]).length by simp;omega)];refine Ew (x:=ar.cells [h0 0,h0 0]) (by first | exact qQ.h | rfl | (simp [sq,I.settle];done)) ?_
   (conv=>whnf);rw [HR];subst rU;unfold Oa;(conv=>whnf);rw [sx];exact bp _ _ _ rfl
 unfold MP;obtain ⟨nu,JL⟩:∃ c,Ob=c:=⟨_,rfl⟩;obtain ⟨b6,iP⟩:∃ c,Rl=c:=⟨_,rfl⟩;rw [JL,iP];conv=>whnf
 refine Ew dp ?_;conv=>whnf
 refine Ew dp ?_;conv=>whnf
 rw [tj bD];refine Ew (x:=ar.cells [h0 0,h0 0]) (by first | exact qQ.h | rfl | (simp [sq,I.settle];done)) ?_
 conv=>whnf
 rw [HR];by_cases aq:b.1.2.1=b.1.2.2
 ·rw [decide_eq_true aq];rw [if_pos aq] at MA;conv=>whnf
  subst iP;unfold Rl;conv=>whnf
  refine Ew (Ja _) ?_;conv=>whnf
  refine Ew (Ja _) ?_;conv=>whnf
  rw [tj bD];refine Ew (x:=ar.cells [h0 (w (-left.1)),h0 (w (-left.2))]) (by first | exact qQ.h | rfl | (simp [sq,I.settle];done)) ?_
  conv=>whnf
  rw [HR];subst JL;rw [MA] at fin;exact fin _ _
 ·rw [decide_eq_false aq];rw [if_neg aq] at MA;conv=>whnf
  subst JL;rw [MA] at fin;exact fin _ _
theorem TT {H:List ar} {bx bK:ar}:lI (H++[bx,bK]) (H++[.dead,.dead]):=by
 refine ⟨by simp,fun id o aq=>?_⟩;by_cases h:id<H.length
 ·rw [sg h] at aq ⊢;exact .inr aq
 ·rw [List.getElem?_append_right (by omega)] at aq;refine .inl ?_
  match ae:id-H.length with
  | 0=>rw [ae] at aq;exact (Option.some.inj aq).symm
  | 1=>rw [ae] at aq;exact (Option.some.inj aq).symm
  | n+2=>rw [ae] at aq;cases aq
theorem Yn {b:rV} {order:List Int} {qu cy:Int} {v:List qq×Bool} (h:Ij b order qu [cy]=some v) {m lo:Nat} {H:List ar} (bD:lo≤m) (bG:HS b m H) :
  ∃ H',HS b m H'∧H8 m H H'∧Sem Tryz.prog (.fn 60) [rL b m,.av (order.map h0) order.length .shared,h0 qu,.av [h0 cy] 1 (.uniq 1)] H lo (.tuple [.av (v.1.flatMap qn) v.1.length .shared,B v.2]) H':=by
 unfold Ij at h;obtain ⟨left,ao,h⟩:=p' h;obtain ⟨x,aj,h⟩:=p' h;obtain ⟨A,aL,h⟩:=p' h;have NH:=bG;obtain ⟨es,IH,hm,Jc⟩:=NH;have er:=(sa.1 hm).1;have Qy:∀ Z,(H++Z)[m]?=some (.map es IH):=fun Z=>by rw [sg er];exact hm
 have aiL:([rL b m,.av (order.map h0) order.length .shared,h0 qu,.av [h0 cy] 1 .shared]:List I).map I.gw=[lp b,.av (order.map h0) order.length .shared,h0 qu,.av [h0 cy] 1 .shared]:=rfl;have start:∀ (Q:cQ→List I→List ar→Prop),dQ Tryz.prog Lq 60 lo none LW (qa 129 [(0,rL b m),(1,.av (order.map h0) order.length .shared),(3,.av [h0 cy] 1 (.own 1)),(8,.av [] 0 (.uniq 3)),(9,.bool false),(10,.ptr H.length 0),(11,.bool (decide (b.1.2.1=b.1.2.2))),(36,.bool false)]) (H++[ar.cells [h0 left.1,h0 left.2]]) Q →
   dQ Tryz.prog Lq 60 lo none N8 (qa 129 [(0,rL b m),(1,.av (order.map h0) order.length .shared),(2,h0 qu),(3,.av [h0 cy] 1 (.uniq 1))]) H Q:=by
  intro Q a_;unfold N8 Rj;obtain ⟨TH,Ja⟩:∃ c,MO=c:=⟨_,rfl⟩;rw [Ja];conv=>whnf
  refine ⟨_,_,call9 (bs:=[lp b,.av (order.map h0) order.length .shared,h0 qu,.av (([cy]:List Int).map h0) ([cy]:List Int).length .shared]) rfl (p6 (H5 b) (p6 (rC (fun _=>rfl) _ _ _) (p6 rfl (p6 rfl rfl)))) (OV ao),?_⟩;conv=>whnf
  rw [tj (show lo≤H.length by omega)];refine Ew (x:=ar.cells [h0 0,h0 0]) (by first | exact qQ.h | rfl | (simp [sq,I.settle];done)) ?_
  conv=>whnf
  rw [HR];subst Ja;unfold MO;obtain ⟨B9,JA⟩:∃ c,LW=c:=⟨_,rfl⟩;obtain ⟨a7,cf⟩:∃ c,N9=c:=⟨_,rfl⟩;rw [JA,cf];conv=>whnf
  subst JA;exact a_
 have acj:∀ e∈es,∃ y:Int,e.2.1=h0 y:=fun e he=>by
  obtain ⟨y,_,_,_,ab,_⟩:=Jc e he;exact ⟨y,ab⟩
 rcases TU (x:=x) (n:=0) acj with ⟨i,e,aJ,aN,cb⟩ | aJ
 ·obtain ⟨y,id,c,Sw,aA,aG,aT,br,bg⟩:=Jc e (sv aN);rw [cb] at aA;have acB:x=y:=by injection aA
  subst acB;rw [aL] at bg;obtain rfl:=Option.some.inj bg;rw [sy] at aJ;refine ⟨(H++[ar.cells [h0 left.1,h0 left.2]])++[.dead,.dead],(bG.more _).more _,⟨by simp,fun j _ aw=>by rw [sx,sg aw]⟩,?_⟩;refine rn eG QK rfl (by rw [sx];exact a'.append _ _ _) fun Q bp=>?_;refine start Q ?_;unfold LW;obtain ⟨bt,eS⟩:∃ c,N_=c:=⟨_,rfl⟩;obtain ⟨nv,Iv⟩:∃ c,MP=c:=⟨_,rfl⟩;rw [eS,Iv];conv=>whnf
  refine ⟨⟨sU _,by decide⟩,?_⟩;conv=>whnf
  refine ⟨_,_,call9 (bs:=[lp b,h0 cy]) rfl (p6 (H5 b) (p6 rfl rfl)) (Kz aj),?_⟩;conv=>whnf
  refine ⟨rfl,_,_,Qy _,some i,aJ,e,aN,?_⟩;rw [aG];conv=>whnf
  subst Iv;refine Xw (A:=A) (c:=c) h (by simp;omega) (IK _ _) (by rw [sg (sa.1 br).1];exact br) fun T bx bK ai=>?_;exact bp _ _ _ ⟨.inr rfl,TT,ai⟩
 ·obtain ⟨c,D,cp⟩:=ah8 aL;obtain ⟨H1,bW⟩:∃ H1,H1=H++[ar.cells [h0 left.1,h0 left.2]]:=⟨_,rfl⟩;have jU:H1.length=H.length+1:=by rw [bW];simp
  have nP:H1[m]?=some (.map es IH):=by rw [bW];exact Qy _
  obtain ⟨H2,ch⟩:∃ H2,H2=(H1++[ar.map (q4 A) c]).set m (.map (es++[(IH,h0 x,.map H1.length)]) (IH+1)):=⟨_,rfl⟩;have eF:H2.length=H.length+2:=by rw [ch];simp [jU]
  have aO:∀ j,j≠m→H2[j]?=(H1++[ar.map (q4 A) c])[j]?:=fun j aw=>by rw [ch,sd (by omega)]
  have Ur:H2[H1.length]?=some (.map (q4 A) c):=by rw [aO _ (by omega)];exact IK _ _
  have ace:H2[m]?=some (.map (es++[(IH,h0 x,.map H1.length)]) (IH+1)):=by rw [ch];exact sj (by simp;omega)
  have abo:HS b m H2:=by
   refine ⟨_,_,ace,fun e he=>?_⟩;rcases tf.1 he with he | he
   ·obtain ⟨y,id,dU,Sw,aA,aG,aT,br,bg⟩:=Jc e he;have aE:=(sa.1 br).1;refine ⟨y,id,dU,Sw,aA,aG,aT,?_,bg⟩;rw [aO _ aT,bW,sx,sg aE];exact br
   ·obtain rfl:=sS.1 he;exact ⟨x,H1.length,c,A,rfl,rfl,by omega,Ur,aL⟩
  refine ⟨H2++[.dead,.dead],abo.more _,⟨by simp [eF];omega,fun j aw mo=>?_⟩,?_⟩
  ·rw [sg (by omega),aO _ aw,bW,sx,sg mo]
  have JQ:a' lo H (H2++[.dead,.dead]):=by
   refine ⟨by simp [eF];omega,fun j ab ae=>?_⟩;rw [sg (by omega),aO _ (by omega),bW,sx,sg (by omega)]
  refine rn eG QK rfl JQ fun Q bp=>?_;refine start Q ?_;rw [←bW];unfold LW;obtain ⟨bt,eS⟩:∃ c,N_=c:=⟨_,rfl⟩;obtain ⟨nv,Iv⟩:∃ c,MP=c:=⟨_,rfl⟩;rw [eS,Iv];conv=>whnf
  refine ⟨⟨sU _,by decide⟩,?_⟩;conv=>whnf
  refine ⟨_,_,call9 (bs:=[lp b,h0 cy]) rfl (p6 (H5 b) (p6 rfl rfl)) (Kz aj),?_⟩;conv=>whnf
  refine ⟨rfl,_,_,nP,none,aJ,_,rfl,?_⟩;conv=>whnf
  subst eS;unfold N_;obtain ⟨a9,ca⟩:∃ c,Rk=c:=⟨_,rfl⟩;rw [ca];conv=>whnf
  refine ⟨⟨sU _,by decide⟩,?_⟩;conv=>whnf
  refine ⟨_,_,call9 (bs:=[lp b,h0 cy]) rfl (p6 (H5 b) (p6 rfl rfl)) (Kz aj),?_⟩;conv=>whnf
  have zg:∀ (j i:Nat) (k v:I),(q4 A)[j]?=some (i,k,v)→cr 8 k=true∧cr 8 v=true:=fun j i k v aw=>by
   obtain ⟨a,_,cu⟩:=sD.1 (sv aw);obtain ⟨_,ae⟩:=Prod.mk.inj cu;obtain ⟨rfl,rfl⟩:=Prod.mk.inj ae;exact ⟨HU (p6 rfl (p6 rfl rfl)),HU (p6 rfl (p6 rfl rfl))⟩
  refine ⟨_,_,aat (args:=[rL b m,h0 x]) (es:=q4 A) (clock:=c) (D:=D) (p6 (H5 b) (p6 rfl rfl)) zg cp _ _,?_⟩;conv=>whnf
  subst ca;unfold Rk;conv=>whnf
  refine ⟨⟨sU _,by decide⟩,?_⟩;conv=>whnf
  refine ⟨_,_,call9 (bs:=[lp b,h0 cy]) rfl (p6 (H5 b) (p6 rfl rfl)) (Kz aj),?_⟩;conv=>whnf
  rw [tj bD];refine ⟨rfl,es,IH,by rw [sg (by omega)];exact nP,none,aJ,?_⟩;conv=>whnf
  rw [←ch];subst Iv;refine Xw (A:=A) (c:=c) (p10:=H.length) (id:=H1.length) h (by omega) (by rw [aO _ (by omega),sg (by omega),bW];exact IK _ _) Ur fun T bx bK ai=>?_;exact bp _ _ _ ⟨.inr rfl,TT,ai⟩

end Go.Proofs.YtkoioidpbbbaiaaGreat.Ab


namespace Go.Proofs.YtkoioidpbbbaiaaGreat.Ab
open Go
set_option maxRecDepth 20000
set_option maxHeartbeats 4000000

end Go.Proofs.YtkoioidpbbbaiaaGreat.Ab


namespace Go.Proofs.YtkoioidpbbbaiaaGreat.Ab
open Go
set_option maxRecDepth 20000
set_option maxHeartbeats 4000000
end Go.Proofs.YtkoioidpbbbaiaaGreat.Ab


namespace Go.Proofs.YtkoioidpbbbaiaaGreat.Ab
open Go
set_option maxRecDepth 20000
set_option maxHeartbeats 1000000
def HE (p:qb) (o:List Int) (a:Nat):Prop:=q7 p o a p.2.1=0∧q7 p o a p.2.2=0
instance (p:qb) (o:List Int) (a:Nat):Decidable (HE p o a):=by unfold HE;exact inferInstance
def I1 (p:qb) (o:List Int) (a i:Nat) (s:qv):Prop :=
 qL p.1 o a [(i:Int)] (q3 p.2.1)+qy o.length i*q3 p.2.1 s=0∧qL p.1 o a [(i:Int)] (q3 p.2.2)+qy o.length i*q3 p.2.2 s=0
instance (p:qb) (o:List Int) (a i:Nat) (s:qv):Decidable (I1 p o a i s):=by unfold I1;exact inferInstance
def I5 (t:Nat):qv:=(((t % 101:Nat):Int),((t / 101:Nat):Int)-10)
theorem Xh {t:Nat} (h:t<2121):qM (I5 t):=by unfold qM I5;simp only;omega
theorem Xg {s:qv} (h:qM s):∃ t,t<2121∧I5 t=s:=by
 obtain ⟨ab,ae,aF,ba⟩:=h;refine ⟨(s.2+10).toNat*101+s.1.toNat,by omega,?_⟩;unfold I5;exact Prod.ext (by simp only;omega) (by simp only;omega)
def Jz (p:qb) (o:List Int) (a i:Nat):Prop:=∃ t,t<2121∧I1 p o a i (I5 t)
instance (p:qb) (o:List Int) (a i:Nat):Decidable (Jz p o a i):=by unfold Jz;exact inferInstance
theorem Mp {p:qb} {o:List Int} {a i:Nat}:Jz p o a i↔∃ s,qM s∧I1 p o a i s:=by
 constructor
 ·rintro ⟨t,ab,ae⟩;exact ⟨_,Xh ab,ae⟩
 ·rintro ⟨s,ab,ae⟩;obtain ⟨t,aF,rfl⟩:=Xg ab;exact ⟨t,aF,ae⟩
theorem Xy {L H U V:Int} (h:L=H):(U+V*L=0∧U+V*H=0)↔U+V*L=0:=by subst h;simp
theorem R0 {L H U V:Int} (h:L≠H):(U+V*L=0∧U+V*H=0)↔U=0∧V=0:=by
 constructor
 ·rintro ⟨ab,ae⟩;have aF:V*(H-L)=0:=by grind
  rcases Int.mul_eq_zero.1 aF with ba | ba
  ·subst ba;simp at ab;exact ⟨ab,rfl⟩
  ·omega
 ·rintro ⟨rfl,rfl⟩;simp
theorem aa_ {p:qb} {o:List Int} {a:Nat}:HE p o a↔qL p.1 o a [] Prod.fst+qL p.1 o a [] Prod.snd*p.2.1=0∧qL p.1 o a [] Prod.fst+qL p.1 o a [] Prod.snd*p.2.2=0:=by
 unfold HE q7;rw [←MF,←MF,LG,LG]
theorem TW {p:qb} {o:List Int} {a i:Nat} {s:qv}:I1 p o a i s ↔
  (qL p.1 o a [(i:Int)] Prod.fst+qy o.length i*s.1)+(qL p.1 o a [(i:Int)] Prod.snd+qy o.length i*s.2)*p.2.1=0 ∧
  (qL p.1 o a [(i:Int)] Prod.fst+qy o.length i*s.1)+(qL p.1 o a [(i:Int)] Prod.snd+qy o.length i*s.2)*p.2.2=0:=by
 unfold I1;rw [LG,LG];have e:∀ (U V x c d D:Int),U+V*D+x*(c+d*D)=(U+x*c)+(V+x*d)*D:=fun U V x c d D=>by grind
 unfold q3;rw [e,e]
section
variable {p:qb} {o:List Int}
theorem Yl (h:qY p) (k:qo p.1.length o) {a:Nat}:Ij (p,()) o (a:Int) []=some ([],decide (HE p o a)):=by
 have hle:=h.le;have bD:=h.lo;have GO:=h.hi;unfold Ij;rw [OU (b:=(p,())) (W:=[]) h.s (rR k) (qo.len h k) k.1.symm (by simp),sb];have a7:=PZ (a:=a) (W:=[]) h.s (rR k) (qo.len h k);have a9:=RU (a:=a) (W:=[]) h.s (rR k) (qo.len h k);have bt:=H4 (b:=p.2.1) (B:=50) a9 (by omega);simp only;rw [qR (n:=qL p.1 o a [] Prod.snd*p.2.1) (by omega),qR (by omega)];congr 2;rw [vB];simp only [Bool.or_eq_true,sn,decide_eq_true_eq,Prod.mk.injEq];rw [aa_];by_cases he:p.2.1=p.2.2
 ·rw [Xy he];constructor
  ·rintro (⟨ab,ae⟩ | ⟨_,ab⟩)
   ·rw [ab,ae];simp
   ·exact ab
  ·exact fun ab=>.inr ⟨he,ab⟩
 ·rw [R0 he];constructor
  ·rintro (ab | ⟨ab,_⟩)
   ·exact ab
   ·exact absurd ab he
  ·exact .inl
theorem aen {s:q2×Nat} {k v:qV} {e:Nat×qV×qV} (h:e∈(HO s k v).1):(e.2.1=k∧e.2.2=v)∨e∈s.1:=by
 unfold HO at h;split at h
 ·obtain ⟨x,aj,rfl⟩:=sD.1 h;by_cases al:k=x.2.1
  ·rw [if_pos al];exact .inl ⟨rfl,rfl⟩
  ·rw [if_neg al];exact .inr aj
 ·rcases tf.1 h with h | h
  ·exact .inr h
  ·obtain rfl:=sS.1 h;exact .inl ⟨rfl,rfl⟩
theorem aeo (s:q2×Nat) (k v:qV):∃ e∈(HO s k v).1,e.2.1=k:=by
 unfold HO;split
 ·rename_i h;obtain ⟨x,aj,al⟩:=List.any_eq_true.1 h;exact ⟨_,td aj,by rw [if_pos (of_decide_eq_true al)]⟩
 ·exact ⟨(s.2,k,v),by simp,rfl⟩
theorem aep {s:q2×Nat} {k v:qV} {e:Nat×qV×qV} (h:e∈s.1):∃ cV∈(HO s k v).1,cV.2.1=e.2.1:=by
 unfold HO;split
 ·refine ⟨_,td h,?_⟩;by_cases al:k=e.2.1
  ·rw [if_pos al];exact al
  ·rw [if_neg al]
 ·exact ⟨e,by simp [h],rfl⟩
theorem Xo (lo hi x:Int):∀ (t:Nat) (e:Nat×qV×qV),e∈(Hj lo hi x t).1→∃ iE,iE<t∧e.2.2=I5 iE∧e.2.1=HT lo hi x (I5 iE).2 (I5 iE).1
 | 0,e,h=>by simp [Hj] at h
 | t+1,e,h=>by
   unfold Hj at h;rcases aen h with ⟨ab,ae⟩ | ab
   ·exact ⟨t,by omega,ae,ab⟩
   ·obtain ⟨iE,ae,aF⟩:=Xo lo hi x t e ab;exact ⟨iE,by omega,aF⟩
theorem RV (lo hi x:Int):∀ (t iE:Nat),iE<t→∃ e∈(Hj lo hi x t).1,e.2.1=HT lo hi x (I5 iE).2 (I5 iE).1
 | 0,_,h=>absurd h (by omega)
 | t+1,iE,h=>by
   unfold Hj;by_cases e:iE=t
   ·subst e;exact aeo _ _ _
   ·obtain ⟨e1,ab,ae⟩:=RV lo hi x t iE (by omega);obtain ⟨b',aF,ba⟩:=aep (k:=HT lo hi x ((t / 101:Nat)-10) ((t % 101:Nat))) (v:=((t % 101:Nat),(t / 101:Nat)-10)) ab;exact ⟨b',aF,ba.trans ae⟩
theorem adt {A:q2} {k:qV} (h:Jg A k=none):∀ e∈A,e.2.1≠k:=by
 unfold Jg at h;rw [Option.map_eq_none_iff,List.find?_eq_none] at h;intro e he al;exact h e he (decide_eq_true al.symm)
theorem adu {A:q2} {k v:qV} (h:Jg A k=some v):∃ e∈A,e.2.1=k∧e.2.2=v:=by
 unfold Jg at h;obtain ⟨e,ab,ae⟩:=Option.map_eq_some_iff.1 h;have aF:=List.find?_some ab;exact ⟨e,List.mem_of_find?_eq_some ab,(of_decide_eq_true aF).symm,ae⟩
theorem UF {L H x:Int} {s:qv} (aj:-10≤x∧x≤10) (ah:qM s) (fq:0≤L∧L≤50):HT L H x s.2 s.1=if L=H then (x*q3 L s,0) else (x*s.1,x*s.2):=by
 have af:=Lr ah fq;obtain ⟨ab,ae,aF,ba⟩:=ah;have bm:=H4 (a:=s.2) (b:=L) (A:=10) (B:=50) (by omega) (by omega);have cw:=H4 (a:=x) (b:=q3 L s) (A:=10) (B:=600) aj (by omega);have e2:=H4 (a:=x) (b:=s.1) (A:=10) (B:=100) aj (by omega);have lQ:=H4 (a:=x) (b:=s.2) (A:=10) (B:=10) aj (by omega);unfold HT;rw [qR (n:=s.2*L) (by omega),show s.1+s.2*L=q3 L s from rfl,qR (n:=q3 L s) (by omega),qR (n:=x*q3 L s) (by omega),qR (n:=x*s.1) (by omega),qR (n:=x*s.2) (by omega)]
def H0 (lo:Int) (s:qv):Int:=max (max s.1 (q3 lo s)) (-(q3 lo s))
def HG:List Int→Int
 | []=>0
 | x::r=>x+HG r
theorem Xt:∀ (a b:List Int),HG (a++b)=HG a+HG b
 | [],b=>by simp [HG]
 | x::a,b=>by simp only [List.cons_append,HG,Xt a b];omega
theorem agr {a b:List Int} (h:a.Perm b):HG a=HG b:=by
 induction h with
 | nil=>rfl
 | cons x _ a8=>simp only [HG,a8]
 | swap x y l=>simp only [HG];omega
 | trans _ _ ab ae=>exact ab.trans ae
theorem Xs {α:Type} [Inhabited α] (g:α→Int) (l:List α):∀ (k:Nat),k≤l.length→qE k (fun i=>g (ix l (i:Int)))=HG ((l.take k).map g)
 | 0,_=>rfl
 | k+1,h=>by
   rw [uZ (by omega),sP,Xt,←Xs g l k (by omega)];simp only [qE,sG,uz,HG];rw [ru (by omega)];omega
theorem RZ {α:Type} [Inhabited α] (g:α→Int) (l:List α):qE l.length (fun i=>g (ix l (i:Int)))=HG (l.map g):=by
 rw [Xs g l _ (sc _),List.take_length]
theorem QE {n i:Nat} (h:i<n):ix (qh n) (i:Int)=(i:Int):=by
 rw [ru (by simpa [qh] using h)];simp [qh]
theorem JZ (n:Nat):(qh n).length=n:=by simp [qh]
theorem Xr {S:List qv} {o:List Int} (k:qo S.length o) (g:qv→Int):qE o.length (fun i=>g (qt S o i))=HG (S.map g):=by
 have e1:=RZ (fun j=>g (ix S j)) o;have b':=RZ (fun j=>g (ix S j)) (qh S.length);have dA:=RZ g S;rw [agr ((JU.1 k).map _),←b',JZ] at e1;rw [←dA];refine e1.trans (Kl fun i hi=>?_);simp only [QE hi]
theorem agq {n:Nat} {g f:Nat→Int} (e:∀ i,i<n → -(f i)≤g i∧g i≤f i):-(qE n f)≤qE n g∧qE n g≤qE n f:=by
 induction n with
 | zero=>simp [qE]
 | succ n a8 =>
   have ab:=a8 fun i hi=>e i (by omega);have ae:=e n (by omega);simp only [qE];omega
theorem NF {lo:Int} {s:qv} (ah:qM s) (ao:0≤lo∧lo≤50):0≤H0 lo s∧H0 lo s≤600:=by
 have ab:=Lr ah ao;have ae:=ah.1;have aF:=ah.2.1;unfold H0;omega
theorem Vs {far lo:Int} (aP:0≤far∧far≤10) (ao:0≤lo∧lo≤50):∀ (l:List qv) (n:Int),(∀ s∈l,qM s)→0≤n→n+6000*l.length≤1000000→I2 far lo l n=n+far*HG (l.map (H0 lo))
 | [],n,_,_,_=>by simp [I2,HG]
 | s::r,n,ah,aI,af=>by
   have al:=ah s (by simp);have de:=Lr al ao;have bm:=H4 (a:=s.2) (b:=lo) (A:=10) (B:=50) ⟨al.2.2.1,al.2.2.2⟩ (by omega);have cw:=NF al ao;have e2:=H4 (a:=far) (b:=H0 lo s) (A:=10) (B:=600) (by omega) (by omega);have lQ:=Int.mul_nonneg aP.1 cw.1;have ab:=al.1;have ae:=al.2.1;rw [List.length_cons] at af;unfold I2;rw [qR (n:=s.2*lo) (by omega),show s.1+s.2*lo=q3 lo s from rfl,qR (n:=q3 lo s) (by omega),qR (n := -(q3 lo s)) (by omega),show max (max s.1 (q3 lo s)) (-(q3 lo s))=H0 lo s from rfl,qR (n:=far*H0 lo s) (by omega),qR (by omega)];rw [Vs aP ao r _ (fun s hl=>ah s (by simp [hl])) (by omega) (by omega),sG];simp only [HG];rw [Int.mul_add];omega
theorem QN (h:qY p) (k:qo p.1.length o) {a:Nat} {W:List Int} {f:qv→Int} (aP:∀ s,qM s → -(H0 p.2.1 s)≤f s∧f s≤H0 p.2.1 s) :
  -(qy o.length (o.length-1)*HG (p.1.map (H0 p.2.1)))≤qL p.1 o a W f∧qL p.1 o a W f≤qy o.length (o.length-1)*HG (p.1.map (H0 p.2.1)):=by
 have hle:=h.le;have bD:=h.lo;have GO:=h.hi;have aI:=h.n;rw [←k.1] at aI;rw [←Xr k (H0 p.2.1),←Ov];refine agq fun i hi=>?_;have ah:=IC h.s (rR k) hi;have aO:=NF ah (lo:=p.2.1) (by omega);have a_:-(qy o.length (o.length-1))≤qy o.length i∧qy o.length i≤qy o.length (o.length-1):=by unfold qy;omega
 split
 ·have ab:=aP _ ah;have ae:=H4 a_ ab;exact ae
 ·have:=Int.mul_nonneg (show 0≤qy o.length (o.length-1) by omega) aO.1;omega
theorem ah7 (h:qY p) (k:qo p.1.length o) {a i:Nat} (hi:i<o.length):∃ A,Mf (p,()) (qy o.length i)=some A∧(∀ e∈A,qM e.2.2∧e.2.1=HT p.2.1 p.2.2 (qy o.length i) e.2.2.2 e.2.2.1)∧∀ s,qM s→I1 p o a i s→∃ e∈A,e.2.1=HT p.2.1 p.2.2 (qy o.length i) s.2 s.1:=by
 have hle:=h.le;have bD:=h.lo;have GO:=h.hi;have aI:=h.n;have JP:=h.len;have aiI:=k.1;have fL:=qo.len h k;unfold Mf;simp only;rw [qB (by omega),show ((p.1.length:Int)-1)=((o.length-1:Nat):Int) by omega,qR (n:=((o.length-1:Nat):Int)) (by omega),OT (b:=(p,())) fL k.1.symm (by omega),sb];have Qv:0≤qy o.length (o.length-1)∧qy o.length (o.length-1)≤10:=by unfold qy;omega
 have Uv:=Vs Qv (lo:=p.2.1) (by omega) p.1 0 h.s (by omega) (by omega);rw [Int.zero_add] at Uv;rw [Uv];obtain ⟨M,CA⟩:∃ M,M=qy o.length (o.length-1)*HG (p.1.map (H0 p.2.1)):=⟨_,rfl⟩;have aiB:0≤M∧M≤1000000:=by
  have ab:=QN h k (a:=0) (W:=[]) (f:=fun _=>0) fun s ah=>by have:=NF ah (lo:=p.2.1) (by omega);omega
  have ae:=MZ (n:=o.length) (g:=fun i=>H0 p.2.1 (qt p.1 o i)) (B:=600) fun i hi=>by have:=NF (IC h.s (rR k) hi) (lo:=p.2.1) (by omega);omega
  rw [Xr k (H0 p.2.1)] at ae;have aF:=H4 (a:=qy o.length (o.length-1)) (A:=10) (by omega) ae;rw [←CA] at ab aF;omega
 rw [←CA,qR (n := -M) (by omega)];have hk:=LI hi fL;obtain ⟨x,aj⟩:∃ x,x=qy o.length i:=⟨_,rfl⟩;rw [←aj] at hk ⊢;refine ⟨_,rfl,fun e he=>?_,fun s ah Uq=>?_⟩
 ·obtain ⟨iE,ab,ae,aF⟩:=Xo _ _ _ _ _ (ta.1 he).1;have ba:iE<2121:=by
   by_cases aQ:x=0
   ·rw [if_pos aQ] at ab;omega
   ·rw [if_neg aQ] at ab;exact ab
  rw [ae];exact ⟨Xh ba,aF⟩
 ·have hP:∃ e∈(Hj p.2.1 p.2.2 x (if x=0 then 1 else 2121)).1,e.2.1=HT p.2.1 p.2.2 x s.2 s.1:=by
   by_cases aQ:x=0
   ·rw [if_pos aQ];obtain ⟨e,ab,ae⟩:=RV p.2.1 p.2.2 x 1 0 (by omega);refine ⟨e,ab,ae.trans ?_⟩;subst aQ;unfold HT;simp only [Int.zero_mul]
   ·rw [if_neg aQ];obtain ⟨t,ab,ae⟩:=Xg ah;rw [←ae];exact RV _ _ _ _ _ ab
  obtain ⟨e,ab,ae⟩:=hP;refine ⟨e,ta.2 ⟨ab,?_⟩,ae⟩;rw [ae,UF hk ah (by omega)];have CY:=TW.1 Uq;rw [←aj] at CY;by_cases he:p.2.1=p.2.2
  ·rw [if_pos he];(have bP:=QN h k (a:=a) (W:=[(i:Int)]) (f:=q3 p.2.1) fun s ah=>by unfold H0;omega);have bQ:=Uq.1;rw [←aj] at bQ;rw [←CA] at bP;simp only [sn,decide_eq_true_eq];omega
  ·rw [if_neg he];rw [R0 he] at CY;(have bP:=QN h k (a:=a) (W:=[(i:Int)]) (f:=Prod.fst) fun s ah=>by have:=ah.1;unfold H0;omega);rw [←CA] at bP;have bQ:=CY.1;simp only [sn,decide_eq_true_eq];omega
theorem UG (h:qY p) (k:qo p.1.length o) {a i:Nat} (hi:i<o.length) {s:qv} (ah:qM s) :
  HT p.2.1 p.2.2 (qy o.length i) s.2 s.1=(if p.2.1=p.2.2 then (w (w (-(qL p.1 o a [(i:Int)] Prod.fst))-w (qL p.1 o a [(i:Int)] Prod.snd*p.2.1)),0) else (w (-(qL p.1 o a [(i:Int)] Prod.fst)),w (-(qL p.1 o a [(i:Int)] Prod.snd))))↔I1 p o a i s:=by
 have hle:=h.le;have bD:=h.lo;have GO:=h.hi;have a7:=PZ (a:=a) (W:=[(i:Int)]) h.s (rR k) (qo.len h k);have a9:=RU (a:=a) (W:=[(i:Int)]) h.s (rR k) (qo.len h k);have bt:=H4 (b:=p.2.1) (B:=50) a9 (by omega);rw [UF (LI hi (qo.len h k)) ah (by omega),TW];rw [qR (n := -(qL p.1 o a [(i:Int)] Prod.fst)) (by omega),qR (n:=qL p.1 o a [(i:Int)] Prod.snd*p.2.1) (by omega),qR (n := -(qL p.1 o a [(i:Int)] Prod.snd)) (by omega),qR (by omega)];generalize qL p.1 o a [(i:Int)] Prod.fst=U;generalize qL p.1 o a [(i:Int)] Prod.snd=V;generalize qy o.length i=x;by_cases he:p.2.1=p.2.2
 ·rw [if_pos he,if_pos he,Xy he,Prod.mk.injEq];have e:U+x*s.1+(V+x*s.2)*p.2.1=U+V*p.2.1+x*q3 p.2.1 s:=by unfold q3;grind
  rw [e];constructor
  ·rintro ⟨ab,_⟩;omega
  ·intro ab;exact ⟨by omega,rfl⟩
 ·rw [if_neg he,if_neg he,R0 he,Prod.mk.injEq];constructor
  ·rintro ⟨ab,ae⟩;omega
  ·rintro ⟨ab,ae⟩;exact ⟨by omega,by omega⟩
theorem Yk (h:qY p) (k:qo p.1.length o) {a i:Nat} (hi:i<o.length) :
  (∃ s,Ij (p,()) o (a:Int) [(i:Int)]=some ([(ix o (i:Int),s)],true)∧qM s∧I1 p o a i s)∨(Ij (p,()) o (a:Int) [(i:Int)]=some ([],false)∧¬ Jz p o a i):=by
 unfold Ij;rw [OU (b:=(p,())) (W:=[(i:Int)]) h.s (rR k) (qo.len h k) k.1.symm (by simp),sb];obtain ⟨A,aL,ab,ae⟩:=ah7 h k (a:=a) hi;simp only;rw [OT (b:=(p,())) (qo.len h k) k.1.symm hi,sb,aL,sb];cases al:Jg A (if p.2.1=p.2.2 then (w (w (-(qL p.1 o a [(i:Int)] Prod.fst))-w (qL p.1 o a [(i:Int)] Prod.snd*p.2.1)),0) else (w (-(qL p.1 o a [(i:Int)] Prod.fst)),w (-(qL p.1 o a [(i:Int)] Prod.snd)))) with
 | none =>
   refine .inr ⟨rfl,fun ak=>?_⟩;obtain ⟨s,ah,aP⟩:=Mp.1 ak;obtain ⟨e,he,aci⟩:=ae s ah aP;exact adt al e he (aci.trans ((UG h k hi ah).2 aP))
 | some s =>
   obtain ⟨e,he,Da,rfl⟩:=adu al;obtain ⟨ah,pO⟩:=ab e he;refine .inl ⟨e.2.2,?_,ah,(UG h k hi ah).1 (pO.symm.trans Da)⟩;simp only;rw [qB (by omega)]
end
end Go.Proofs.YtkoioidpbbbaiaaGreat.Ab


namespace Go.Proofs.YtkoioidpbbbaiaaGreat.Ab
open Go
set_option maxRecDepth 20000
set_option maxHeartbeats 4000000

end Go.Proofs.YtkoioidpbbbaiaaGreat.Ab


namespace Go.Proofs.YtkoioidpbbbaiaaGreat.Ab
open Go
set_option maxRecDepth 20000
set_option maxHeartbeats 1000000
section
variable {p:qb} {o:List Int}
theorem qo.U4 (h:qY p) (k:qo p.1.length o):o.length≤7:=by have:=h.len;have:=k.1;omega
def I0 (p:qb) (o:List Int) (a:Nat):Nat:=if HE p o a then 0 else if ∃ i,i<o.length∧i % 2=a∧Jz p o a i then 1 else 2
theorem TS (p:qb) (o:List Int) (a:Nat):I0 p o a≤2:=by unfold I0;split <;> (try split) <;> omega
end
end Go.Proofs.YtkoioidpbbbaiaaGreat.Ab


namespace Go.Proofs.YtkoioidpbbbaiaaGreat.Ab
open Go
set_option maxRecDepth 20000
set_option maxHeartbeats 4000000
noncomputable def OZ:gE :=
 .loop (some (p8 false [1,3,4,1,58])) (.seq (p2 [p3 17 8,p3 18 2,qT 19 18,qm 20 17 19 .lss] (.cond (.nc 20) .skip (.exit 0))) (.seq (.block 1 (p2 [p3 23 2,p3 24 8,q5 25 23 24 3,p0 26 [.Bs 25] (.zE (.str 3)),p0 9 [] (.alloc [.int .i64 0,.int .i64 0,.int .i64 0]),⟨none,[.nc 9,.jq 26],none,none,.st 3⟩] (.seq (q8 [p0 27 [.nc 9] (.yM 0),qg 28 27,qw 29 28 0 .lss,p1 30 29,cl 31 [.nc 9] 30 false (.yM 0),cl 32 [.Bs 31] 30 false (.zE .one),cl 33 [.nc 3] 30 false (.yM 0),cl 34 [.Bs 33] 30 false (.zE .one),cl 35 [.jq 34] 30 false .zJ,cl 36 [.Bs 32,.Bs 35] 30 false (.bin .geq),p0 37 [.nc 30,.cv (.bool true),.Bs 36] .pick,p1 38 37,cl 39 [.nc 8] 38 false .mU,cl 40 [.Bs 39,.cv (.int .i64 0)] 38 false (.bin .gtr),cl 41 [.jq 40] 38 false .mU,cl 42 [.nc 9] 41 true (.yM 0),cl 43 [.Bs 42] 41 true (.zE .one),cl 44 [.nc 2] 41 true .mU,cl 45 [.nc 8] 41 true .mU,cl 46 [.Bs 45,.cv (.int .i64 1)] 41 true (.bin .sub),cl 47 [.Bs 44,.Bs 46] 41 true (.kY 3),cl 48 [.Bs 47] 41 true (.yM 0),cl 49 [.Bs 48] 41 true (.zE .one),cl 50 [.Bs 43,.Bs 49] 41 true (.bin .leq),cl 51 [.nc 41,.Bs 50,.cv (.bool false)] 38 false .pick,p0 52 [.nc 38,.cv (.bool true),.Bs 51] .pick,p1 53 52,cl 54 [.nc 9] 53 false (.yM 1),cl 55 [.Bs 54] 53 false (.zE (.str 2)),⟨some 56,[.cv (.func 53 [] []),.nc 55],some (53,false),none,.call 3⟩,cl 57 [.Bs 56] 53 false (.un .not),p0 58 [.nc 53,.cv (.bool true),.Bs 57] .pick]) (.cond (.nc 58) (p2 [qd 6 0,qd 7 3] .ret) .skip)))) (qF [p1 21 8,qP 22 21 1,p1 8 22])))
noncomputable def YD:gE :=
 p2 [p0 3 [.jq 0] .box,qd 6 0,qd 7 0] (.seq (p2 [p0 10 [.nc 3] (.zE (.str 3)),p3 11 1,p0 12 [.cv (.func 52 [] []),.nc 10,.nc 11] (.call 3),qw 13 12 0 .neq] (.cond (.nc 13) (p2 [p0 14 [.Bs 3] (.zE (.str 3)),p1 15 1,p0 16 [.cv (.func 52 [] []),.nc 14,.nc 15] (.call 3),qd 6 0,p1 7 16] .ret) .skip)) (.seq (p2 [qd 8 0] (.block 0 OZ)) (.seq (p2 [p0 59 [.Bs 3] (.zE (.str 3)),p3 60 2,p0 61 [.cv (.func 54 [] []),.nc 59,.nc 60] (.call 3),p1 62 1,p0 63 [.cv (.func 39 [] []),.nc 61,.nc 62] (.call 3),qw 64 63 0 .gtr] (.cond (.nc 64) (p2 [qd 6 0,qd 7 23] .ret) .skip)) (p2 [p1 65 2,qT 66 65,p1 6 66,qd 7 0] .ret))))
theorem adD:ql Tryz.prog Po 20=some (YD,67,[.tmp 6,.tmp 7]):=by kernel_rfl
def J1 (p:(qk×(Int×Int))) (changes:(List (Int×(Int×Int)))) (p_:Unit→Option (Int×Int)):Nat→Int→Option (Int×Int)
 | 0,_=>none
 | m+1,s1 =>
   if (decide (s1<(changes.length:Int)))=true then
    qs (0≤s1∧s1<(changes.length:Int)) <|
    if (decide ((ix changes s1).1<(0:Int)))=true then
     some ((0:Int),(3:Int))
    else
     if (decide ((p.1.length:Int)≤(ix changes s1).1))=true then
      some ((0:Int),(3:Int))
     else
      if (decide ((0:Int)<s1))=true then
       qs (0≤(w (s1-(1:Int)))∧(w (s1-(1:Int)))<(changes.length:Int)) <|
       if (decide ((ix changes s1).1≤(ix changes (w (s1-(1:Int)))).1))=true then
        some ((0:Int),(3:Int))
       else
        (Lf ((ix changes s1).2)).bind fun eK =>
        if eK=true then
         J1 p changes p_ m (w (s1+(1:Int)))
        else
         some ((0:Int),(3:Int))
      else
       (Lf ((ix changes s1).2)).bind fun r0 =>
       if r0=true then
        J1 p changes p_ m (w (s1+(1:Int)))
       else
        some ((0:Int),(3:Int))
   else
    p_ ()
def L_ (p:(qk×(Int×Int))) (order:p9) (changes:(List (Int×(Int×Int)))):Option (Int×Int) :=
 (Md p order).bind fun aS =>
 if (decide (aS≠(0:Int)))=true then
  (Md p order).bind fun bj =>
  some ((0:Int),bj)
 else
  J1 p changes (fun _ =>
    (Nd p changes).bind fun HQ =>
    (Ks HQ order).bind fun Ip =>
    if (decide ((0:Int)<Ip))=true then
     some ((0:Int),(23:Int))
    else
     some ((changes.length:Int),(0:Int))) qi (0:Int)
theorem ahn {p:(qk×(Int×Int))} {changes:(List (Int×(Int×Int)))} {p_:Unit→Option (Int×Int)} {s1:Int} {order:p9} {v:(Int×Int)} {Q:Hr}   (jJ:qH [.tmp 6,.tmp 7] Q (fun v=>(.tuple [(h0 v.1),(h0 v.2)])) v) (rf:∀ (J8:List ar) (qf:List I),p_ ()=some v→ry 67 [(1,(qG order .shared)),(2,(.av (changes.flatMap qn) changes.length .shared)),(3,(.ptr 0 0))] qf→Q (.exit 0) qf (ar.cells [(re p.1 .shared),(h0 p.2.1),(h0 p.2.2)]::J8)) {T:List I} (b0:eZ (p8 false [1,3,4,1,58]) T=qa 67 [(1,(qG order .shared)),(2,(.av (changes.flatMap qn) changes.length .shared)),(3,(.ptr 0 0)),(8,(h0 s1))]) (h:J1 p changes p_ qi s1=some v) :
  dQ Tryz.prog Po 20 0 none OZ T [ar.cells [(re p.1 .shared),(h0 p.2.1),(h0 p.2.2)]] Q:=by
 unfold OZ;refine wp_loop b0 ?_;refine .intro (fun m T H=>∃ (s1:Int) (SD:List ar),T=qa 67 [(1,(qG order .shared)),(2,(.av (changes.flatMap qn) changes.length .shared)),(3,(.ptr 0 0)),(8,(h0 s1))]∧H=(ar.cells [(re p.1 .shared),(h0 p.2.1),(h0 p.2.2)]::SD)∧J1 p changes p_ m s1=some v) qi ⟨s1,[],rfl,rfl,h⟩ ?_;clear h b0;rintro m T H ⟨s1,SD,rfl,rfl,h⟩;cases m
 ·exact rT h
 rename_i m;rw [J1.eq_2] at h;conv=>whnf
 refine bs h (fun qI h=>?_) fun qI h=>?_
 ·rw [qI];conv=>whnf
  refine qW h id fun q9 h=>?_;rw [IZ qn 3 HV changes s1 q9];conv=>whnf
  refine Ew (x:=ar.cells [(h0 (0:Int)),(h0 (0:Int)),(h0 (0:Int))]) (by first | exact qQ.h | rfl | (simp [sq,I.settle];done)) ?_
  conv=>whnf
  rw [HR];refine Ew (x:=ar.cells [(h0 (ix changes s1).1),(h0 (ix changes s1).2.1),(h0 (ix changes s1).2.2)]) (by first | exact qQ.h | rfl | (simp [sq,I.settle];done)) ?_
  conv=>whnf
  refine bs h (fun rH h=>?_) fun rH h=>?_
  ·rw [rH];(conv=>whnf);exact qe h jJ rfl rfl
  ·rw [rH];(conv=>whnf);refine Ew (x:=ar.cells [(h0 (ix changes s1).1),(h0 (ix changes s1).2.1),(h0 (ix changes s1).2.2)]) (by first | exact qQ.h | rfl | (simp [sq,I.settle];done)) ?_
   (conv=>whnf);refine bs h (fun qU h=>?_) fun qU h=>?_
   ·rw [qU];(conv=>whnf);exact qe h jJ rfl rfl
   ·rw [qU];(conv=>whnf);refine bs h (fun rN h=>?_) fun rN h=>?_
    ·rw [rN];(conv=>whnf);refine Ew (x:=ar.cells [(h0 (ix changes s1).1),(h0 (ix changes s1).2.1),(h0 (ix changes s1).2.2)]) (by first | exact qQ.h | rfl | (simp [sq,I.settle];done)) ?_
     (conv=>whnf);refine qW h id fun rE h=>?_;rw [IZ qn 3 HV changes (w (s1-(1:Int))) rE];(conv=>whnf);refine bs h (fun Hv h=>?_) fun Hv h=>?_
     ·rw [Hv];(conv=>whnf);exact qe h jJ rfl rfl
     ·rw [Hv];(conv=>whnf);refine Ew (x:=ar.cells [(h0 (ix changes s1).1),(h0 (ix changes s1).2.1),(h0 (ix changes s1).2.2)]) (by first | exact qQ.h | rfl | (simp [sq,I.settle];done)) ?_
      (conv=>whnf);obtain ⟨eK,Kd,h⟩:=p' h;refine ⟨qj.pl,_,Sh Kd,Hf,?_⟩;(conv=>whnf);cases eK
      ·(conv=>whnf);replace h:=Ho rfl h;exact qe h jJ rfl rfl
      ·(conv=>whnf);replace h:=Hp rfl h;exact ⟨m,sE m,(w (s1+(1:Int))),_,rfl,rfl,h⟩
    ·rw [rN];(conv=>whnf);refine Ew (x:=ar.cells [(h0 (ix changes s1).1),(h0 (ix changes s1).2.1),(h0 (ix changes s1).2.2)]) (by first | exact qQ.h | rfl | (simp [sq,I.settle];done)) ?_
     (conv=>whnf);obtain ⟨r0,KM,h⟩:=p' h;refine ⟨qj.pl,_,Sh KM,Hf,?_⟩;(conv=>whnf);cases r0
     ·(conv=>whnf);replace h:=Ho rfl h;exact qe h jJ rfl rfl
     ·(conv=>whnf);replace h:=Hp rfl h;exact ⟨m,sE m,(w (s1+(1:Int))),_,rfl,rfl,h⟩
 ·rw [qI];conv=>whnf
  exact rf _ _ h ⟨rfl,rfl⟩
theorem aho {p:(qk×(Int×Int))} {order:p9} {changes:(List (Int×(Int×Int)))} {v:(Int×Int)} (h:L_ p order changes=some v):qx 20 [(.agg [(.av (p.1.flatMap p7) p.1.length .shared),(h0 p.2.1),(h0 p.2.2)]),(.av (order.map h0) order.length .shared),(.av (changes.flatMap qn) changes.length .shared)] (.tuple [(h0 v.1),(h0 v.2)]):=by
 refine qK eG adD rfl (I4 (p6 rfl (p6 rfl rfl))) fun Q bp=>?_;have jJ:qH [.tmp 6,.tmp 7] Q (fun v=>(.tuple [(h0 v.1),(h0 v.2)])) v:=fun T H bE=>bp _ T H bE;unfold L_ at h;unfold YD;obtain ⟨HN,qD⟩:∃ c,OZ=c:=⟨_,rfl⟩;rw [qD];conv=>whnf
 obtain ⟨aS,gM,h⟩:=p' h;refine ⟨qj.pl,_,Yf gM,?_⟩;conv=>whnf
 refine bs h (fun gN h=>?_) fun gN h=>?_
 ·rw [gN];conv=>whnf
  obtain ⟨bj,qp,h⟩:=p' h;refine ⟨qj.pl,_,Yf qp,?_⟩;conv=>whnf
  exact qe h jJ rfl rfl
 ·rw [gN];conv=>whnf
  subst qD;refine ahn ?_ ?_ (by exact rfl) h
  ·exact fun T H bE=>jJ T H bE
  ·intro J8 qf h qA;obtain ⟨rD,rfl⟩:=qA.ex;(conv=>whnf);obtain ⟨HQ,Lz,h⟩:=p' h;refine ⟨qj.pl,_,ahV Lz,?_⟩;(conv=>whnf);obtain ⟨Ip,P6,h⟩:=p' h;refine ⟨qj.pl,_,X8 P6,?_⟩;(conv=>whnf);refine bs h (fun Mz h=>?_) fun Mz h=>?_
   ·rw [Mz];(conv=>whnf);exact qe h jJ rfl rfl
   ·rw [Mz];(conv=>whnf);exact qe h jJ rfl rfl
end Go.Proofs.YtkoioidpbbbaiaaGreat.Ab


namespace Go.Proofs.YtkoioidpbbbaiaaGreat.Ab
open Go
set_option maxRecDepth 20000
set_option maxHeartbeats 1000000
def rS:List qq→List qv→List qv
 | [],S=>S
 | c::r,S=>rS r (S.set c.1.toNat c.2)
theorem MX:∀ (l:List qq) (S:List qv),(rS l S).length=S.length
 | [],_=>rfl
 | c::r,S=>by rw [rS,MX r];simp
def Hx (n:Int):List qq→Int→Prop
 | [],_=>True
 | c::r,m=>m≤c.1∧c.1<n∧qM c.2∧Hx n r (c.1+1)
instance aeq (n:Int):∀ (l:List qq) (m:Int),Decidable (Hx n l m)
 | [],_=>isTrue trivial
 | c::r,m=>by unfold Hx;exact @instDecidableAnd _ _ _ (@instDecidableAnd _ _ _ (@instDecidableAnd _ _ _ (aeq n r (c.1+1))))
theorem RR {n:Int}:∀ {l:List qq} {S:List qv} {m:Int},Hx n l m→(∀ s∈S,qM s)→∀ s∈rS l S,qM s
 | [],_,_,_,h=>h
 | c::r,S,m,ao,h=>by
   refine RR (l:=r) ao.2.2.2 fun s ah=>?_;rcases List.mem_or_eq_of_mem_set ah with ab | ab
   ·exact h s ab
   ·rw [ab];exact ao.2.2.1
theorem TL {n:Nat} (aI:n≤1000):∀ (l:List qq) (S:List qv) (m:Int),S.length=n→0≤m→m≤1000→Lt n l S m=some (if Hx n l m then some (rS l S) else none)
 | [],S,m,_,_,_=>rfl
 | c::r,S,m,cp,hm,nP=>by
   unfold Lt;rw [qR (n:=(n:Int)-1) (by omega),Mc,sb];by_cases ab:m≤c.1∧c.1<(n:Int)
   ·rw [if_pos (by simp;omega),Yd,sb];by_cases ae:qM c.2
    ·rw [if_neg (by simpa using ae),qB (by omega),qR (by omega),TL aI r _ _ (by simp [cp]) (by omega) (by omega)];by_cases aF:Hx n r (c.1+1)
     ·rw [if_pos aF,if_pos ⟨ab.1,ab.2,ae,aF⟩];rfl
     ·rw [if_neg aF,if_neg fun k=>aF k.2.2.2]
    ·rw [if_pos (by simpa using ae),if_neg fun k=>ae k.2.2.1]
   ·rw [if_neg (by simp;omega),if_neg fun k=>ab ⟨k.1,k.2.1⟩]
theorem TK {n:Nat}:∀ (l:List qq) (S:List qv) (m:Int),S.length=n→0≤m→Hx n l m→KH l S=some (rS l S)
 | [],_,_,_,_,_=>rfl
 | c::r,S,m,cp,hm,ao=>by
   unfold KH;have ab:=ao.1;have ae:=ao.2.1;rw [qB (by omega)];exact TK r _ (c.1+1) (by simp [cp]) (by omega) ao.2.2.2
section
variable {p:qb} {o:List Int} {l:List qq}
theorem R8 (aB:p.1.length≤1000) (ao:o.length≤12) (ak:l.length≤1000):JE p o l=some (if rP p o=0 then (if Hx p.1.length l 0 then (if 0<qS (rS l p.1,p.2) o then (0,23) else ((l.length:Int),0)) else (0,3)) else (0,rP p o)):=by
 unfold JE;rw [OP aB ao,sb];by_cases h:rP p o=0
 ·rw [if_pos h,if_pos h];obtain ⟨ad,al⟩:=KS.1 h;have JP:=ad.len;simp only;rw [if_neg (by decide),qB ⟨fun e=>by rw [e] at JP;simp at JP,aB,ak⟩,TL aB l p.1 0 rfl (by omega) (by omega),sb];by_cases ab:Hx p.1.length l 0
  ·rw [if_pos ab,if_pos ab];simp only;have dg:qY (rS l p.1,p.2):=⟨by rw [MX];exact ad.n,RR ab ad.s,ad.lo,ad.le,ad.hi⟩;rw [M_ dg (by rw [MX];exact al),sb];by_cases ae:0<qS (rS l p.1,p.2) o
   ·rw [if_pos (decide_eq_true ae),if_pos ae]
   ·rw [if_neg (by simpa using ae),if_neg ae]
  ·rw [if_neg ab,if_neg ab]
 ·rw [if_neg h,if_neg h];simp only;rw [if_pos (decide_eq_true h)]
theorem UL (aB:p.1.length≤1000) (ak:l.length≤1000) {K:Option (Int×Int)}:∀ (m i:Nat),i≤l.length→l.length-i<m→∀ (t:Int),(i=0→t=0)→(0<i→t=(ix l ((i-1:Nat):Int)).1+1∧0<t∧t≤1000) →
  J1 p l (fun _=>K) m (i:Int)=if Hx p.1.length (l.drop i) t then K else some (0,3)
 | 0,_,_,h,_,_,_=>absurd h (by omega)
 | m+1,i,hi,hm,t,aQ,ab=>by
   rw [J1];by_cases aR:i<l.length
   ·rw [if_pos (decide_eq_true (by omega)),qB (by omega),s0 aR,←ru aR,H7 i (by omega)];have a8:=UL aB ak (K:=K) m (i+1) (by omega) (by omega) ((ix l (i:Int)).1+1) (fun e=>by omega);by_cases cu:(ix l (i:Int)).1<0
    ·rw [if_pos (decide_eq_true cu),if_neg];intro k;have:=k.1;by_cases e:i=0
     ·have:=aQ e;omega
     ·have:=ab (by omega);omega
    ·rw [if_neg (by simpa using by omega)];by_cases af:(p.1.length:Int)≤(ix l (i:Int)).1
     ·rw [if_pos (decide_eq_true af),if_neg fun k=>by have:=k.2.1;omega]
     ·rw [if_neg (by simpa using by omega),Yg];have fin:t≤(ix l (i:Int)).1→((some (decide (qM (ix l (i:Int)).2))).bind fun r=>if r=true then J1 p l (fun _=>K) m ((i+1:Nat):Int) else some (0,3))=if Hx p.1.length (ix l (i:Int)::l.drop (i+1)) t then K else some (0,3):=fun ax=>by
       rw [sb];by_cases ah:qM (ix l (i:Int)).2
       ·rw [if_pos (decide_eq_true ah),a8 fun _=>⟨by simp,by omega,by omega⟩];by_cases ai:Hx p.1.length (l.drop (i+1)) ((ix l (i:Int)).1+1)
        ·rw [if_pos ai,if_pos ⟨ax,by omega,ah,ai⟩]
        ·rw [if_neg ai,if_neg fun k=>ai k.2.2.2]
       ·rw [if_neg (by simpa using ah),if_neg fun k=>ah k.2.2.1]
      by_cases e:0<i
      ·obtain ⟨t1,t2,t3⟩:=ab e;rw [if_pos (decide_eq_true (by omega)),qR (by omega),show (i:Int)-1=((i-1:Nat):Int) by omega,qB (by omega)];by_cases a1:(ix l (i:Int)).1≤(ix l ((i-1:Nat):Int)).1
       ·rw [if_pos (decide_eq_true a1),if_neg fun k=>by have:=k.1;omega]
       ·rw [if_neg (by rw [decide_eq_true_eq];exact a1)];exact fin (by omega)
      ·rw [if_neg (by simpa using by omega)];exact fin (by have:=aQ (by omega);omega)
   ·rw [if_neg (by simpa using by omega),u_ (by omega),if_pos (show Hx _ [] t from trivial)]
theorem ahm (aB:p.1.length≤1000) (ao:o.length≤12) (ak:l.length≤1000):L_ p o l=some (if rP p o=0 then (if Hx p.1.length l 0 then (if 0<qS (rS l p.1,p.2) o then (0,23) else ((l.length:Int),0)) else (0,3)) else (0,rP p o)):=by
 unfold L_;rw [ahT aB (by omega),sb,sb];by_cases h:rP p o=0
 ·rw [if_neg (show ¬ decide (rP p o≠0)=true by simpa using h),if_pos h];obtain ⟨ad,al⟩:=KS.1 h;have JP:=ad.len;have:=UL aB ak (K:=(Nd p l).bind fun HQ=>(Ks HQ o).bind fun Ip=>if (decide ((0:Int)<Ip))=true then some ((0:Int),(23:Int)) else some ((l.length:Int),(0:Int))) qi 0 (by omega) (Ie (by omega)) 0 (fun _=>rfl) (fun h=>absurd h (by omega));rw [tq] at this;refine this.trans ?_;by_cases ab:Hx p.1.length l 0
  ·rw [if_pos ab,if_pos ab];unfold Nd;rw [qB ⟨fun e=>by rw [e] at JP;simp at JP,aB,ak⟩,TK l p.1 0 rfl (by omega) ab,sb,sb];have dg:qY (rS l p.1,p.2):=⟨by rw [MX];exact ad.n,RR ab ad.s,ad.lo,ad.le,ad.hi⟩;rw [X7 dg (by rw [MX];exact al),sb];by_cases ae:0<qS (rS l p.1,p.2) o
   ·rw [if_pos (decide_eq_true ae),if_pos ae]
   ·rw [if_neg (by simpa using ae),if_neg ae]
  ·rw [if_neg ab,if_neg ab]
 ·rw [if_pos (decide_eq_true h),if_neg h]
end
end Go.Proofs.YtkoioidpbbbaiaaGreat.Ab


namespace Go.Proofs.YtkoioidpbbbaiaaGreat.Ab
open Go
noncomputable def afn:gE :=
 .ov false [p1 48 9,p1 49 10,p0 50 [.Bs 49] (.yB 1 1 [.int .i64 0] [0]),p0 51 [.jq 48,.jq 50] (.app 1 8),p1 9 51]
noncomputable def Rd:gE :=
 p2 [p3 44 0,p3 45 10,p0 46 [.cv (.func 77 [] []),.jq 44,.jq 45] (.call 9),qw 47 46 0 .gtr] (.cond (.nc 47) afn .skip)
noncomputable def Re:gE :=
 .seq (p2 [p3 34 0,p3 35 1,p3 36 2,p3 37 10,p0 38 [.Bs 37] (.yB 1 1 [.int .i64 0] [0]),p0 39 [.cv (.func 60 [] []),.jq 34,.jq 35,.jq 36,.jq 38] (.call 1),p1 33 39,qJ 40 33 0,p0 41 [.Bs 33] (.ext 1),p1 11 40,p1 12 41] (p2 [p1 42 12] (.cond (.nc 42) (p2 [p1 43 11,p1 6 43] .ret) .skip))) Rd
noncomputable def WE:gE :=
 .seq (p2 [p3 29 10,qw 30 29 2 .rem,p3 31 2,qm 32 30 31 .neq] (.cond (.nc 32) (.exit 1) .skip)) Re
noncomputable def WG:gE :=
 .block 1 (p2 [p3 28 26,p1 10 28] WE)
noncomputable def Rf:gE :=
 .ov true [p1 59 13,p3 60 1,p3 61 15,q5 62 60 61 1,qg 63 62,p3 64 0,p0 65 [.Bs 64] .z4,qz 66 65 0,qz 67 66 0,qg 68 67,p3 69 1,p3 70 1,qT 71 70,qw 72 71 1 .sub,p3 73 15,qm 74 72 73 .sub,q5 75 69 74 1,qg 76 75,q5 77 68 76 2,p0 78 [.Bs 77] (.zE (.str 2)),p0 79 [.Bs 63,.Bs 78] (.build [.int .i64 0,.int .i64 0,.int .i64 0] [(0,1),(1,2)]),p0 80 [.Bs 79] (.yB 1 3 [.int .i64 0,.int .i64 0,.int .i64 0] [0]),p0 81 [.jq 59,.jq 80] (.app 3 24),p1 13 81]
noncomputable def WH:gE :=
 .block 3 (p2 [p0 57 [.nc 53,.nc 55] (.kY 1),qg 58 57,p1 15 58] Rf)
noncomputable def N6:gE :=
 .loop (some (p8 false [0,2,11,1,39,3,28])) (p2 [p0 56 [.nc 55,.nc 54] (.bin .lss)] (.seq (.cond (.nc 56) .skip (.exit 2)) (.seq WH (qF [qP 82 55 1,p1 55 82]))))
noncomputable def Rg:gE :=
 .seq (p2 [p1 53 9,p0 54 [.nc 53] .zJ,qd 55 0] (.block 2 N6)) (p2 [p1 83 13,p1 6 83] .ret)
noncomputable def N7:gE :=
 .loop (some (p8 false [0,3,6,1,15,2,57])) (p2 [p0 27 [.nc 26,.nc 25] (.bin .lss)] (.seq (.cond (.nc 27) .skip (.exit 0)) (.seq WG (qF [qP 52 26 1,p1 26 52]))))
noncomputable def Rh:gE :=
 .seq (p2 [p3 24 1,qT 25 24,qd 26 0] (.block 0 N7)) (p2 [p0 13 [.cv (.av [] 0 .full)] (.nil 3)] Rg)
noncomputable def WD:gE :=
 .seq (p2 [p3 17 0,p3 18 1,p3 19 2,p0 20 [.cv (.func 60 [] []),.jq 17,.jq 18,.jq 19,.cv (.av [] 0 .full)] (.call 1),p1 16 20,qJ 21 16 0,p0 22 [.Bs 16] (.ext 1),p1 7 21,p1 8 22] (p2 [p1 23 8] (.cond (.nc 23) (p2 [p0 6 [.cv (.av [] 0 .full)] (.nil 3)] .ret) .skip))) (p2 [p0 9 [.cv (.av [] 0 .full)] (.nil 1)] Rh)
noncomputable def N5:gE :=
 p2 [p0 6 [.cv (.av [] 0 .full)] (.nil 3)] WD
theorem QJ:ql Go.Proofs.Tryz.prog KD 57=some (N5,84,[.tmp 6]):=by kernel_rfl
end Go.Proofs.YtkoioidpbbbaiaaGreat.Ab


namespace Go.Proofs.YtkoioidpbbbaiaaGreat.Ab
open Go
set_option maxRecDepth 20000
set_option maxHeartbeats 4000000
def I' (b:rV) (order:List Int) (qu:Int):List Int→Nat→List Int→Option (Nat×(List qq ⊕ List Int))
 | [],k,ad=>some (k,.inr ad)
 | i::r,k,ad =>
   if i.tmod 2≠qu then I' b order qu r (k+1) ad
   else (Ij b order qu [i]).bind fun q=>if q.2=true then some (k+1,.inl q.1) else
    (J3 b i).bind fun p=>I' b order qu r (k+1) (if 0<p then ad++[i] else ad)
def I3 (b:rV) (order:List Int):List Int→List qq→Option (List qq)
 | [],out=>some out
 | i::r,out=>qs (0≤i∧i<(order.length:Int)) <| qs (0≤w (w (order.length-1)-i)∧w (w (order.length-1)-i)<(order.length:Int)) <|
   qs (0≤ix order (w (w (order.length-1)-i))∧ix order (w (w (order.length-1)-i))<(b.1.1.length:Int)) <|
   I3 b order r (out++[(ix order i,ix b.1.1 (ix order (w (w (order.length-1)-i))))])
theorem aev {b:rV} {m lo:Nat} {order ad:List Int} {v:List qq} (h:I3 b order ad []=some v) (ao:ad.length≤1000) {T:List I} {H:List ar} {Q:cQ→List I→List ar→Prop}
  (b0:eZ [true,true,false,false,false,false,false,false,false,false,false,false,false,true,false,false,false,false,false,false,false,false,false,false,false,false,false,false,false,false,false,false,false,false,false,false,false,false,false,false,false,false,false,false,false,false,false,false,false,false,false,false,false,true,true,true,false,false,false,false,false,false,false,false,false,false,false,false,false,false,false,false,false,false,false,false,false,false,false,false,false,false,false,false] T=qa 84 [(0,rL b m),(1,.av (order.map h0) order.length .shared),(13,.av [] 0 (.uniq 3)),(53,.av (ad.map h0) ad.length (.own 1)),(54,h0 ad.length),(55,h0 0)])
  (bp:∀ XH XI XJ XK,Q (.exit 2) (qa 84 [(0,rL b m),(1,.av (order.map h0) order.length .shared),(13,.av (v.flatMap qn) v.length (.uniq 3)),(53,XH),(54,XI),(55,XJ),(56,XK)]) H) :
  dQ Tryz.prog KD 57 lo none N6 T H Q:=by
 unfold N6;refine wp_loop b0 ?_;refine .intro (fun hr T H'=>∃ (i:Nat) (out:List qq),i≤ad.length∧hr=ad.length-i∧out.length=i∧I3 b order (ad.drop i) out=some v∧T=qa 84 [(0,rL b m),(1,.av (order.map h0) order.length .shared),(13,.av (out.flatMap qn) out.length (.uniq 3)),(53,.av (ad.map h0) ad.length (.own 1)),(54,h0 ad.length),(55,h0 i)]∧H'=H) ad.length ⟨0,[],sC _,rfl,rfl,h,rfl,rfl⟩ ?_;clear b0 h;rintro hr T H' ⟨i,out,hi,rfl,aq,al,rfl,rfl⟩;conv=>whnf
 refine Hm (fun aR=>?_) (fun aR=>?_)
 ·have HF:i<ad.length:=by omega
  have Il:0≤(i:Int)∧(i:Int)<(ad.length:Int):=by omega
  rw [s0 HF] at al;unfold I3 at al;obtain ⟨cf,al⟩:=rM al;obtain ⟨ca,al⟩:=rM al;obtain ⟨eS,al⟩:=rM al;unfold WH;obtain ⟨f',rU⟩:∃ c,Rf=c:=⟨_,rfl⟩;rw [rU];conv=>whnf
  refine ⟨Il,?_⟩;rw [rb h0 ad (i:Int) Il,ru HF];conv=>whnf
  subst rU;unfold Rf;conv=>whnf
  refine ⟨cf,?_⟩;rw [rb h0 order _ cf];conv=>whnf
  refine ⟨ca,?_⟩;rw [rb h0 order _ ca];conv=>whnf
  refine ⟨eS,?_⟩;rw [IZ p7 2 Kj b.1.1 _ eS];conv=>whnf
  refine ⟨rfl,by decide,?_⟩;conv=>whnf
  refine ⟨by decide,by omega,?_⟩;conv=>whnf
  have rq:IntKind.i64.wrap ((i:Int)+1)=((i+1:Nat):Int):=by rw [rY _ (by omega) (by omega)];omega
  refine ⟨ad.length-(i+1),by omega,i+1,_,by omega,rfl,by simp [aq],al,?_,rfl⟩;rw [rq,ug,sA];rfl
 ·have:i=ad.length:=by omega
  subst this;rw [List.drop_length] at al;obtain rfl:=Option.some.inj al;conv=>whnf
  exact bp _ _ _ _
theorem agA {n i:Nat} (h:i<n):(qh n).drop i=(i:Int)::(qh n).drop (i+1):=by
 have ao:i<(qh n).length:=by rw [K1];exact h
 rw [s0 ao];simp [qh]
theorem acJ {b:rV} {m lo k:Nat} {order:List Int} {qu:Int} {res:List qq ⊕ List Int} (h:I' b order qu (qh order.length) 0 []=some (k,res)) (ao:order.length≤1000) {Hs:Nat→List ar}
  (cp:∀ (i:Nat) q,(i:Int).tmod 2=qu→Ij b order qu [(i:Int)]=some q→Sem Tryz.prog (.fn 60) [rL b m,.av (order.map h0) order.length .shared,h0 qu,.av [h0 (i:Int)] 1 (.uniq 1)] (Hs i) lo (.tuple [.av (q.1.flatMap qn) q.1.length .shared,B q.2]) (Hs (i+1)))
  (bJ:∀ i:Nat,(i:Int).tmod 2≠qu→Hs (i+1)=Hs i) {T:List I} {Q:cQ→List I→List ar→Prop}
  (b0:eZ [true,true,true,false,false,false,false,false,false,true,false,false,false,false,false,false,false,false,false,false,false,false,false,false,false,true,true,false,false,false,false,false,false,false,false,false,false,false,false,false,false,false,false,false,false,false,false,false,false,false,false,false,false,false,false,false,false,false,false,false,false,false,false,false,false,false,false,false,false,false,false,false,false,false,false,false,false,false,false,false,false,false,false,false] T=qa 84 [(0,rL b m),(1,.av (order.map h0) order.length .shared),(2,h0 qu),(9,.av [] 0 (.uniq 1)),(25,h0 order.length),(26,h0 0)])
  (abw:∀ q T,res=.inl q→rK (Hs k) T [.tmp 6]=some [.av (q.flatMap qn) q.length .shared]→Q .ret T (Hs k))
  (abx:∀ ad XF Oz XG,res=.inr ad→ad.length≤order.length→Q (.exit 0) (qa 84 [(0,rL b m),(1,.av (order.map h0) order.length .shared),(2,h0 qu),(9,.av (ad.map h0) ad.length (.uniq 1)),(25,XF),(26,Oz),(27,XG)]) (Hs k)) :
  dQ Tryz.prog KD 57 lo none N7 T (Hs 0) Q:=by
 unfold N7;refine wp_loop b0 ?_;refine .intro (fun hr T H'=>∃ (i:Nat) (ad:List Int),i≤order.length∧hr=order.length-i∧ad.length≤i∧I' b order qu ((qh order.length).drop i) i ad=some (k,res)∧T=qa 84 [(0,rL b m),(1,.av (order.map h0) order.length .shared),(2,h0 qu),(9,.av (ad.map h0) ad.length (.uniq 1)),(25,h0 order.length),(26,h0 i)]∧H'=Hs i) order.length ⟨0,[],sC _,rfl,sc _,h,rfl,rfl⟩ ?_;clear b0 h;rintro hr T H' ⟨i,ad,hi,rfl,acf,al,rfl,rfl⟩;conv=>whnf
 have rq:i<order.length→IntKind.i64.wrap ((i:Int)+1)=((i+1:Nat):Int):=fun _=>by rw [rY _ (by omega) (by omega)];omega
 refine Hm (fun aR=>?_) (fun aR=>?_)
 ·have HF:i<order.length:=by omega
  rw [agA HF] at al;unfold I' at al;unfold WG WE;obtain ⟨bt,eS⟩:∃ c,Re=c:=⟨_,rfl⟩;rw [eS];conv=>whnf
  refine ⟨by decide,?_⟩;conv=>whnf
  by_cases Ke:(i:Int).tmod 2=qu
  ·rw [decide_eq_false (show ¬ ((i:Int).tmod 2≠qu) from fun h=>h Ke)];rw [if_neg (fun h=>h Ke)] at al;obtain ⟨q,a_,al⟩:=p' al;(conv=>whnf);subst eS;unfold Re;obtain ⟨a9,ca⟩:∃ c,Rd=c:=⟨_,rfl⟩;rw [ca];(conv=>whnf);refine ⟨_,_,rj (cp i q Ke a_),?_⟩;(conv=>whnf);obtain ⟨q1,aW⟩:=q;cases aW with
   | true =>
     rw [if_pos rfl] at al;obtain ⟨ab,ae⟩:=Prod.mk.inj (Option.some.inj al);subst ab;(conv=>whnf);exact abw _ _ ae.symm rfl
   | false =>
     rw [if_neg (by simp)] at al;obtain ⟨pl,hk,al⟩:=p' al;(conv=>whnf);subst ca;unfold Rd;(conv=>whnf);refine ⟨_,_,call9 (bs:=[lp b,h0 i]) rfl (p6 (H5 b) (p6 rfl rfl)) (Kz hk),?_⟩;(conv=>whnf);refine Hm (fun aB=>?_) (fun aB=>?_)
     ·rw [if_pos aB] at al;(conv=>whnf);refine ⟨rfl,by decide,?_⟩;(conv=>whnf);refine ⟨by decide,by omega,?_⟩;(conv=>whnf);refine ⟨order.length-(i+1),by omega,i+1,_,by omega,rfl,by simp;omega,al,?_,rfl⟩;rw [rq HF,sP,sA];rfl
     ·rw [if_neg aB] at al;(conv=>whnf);exact ⟨order.length-(i+1),by omega,i+1,ad,by omega,rfl,by omega,al,by rw [rq HF];rfl,rfl⟩
  ·rw [decide_eq_true (show (i:Int).tmod 2≠qu from Ke)];rw [if_pos Ke] at al;(conv=>whnf);refine ⟨order.length-(i+1),by omega,i+1,ad,by omega,rfl,by omega,al,by rw [rq HF];rfl,?_⟩;rw [bJ i Ke]
 ·have:i=order.length:=by omega
  subst this;rw [u_ (by rw [K1];omega)] at al;obtain ⟨ab,ae⟩:=Prod.mk.inj (Option.some.inj al);subst ab;conv=>whnf
  exact abx _ _ _ _ ae.symm acf
def Kx (b:rV) (order:List Int) (qu:Int):Option (List qq) :=
 qs (order.length≤1000) <|
 (Ij b order qu []).bind fun r=>if r.2=true then some [] else
 (I' b order qu (qh order.length) 0 []).bind fun q=>match q.2 with
 | .inl l=>some l
 | .inr ad=>I3 b order ad []
theorem H8.refl (m:Nat) (H:List ar):H8 m H H:=⟨sc _,fun _ _ _=>rfl⟩
theorem H8.trans {m:Nat} {H H1 H2:List ar} (h:H8 m H H1) (k:H8 m H1 H2):H8 m H H2 :=
 ⟨Nat.le_trans h.1 k.1,fun j aw ao=>by rw [k.2 j aw (by have:=h.1;omega),h.2 j aw ao]⟩
theorem Yi {b:rV} {order:List Int} {qu:Int} {v:List qq} (h:Kx b order qu=some v) {m lo:Nat} {H:List ar} (bD:lo≤m) (bG:HS b m H) :
  ∃ H' c,(c=.shared∨c=.uniq 3∨c=.own 3)∧HS b m H'∧H8 m H H'∧Sem Tryz.prog (.fn 57) [rL b m,.av (order.map h0) order.length .shared,h0 qu] H lo (.av (v.flatMap qn) v.length c) H':=by
 unfold Kx at h;obtain ⟨aI,h⟩:=rM h;obtain ⟨r,ai,h⟩:=p' h;have er:m<H.length:=by obtain ⟨_,_,ab,_⟩:=bG;exact (sa.1 ab).1
 obtain ⟨dC,o,aby⟩:=Ym ai (m:=m) (lo:=lo) (H:=H) (by omega);obtain ⟨aS,bj⟩:=r;have dC:aS=[]:=dC;subst dC
 classical
 obtain ⟨Hs,gL,Lx⟩:=Nx (fun i rA HW=>HS b m rA→(HS b m HW∧H8 m rA HW∧a' lo rA HW)∧(∀ q,(i:Int).tmod 2=qu→Ij b order qu [(i:Int)]=some q→Sem Tryz.prog (.fn 60) [rL b m,.av (order.map h0) order.length .shared,h0 qu,.av [h0 (i:Int)] 1 (.uniq 1)] rA lo (.tuple [.av (q.1.flatMap qn) q.1.length .shared,B q.2]) HW)∧((i:Int).tmod 2≠qu→HW=rA)) (H++[o]) (fun i rA=>by
  by_cases aP:HS b m rA
  ·by_cases hm:(i:Int).tmod 2=qu
   ·cases a_:Ij b order qu [(i:Int)] with
    | none=>exact ⟨rA,fun _=>⟨⟨aP,H8.refl _ _,a'.refl _ _⟩,(fun q _ h=>by cases h),fun h=>absurd hm h⟩⟩
    | some q =>
      obtain ⟨H',f1,f2,f3⟩:=Yn a_ bD aP;exact ⟨H',fun _=>⟨⟨f1,f2,f3.1⟩,(fun fW _ h=>by obtain rfl:=Option.some.inj h;exact f3),fun h=>absurd hm h⟩⟩
   ·exact ⟨rA,fun _=>⟨⟨aP,H8.refl _ _,a'.refl _ _⟩,fun q h _=>absurd h hm,fun _=>rfl⟩⟩
  ·exact ⟨rA,fun h=>absurd h aP⟩)
 have c1:∀ i,HS b m (Hs i)∧H8 m H (Hs i)∧a' lo H (Hs i):=fun i=>by
  induction i with
  | zero=>rw [gL];exact ⟨bG.more _,⟨by simp,fun j _ aw=>by rw [sg aw]⟩,a'.append _ _ _⟩
  | succ i a8 =>
    obtain ⟨⟨aA,aG,aT⟩,_,_⟩:=Lx i a8.1;exact ⟨aA,a8.2.1.trans aG,a8.2.2.trans aT⟩
 have start:∀ (Q:cQ→List I→List ar→Prop) (B9:gE),Rh=B9→(bj=true→∀ T,rK (H++[o]) T [.tmp 6]=some [.av [] 0 (.uniq 3)]→Q .ret T (H++[o]))→(bj=false→∀ Jm,dQ Tryz.prog KD 57 lo none B9 (qa 84 [(0,rL b m),(1,.av (order.map h0) order.length .shared),(2,h0 qu),(6,.av [] 0 (.uniq 3)),(7,Jm),(9,.av [] 0 (.uniq 1)),(23,.bool false)]) (H++[o]) Q) →
   dQ Tryz.prog KD 57 lo none N5 (qa 84 [(0,rL b m),(1,.av (order.map h0) order.length .shared),(2,h0 qu)]) H Q:=by
  intro Q B9 ab5 ab ae;unfold N5 WD;rw [ab5];conv=>whnf
  refine ⟨_,_,rj aby,?_⟩;conv=>whnf
  cases bj with
  | true =>
    (conv=>whnf);exact ab rfl _ rfl
  | false =>
    (conv=>whnf);exact ae rfl _
 cases bj with
 | true =>
   rw [if_pos rfl] at h;obtain rfl:=Option.some.inj h;refine ⟨H++[o],.uniq 3,.inr (.inl rfl),bG.more _,⟨by simp,fun j _ aw=>by rw [sg aw]⟩,?_⟩;refine rn eG QJ rfl (a'.append _ _ _) fun Q bp=>?_;refine start Q _ rfl (fun _ T b0=>?_) (fun h=>by cases h);exact bp _ _ _ ⟨.inr rfl,lI.refl _,by rw [b0];rfl⟩
 | false =>
   rw [if_neg (by simp)] at h;obtain ⟨⟨k,res⟩,ak,h⟩:=p' h;have pB:∀ (Q:cQ→List I→List ar→Prop),
     (∀ q T,res=.inl q→rK (Hs k) T [.tmp 6]=some [.av (q.flatMap qn) q.length .shared]→Q .ret T (Hs k)) →
     (∀ ad,res=.inr ad→∃ bo,I3 b order ad []=some bo∧∀ T,rK (Hs k) T [.tmp 6]=some [.av (bo.flatMap qn) bo.length (.uniq 3)]→Q .ret T (Hs k)) →
     dQ Tryz.prog KD 57 lo none N5 (qa 84 [(0,rL b m),(1,.av (order.map h0) order.length .shared),(2,h0 qu)]) H Q:=by
    intro Q ab ae;refine start Q _ rfl (fun h=>by cases h) fun _ Jm=>?_;unfold Rh;obtain ⟨a9,ca⟩:∃ c,N7=c:=⟨_,rfl⟩;obtain ⟨nv,Iv⟩:∃ c,Rg=c:=⟨_,rfl⟩;rw [ca,Iv];(conv=>whnf);subst ca;rw [←gL];refine acJ (b:=b) (m:=m) (lo:=lo) ak aI (Hs:=Hs) (fun i q hm a_=>(Lx i (c1 i).1).2.1 q hm a_) (fun i hm=>(Lx i (c1 i).1).2.2 hm) (by exact rfl) (fun q T a_ b0=>?_) (fun ad XF Oz XG a_ xe=>?_)
    ·(conv=>whnf);exact ab q T a_ b0
    ·obtain ⟨bo,aq,ai⟩:=ae ad a_;(conv=>whnf);subst Iv;unfold Rg;obtain ⟨a7,cf⟩:∃ c,N6=c:=⟨_,rfl⟩;rw [cf];(conv=>whnf);subst cf;refine aev (b:=b) (m:=m) (lo:=lo) aq (by omega) (by exact rfl) fun XH XI XJ XK=>?_;(conv=>whnf);exact ai _ rfl
   have LA:=c1 k;cases res with
   | inl l =>
     obtain rfl:=Option.some.inj h;refine ⟨Hs k,.shared,.inl rfl,LA.1,LA.2.1,?_⟩;refine rn eG QJ rfl LA.2.2 fun Q bp=>?_;refine pB Q (fun q T a_ b0=>?_) (fun ad a_=>by cases a_);injection a_ with a_;subst a_;exact bp _ _ _ ⟨.inr rfl,lI.refl _,by rw [b0];rfl⟩
   | inr ad =>
     refine ⟨Hs k,.uniq 3,.inr (.inl rfl),LA.1,LA.2.1,?_⟩;refine rn eG QJ rfl LA.2.2 fun Q bp=>?_;refine pB Q (fun q T a_ b0=>by cases a_) (fun bh a_=>⟨v,?_,fun T b0=>?_⟩)
     ·injection a_ with a_;subst a_;exact h
     ·exact bp _ _ _ ⟨.inr rfl,lI.refl _,by rw [b0];rfl⟩
end Go.Proofs.YtkoioidpbbbaiaaGreat.Ab


namespace Go.Proofs.YtkoioidpbbbaiaaGreat.Ab
open Go
noncomputable def afg:gE :=
 p2 [p3 19 3, qw 20 19 0 .lss] (.cond (.nc 20) (qF [p0 21 [.cv (.str (ByteArray.mk (Array.mk [108, 101, 110, 32, 111, 117, 116, 32, 111, 102, 32, 114, 97, 110, 103, 101])))] (.other (Oper.mk (some 21) (Op.makeInterface 9 (Operand.const (Value.string (ByteArray.mk (Array.mk [108, 101, 110, 32, 111, 117, 116, 32, 111, 102, 32, 114, 97, 110, 103, 101]))))) 20 "slices.go:496" (Array.mk []) none) 0), ⟨none, [.Bs 21], none, none, .other (Oper.mk none (Op.panic (Operand.tmp 21)) 0 "slices.go:496" (Array.mk [Edge.mk 0 Ground.data]) none) 0⟩]) .skip)
noncomputable def afh:gE :=
 p2 [p1 15 3,p1 16 5,qT 17 16,qm 18 15 17 .add,p1 3 18] afg
noncomputable def afi:gE :=
 .block 1 (p2 [p0 13 [.nc 9,.nc 11] (.kY 1),qg 14 13,p1 5 14] afh)
noncomputable def afj:gE :=
 .ov false [p1 31 6,p1 32 8,p0 33 [.jq 31,.jq 32] (.app 3 24),p1 6 33]
noncomputable def afk:gE :=
 .block 3 (p2 [p0 29 [.nc 25,.nc 27] (.kY 1),qg 30 29,p1 8 30] afj)
noncomputable def afl:gE :=
 .seq (p2 [p1 25 0,p0 26 [.nc 25] .zJ,qd 27 0] (.block 2 (.loop (some (p8 false [6,1,18,3,8])) (p2 [p0 28 [.nc 27,.nc 26] (.bin .lss)] (.seq (.cond (.nc 28) .skip (.exit 2)) (.seq afk (qF [qP 34 27 1,p1 27 34]))))))) (p2 [p1 35 6,p1 2 35] .ret)
noncomputable def afm:gE :=
 .seq (p2 [p3 9 0,p0 10 [.nc 9] .zJ,qd 11 0] (.block 0 (.loop (some (p8 false [0,1,2,1,5,3,24])) (p2 [p0 12 [.nc 11,.nc 10] (.bin .lss)] (.seq (.cond (.nc 12) .skip (.exit 0)) (.seq afi (qF [qP 22 11 1,p1 11 22]))))))) (p2 [p1 23 3,p0 24 [.cv (.func 76 [] []),.cv (.av [] 0 .full),.nc 23] (.call 0),p1 6 24] afl)
noncomputable def WC:gE :=
 p2 [p0 2 [.cv (.av [] 0 .full)] (.nil 3)] (p2 [qd 3 0] afm)
theorem adb:ql Go.Proofs.Tryz.prog Tg 56=some (WC,36,[.tmp 2]):=by kernel_rfl
end Go.Proofs.YtkoioidpbbbaiaaGreat.Ab


namespace Go.Proofs.YtkoioidpbbbaiaaGreat.Ab
open Go
set_option maxRecDepth 20000
set_option maxHeartbeats 4000000
noncomputable def Om (k:Nat) (args:List I):Option I:=match ga Go.Proofs.Tryz.prog jD (Ow []) 300 (.fn k) args [] 0 with
 | some (r,H2)=>match bM H2 0 H2.length 0 8 r with
   | some v=>match cr 8 v with
     | true=>some v
     | false=>none
   | none=>none
 | none=>none
theorem W9 {k:Nat} {args:List I} {v:I} (h:Om k args=some v):nn Go.Proofs.Tryz.prog k args v:=by
 unfold Om at h;split at h
 ·rename_i r H2 ak;split at h
  ·rename_i u aP;split at h
   ·rename_i aB;cases h;have ah:=(Cb eG jD (Xv (l:=[]) (by simp)) (Vy Ty) 300).Ha ak;refine ⟨⟨a'.refl _ _,ah.2.1,fun B aa J S w xs ag aI ad=>CallsIn.mono (ah.2.2 B aa J S w xs ag aI ad) fun e w' he=>?_⟩,aB⟩;cases e with
    | returned x=>exact xG ag (fun id aE=>by simp at aE) aP he
    | panicked c=>exact he.elim
    | outgrown=>exact he.elim
   ·cases h
  ·cases h
 ·cases h
def NP:I→Bool
 | .av [] 0 (.uniq 3)=>true
 | _=>false
theorem UD {v:I} (h:NP v=true):v=.av [] 0 (.uniq 3):=by
 unfold NP at h;split at h
 ·rfl
 ·cases h
theorem abk:((List.range 20).all fun n=>match Om 76 [.av [] 0 .full,.int .i64 ((n+1:Nat):Int)] with | some v=>NP v | none=>false)=true:=by kernel_rfl
theorem abl {n:Nat} (h:n<20):qx 76 [.av [] 0 .full,h0 ((n+1:Nat):Int)] (.av [] 0 (.uniq 3)):=by
 have:=List.all_eq_true.1 abk n (List.mem_range.2 h);split at this
 ·rename_i v ad;rw [UD this] at ad;exact W9 ad
 ·cases this
theorem aaU:(match Om 56 [.av [.av [] 0 .shared,.av [] 0 .shared] 2 (.uniq 1)] with | some v=>NP v | none=>false)=true:=by kernel_rfl
theorem aaS:qx 56 [.av [.av [] 0 .shared,.av [] 0 .shared] 2 (.uniq 1)] (.av [] 0 (.uniq 3)):=by
 have:=aaU;split at this
 ·rename_i v ad;rw [UD this] at ad;exact W9 ad
 ·cases this
abbrev LE (l:List qq):I:=.av (l.flatMap qn) l.length .shared
theorem aaT {l1 l2:List qq} (aI:l1.length+l2.length≤20) {H:List ar} {lo:Nat}:Sem Tryz.prog (.fn 56) [.av [LE l1,LE l2] 2 (.uniq 1)] H lo (.av ((l1++l2).flatMap qn) (l1++l2).length (.uniq 3)) H:=by
 by_cases aQ:l1.length+l2.length=0
 ·obtain rfl:=sO.1 (show l1.length=0 by omega);obtain rfl:=sO.1 (show l2.length=0 by omega);have:=Xb (H:=H) (by rfl) aaS;exact ⟨a'.refl _ _,this.2⟩
 obtain ⟨k,al⟩:∃ k,l1.length+l2.length=k+1:=⟨l1.length+l2.length-1,by omega⟩;refine rn eG adb rfl (a'.refl _ _) fun Q bp=>?_;unfold WC;conv=>whnf
 have bI:IntKind.i64.wrap (0+(l1.length:Int))=(l1.length:Int):=by rw [rY _ (by omega) (by omega)];omega
 have bX:IntKind.i64.wrap ((l1.length:Int)+(l2.length:Int))=((l1.length+l2.length:Nat):Int):=by rw [rY _ (by omega) (by omega)];omega
 refine .intro (fun m T H'=>(m=2∧T=qa 36 [(0,.av [LE l1,LE l2] 2 (.own 1)),(3,h0 0),(9,.av [LE l1,LE l2] 2 .shared),(10,h0 2),(11,h0 0)]∧H'=H)∨(m=1∧T=qa 36 [(0,.av [LE l1,LE l2] 2 (.own 1)),(3,h0 l1.length),(9,.av [LE l1,LE l2] 2 .shared),(10,h0 2),(11,h0 1)]∧H'=H)∨(m=0∧T=qa 36 [(0,.av [LE l1,LE l2] 2 (.own 1)),(3,h0 ((l1.length+l2.length:Nat):Int)),(9,.av [LE l1,LE l2] 2 .shared),(10,h0 2),(11,h0 2)]∧H'=H)) 2 (.inl ⟨rfl,rfl,rfl⟩) ?_;rintro m T H' (⟨rfl,rfl,rfl⟩ | ⟨rfl,rfl,rfl⟩ | ⟨rfl,rfl,rfl⟩)
 ·conv=>whnf
  refine ⟨by decide,?_⟩;conv=>whnf
  rw [bI,decide_eq_false (show ¬ ((l1.length:Int)<0) by omega)];conv=>whnf
  exact ⟨1,by decide,.inr (.inl ⟨rfl,rfl,rfl⟩)⟩
 ·conv=>whnf
  refine ⟨by decide,?_⟩;conv=>whnf
  rw [bX,decide_eq_false (show ¬ (((l1.length+l2.length:Nat):Int)<0) by omega)];conv=>whnf
  exact ⟨0,by decide,.inr (.inr ⟨rfl,rfl,rfl⟩)⟩
 ·conv=>whnf
  rw [al];refine ⟨_,_,Mo (p6 rfl (p6 rfl rfl)) (abl (n:=k) (by omega)) _ _,?_⟩;conv=>whnf
  have bm:(l1.flatMap qn).length=l1.length*3:=HZ qn 3 (fun _=>rfl) l1;have cw:(l2.flatMap qn).length=l2.length*3:=HZ qn 3 (fun _=>rfl) l2;refine .intro (fun m T H2=>(m=2∧T=qa 36 [(6,.av [] 0 (.uniq 3)),(25,.av [LE l1,LE l2] 2 (.own 1)),(26,h0 2),(27,h0 0)]∧H2=H')∨(m=1∧T=qa 36 [(6,.av (l1.flatMap qn) l1.length (.uniq 3)),(25,.av [LE l1,LE l2] 2 (.own 1)),(26,h0 2),(27,h0 1)]∧H2=H')∨(m=0∧T=qa 36 [(6,.av ((l1++l2).flatMap qn) (l1++l2).length (.uniq 3)),(25,.av [LE l1,LE l2] 2 (.own 1)),(26,h0 2),(27,h0 2)]∧H2=H')) 2 (.inl ⟨rfl,rfl,rfl⟩) ?_;rintro m T H2 (⟨rfl,rfl,rfl⟩ | ⟨rfl,rfl,rfl⟩ | ⟨rfl,rfl,rfl⟩)
  ·(conv=>whnf);refine ⟨by decide,?_⟩;(conv=>whnf);refine ⟨bm,by omega,rfl,by omega,?_⟩;(conv=>whnf);refine ⟨1,by decide,.inr (.inl ⟨rfl,?_,rfl⟩)⟩;rw [sy];rfl
  ·(conv=>whnf);refine ⟨by decide,?_⟩;(conv=>whnf);refine ⟨cw,by omega,rfl,by omega,?_⟩;(conv=>whnf);refine ⟨0,by decide,.inr (.inr ⟨rfl,?_,rfl⟩)⟩;rw [ug,sA];rfl
  ·(conv=>whnf);exact bp _ _ _ ⟨.inr rfl,lI.refl _,rfl⟩

noncomputable def YZ:gE :=
 p2 [p0 2 [.jq 0] .box,p0 3 [.jq 1] .box,qd 4 0] (p2 [qz 5 2 0,qg 6 5,qz 7 3 0,qg 8 7,qm 9 6 8 .sub,p1 4 9] .ret)
theorem adZ:ql Tryz.prog Ti 59=some (YZ,10,[.tmp 4]):=by kernel_rfl
def Yj (x:(Int×(Int×Int))) (y:(Int×(Int×Int))):Option Int :=
 some (w (x.1-y.1))
theorem ahW {x:(Int×(Int×Int))} {y:(Int×(Int×Int))} {v:Int} (h:Yj x y=some v):qx 59 [(.agg [(h0 x.1),(h0 x.2.1),(h0 x.2.2)]),(.agg [(h0 y.1),(h0 y.2.1),(h0 y.2.2)])] (h0 v):=by
 refine qK eG adZ rfl rfl fun Q bp=>?_;have jJ:qH [.tmp 4] Q (fun v=>(h0 v)) v:=fun T H bE=>bp _ T H bE;unfold Yj at h;unfold YZ;conv=>whnf
 exact qe h jJ rfl rfl
end Go.Proofs.YtkoioidpbbbaiaaGreat.Ab


namespace Go.Proofs.YtkoioidpbbbaiaaGreat.Ab
open Go
noncomputable def afo:gE :=
 .ov false [p1 7 0,p3 8 4,p1 9 4,p0 10 [.Bs 9] (.conv .u64),p0 11 [.cv (.func 79 [] []),.nc 10] (.call 3),p1 12 1,p0 13 [.cv (.func 78 [] []),.jq 7,.cv (.int .i64 0),.jq 8,.jq 11,.jq 12] (.call 1)]
noncomputable def Ri:gE :=
 p2 [p3 5 0,qT 6 5,p1 4 6] afo
theorem Va:ql Go.Proofs.Tryz.prog Th 58=some (Ri,14,[]):=by kernel_rfl
noncomputable def MR:gE :=
 p2 [p1 26 0,p1 27 1,p1 28 2,p1 29 4,p0 30 [.cv (.func 90 [] []),.jq 26,.jq 27,.jq 28,.jq 29] (.call 1)] .ret
noncomputable def afC:gE :=
 p2 [p1 33 0,p1 34 1,p1 35 2,p1 36 4,p0 37 [.cv (.func 91 [] []),.jq 33,.jq 34,.jq 35,.jq 36] (.call 1)] .ret
noncomputable def afD:gE :=
 p2 [p3 40 0,p3 41 1,p3 42 2,p3 43 4,p0 44 [.cv (.func 92 [] []),.jq 40,.jq 41,.jq 42,.jq 43] (.call 1)] (qF [p1 45 3,qw 46 45 1 .sub,p1 3 46])
noncomputable def afE:gE :=
 p2 [p3 62 2,qw 63 62 1 .sub,p1 64 13,p3 65 1,qm 66 64 65 .sub,qm 67 63 66 .sub,p1 13 67] (qF [qd 14 1])
noncomputable def afF:gE :=
 p2 [p3 57 0,p3 58 1,p3 59 2,p3 60 4,p0 61 [.cv (.func 94 [] []),.jq 57,.jq 58,.jq 59,.jq 60] (.call 1)] afE
noncomputable def afG:gE :=
 p2 [p3 76 0,p3 77 1,p3 78 2,p3 79 4,p0 80 [.cv (.func 95 [] []),.jq 76,.jq 77,.jq 78,.jq 79] (.call 1)] (.cond (.nc 80) .ret .skip)
noncomputable def afH:gE :=
 p2 [p3 98 0,p1 99 1,p3 100 2,p1 101 13,p3 102 4,p0 103 [.cv (.func 96 [] []),.jq 98,.jq 99,.jq 100,.jq 101,.jq 102] (.call 1),p1 15 103] (p2 [p1 104 15,p1 1 104] (.exit 1))
noncomputable def afI:gE :=
 p2 [p3 129 0,p1 130 1,p3 131 16,p3 132 3,p3 133 4,p0 134 [.cv (.func 78 [] []),.jq 129,.jq 130,.jq 131,.jq 132,.jq 133] (.call 1)] (qF [p1 135 16,qP 136 135 1,p1 1 136])
noncomputable def afJ:gE :=
 p2 [p1 126 18,p1 127 20,qm 128 126 127 .geq,p1 10 128] afI
noncomputable def afu:gE :=
 p2 [p3 140 0,p3 141 16,qP 142 141 1,p1 143 2,p3 144 3,p3 145 4,p0 146 [.cv (.func 78 [] []),.jq 140,.jq 142,.jq 143,.jq 144,.jq 145] (.call 1)] (qF [p1 147 16,p1 2 147])
noncomputable def afv:gE :=
 p2 [p1 137 19,p1 138 20,qm 139 137 138 .geq,p1 10 139] afu
noncomputable def afw:gE :=
 p2 [p1 121 12,qw 122 121 8 .quo,p1 20 122] (p2 [p3 123 18,p3 124 19,qm 125 123 124 .lss] (.cond (.nc 125) afJ afv))
noncomputable def afx:gE :=
 p2 [p3 115 16,p3 116 1,qm 117 115 116 .sub,p3 118 2,p3 119 16,qm 120 118 119 .sub,p1 18 117,p1 19 120] afw
noncomputable def afy:gE :=
 p2 [p3 106 0,p3 107 1,p3 108 2,p1 109 13,p3 110 4,p0 111 [.cv (.func 97 [] []),.jq 106,.jq 107,.jq 108,.jq 109,.jq 110] (.call 1),p1 105 111,qJ 112 105 0,p0 113 [.Bs 105] (.ext 1),p1 16 112,p1 17 113] (p2 [p1 114 17,p1 11 114] afx)
noncomputable def afz:gE :=
 .seq (.seq (q8 [p3 81 1,qw 82 81 0 .gtr,p1 83 82,cl 84 [.nc 4] 83 true .mU,cl 85 [.nc 0] 83 true .mU,cl 86 [.nc 1] 83 true .mU,cl 87 [.Bs 86,.cv (.int .i64 1)] 83 true (.bin .sub),cl 88 [.Bs 85,.Bs 87] 83 true (.kY 3),cl 89 [.Bs 88] 83 true (.zE (.str 3)),cl 90 [.nc 0] 83 true .mU,cl 91 [.nc 13] 83 true .mU,cl 92 [.Bs 90,.Bs 91] 83 true (.kY 3),cl 93 [.Bs 92] 83 true (.zE (.str 3)),cl 94 [.nc 84,.nc 89,.nc 93] 83 true (.call 6),cl 95 [.Bs 94,.cv (.int .i64 0)] 83 true (.bin .lss),cl 96 [.Bs 95] 83 true (.un .not),p0 97 [.nc 83,.Bs 96,.cv (.bool false)] .pick]) (.cond (.nc 97) afH .skip)) afy
noncomputable def afA:gE :=
 .seq (p2 [p3 68 10,p1 69 68,cl 70 [.nc 11] 69 true .mU,p0 71 [.Bs 69,.Bs 70,.cv (.bool false)] .pick,p1 72 71,cl 73 [.jq 14] 72 true .mU,cl 74 [.Bs 73,.cv (.int .i64 1)] 72 true (.bin .eql),p0 75 [.Bs 72,.Bs 74,.cv (.bool false)] .pick] (.cond (.nc 75) afG .skip)) afz
noncomputable def afB:gE :=
 p2 [p3 48 0,p3 49 1,p3 50 2,p3 51 4,p0 52 [.cv (.func 93 [] []),.jq 48,.jq 49,.jq 50,.jq 51] (.call 1),p1 47 52,qJ 53 47 0,p0 54 [.Bs 47] (.ext 1),p1 13 53,p1 14 54] (.seq (p2 [p3 55 14,qw 56 55 2 .eql] (.cond (.nc 56) afF .skip)) afA)
noncomputable def Rs:gE :=
 .seq (p2 [p3 31 3,qw 32 31 0 .eql] (.cond (.nc 32) afC .skip)) (.seq (p2 [p3 38 10,p0 39 [.Bs 38] (.un .not)] (.cond (.nc 39) afD .skip)) afB)
noncomputable def MS:gE :=
 .block 1 (p2 [p3 21 2,p3 22 1,qm 23 21 22 .sub,p1 12 23] (.seq (p2 [p3 24 12,qw 25 24 12 .leq] (.cond (.nc 25) MR .skip)) Rs))
noncomputable def Rr:gE :=
 p2 [p0 10 [.cv (.bool true)] .mU] (p2 [p0 11 [.cv (.bool true)] .mU] (.block 0 (.loop (some (p8 false [0,5,5,2,136])) MS)))
theorem Vd:ql Go.Proofs.Tryz.prog Tr 78=some (Rr,148,[]):=by kernel_rfl
noncomputable def afN:gE :=
 .block 3 (q8 [p3 37 0,p3 38 9,p3 39 0,p3 40 9,qw 41 40 1 .sub,p3 42 0,p3 43 9,qw 44 43 1 .sub,q5 45 42 44 3,p0 46 [.Bs 45] (.zE (.str 3)),p3 47 0,p3 48 9,q5 49 47 48 3,p0 50 [.Bs 49] (.zE (.str 3)),q5 51 37 38 3,⟨none,[.jq 51,.jq 46],none,none,.st 3⟩,q5 52 39 41 3,⟨none,[.jq 52,.jq 50],none,none,.st 3⟩])
noncomputable def afO:gE :=
 .seq (.seq (q8 [p3 18 9,p3 19 1,qm 20 18 19 .gtr,p1 21 20,cl 22 [.nc 3] 21 true .mU,cl 23 [.nc 0] 21 true .mU,cl 24 [.nc 9] 21 true .mU,cl 25 [.Bs 23,.Bs 24] 21 true (.kY 3),cl 26 [.Bs 25] 21 true (.zE (.str 3)),cl 27 [.nc 0] 21 true .mU,cl 28 [.nc 9] 21 true .mU,cl 29 [.Bs 28,.cv (.int .i64 1)] 21 true (.bin .sub),cl 30 [.Bs 27,.Bs 29] 21 true (.kY 3),cl 31 [.Bs 30] 21 true (.zE (.str 3)),cl 32 [.nc 22,.nc 26,.nc 31] 21 true (.call 6),cl 33 [.Bs 32,.cv (.int .i64 0)] 21 true (.bin .lss),p0 34 [.nc 21,.Bs 33,.cv (.bool false)] .pick]) (.cond (.nc 34) .skip (.exit 2))) (.seq afN (qF [p1 35 9,qw 36 35 1 .sub,p1 9 36]))
noncomputable def afP:gE :=
 .block 1 (p2 [p3 17 8,p1 9 17] (.block 2 (.loop (some (p8 false [0,4,4,2,43])) afO)))
noncomputable def afQ:gE :=
 .seq (p2 [p3 12 8,p3 13 2,qm 14 12 13 .lss] (.cond (.nc 14) .skip (.exit 0))) (.seq afP (qF [p1 15 8,qP 16 15 1,p1 8 16]))
noncomputable def RN:gE :=
 p2 [p3 10 1,qP 11 10 1,p1 8 11] (.block 0 (.loop (some (p8 false [0,4,4,1,44])) afQ))
theorem Vf:ql Go.Proofs.Tryz.prog Tx 90=some (RN,53,[]):=by kernel_rfl
end Go.Proofs.YtkoioidpbbbaiaaGreat.Ab


namespace Go.Proofs.YtkoioidpbbbaiaaGreat.Ab
open Go
set_option maxRecDepth 20000
set_option maxHeartbeats 4000000
def qO (S:List qq) (j:Nat):qq:=ix S (j:Int)
def JY (S:List qq) (j:Nat):List qq:=(S.set (j+1) (qO S j)).set j (qO S (j+1))
def MB (x y:qq):Bool:=decide (w (x.1-y.1)<0)
def H3:Nat→List qq→List qq
 | 0,S=>S
 | j+1,S=>if MB (qO S (j+1)) (qO S j)=true then H3 j (JY S j) else S
def Iy:Nat→Nat→List qq→List qq
 | 0,_,S=>S
 | m+1,i,S=>Iy m (i+1) (H3 i S)
def rW (S:List qq):List qq:=Iy (S.length-1) 1 S
theorem Xu (S:List qq) (j:Nat):(JY S j).length=S.length:=by simp [JY]
theorem Uy:∀ (j:Nat) (S:List qq),(H3 j S).length=S.length
 | 0,S=>rfl
 | j+1,S=>by
   unfold H3;split
   ·rw [Uy j,Xu]
   ·rfl
theorem Xe (S:List qq) (i:Nat) (c:qq) (h:i<S.length):(((S.flatMap qn).set (i*3) (h0 c.1)).set (i*3+1) (h0 c.2.1)).set (i*3+2) (h0 c.2.2)=(S.set i c).flatMap qn:=by
 induction S generalizing i with
 | nil=>exact absurd h (by simp)
 | cons s S a8 =>
   cases i with
   | zero=>rfl
   | succ i =>
     have:=a8 i (by simpa using h);show (((h0 s.1::h0 s.2.1::h0 s.2.2::S.flatMap qn).set ((i+1)*3) (h0 c.1)).set ((i+1)*3+1) (h0 c.2.1)).set ((i+1)*3+2) (h0 c.2.2)=h0 s.1::h0 s.2.1::h0 s.2.2::(S.set i c).flatMap qn;rw [←this,show (i+1)*3=i*3+1+1+1 by omega];rfl
abbrev Is (S:List qq):ar:=.cells (S.flatMap qn)
theorem acE {H:List ar} {id lo n:Nat} (bD:lo≤id) {S:List qq} (aI:S.length=n) (za:n≤100) (ag:H[id]?=some (Is S)) :
  Sem Tryz.prog (.fn 90) [.ref id 0 n none 3,h0 0,h0 n,.func 59 [] []] H lo (.tuple []) (H.set id (Is (rW S))):=by
 have aE:=(sa.1 ag).1;refine rn eG Vf rfl ⟨by simp,fun j ab ae=>by rw [sd (by omega)]⟩ fun Q bp=>?_;have CI:Nat.ble lo id=true:=tj bD;have gs:∀ c:ar,(H.set id c)[id]?=some c:=fun c=>by rw [sj aE]
 have JM:∀ c e:ar,(H.set id c).set id e=H.set id e:=fun c e=>List.set_set ..;unfold RN;conv=>whnf
 refine .intro (fun m T H'=>∃ (i:Nat) (S':List qq),1≤i∧(i≤n∨i=1)∧m=n-i∧S'.length=n∧Iy (n-i) i S'=rW S∧T=qa 53 [(0,.ref id 0 n none 3),(1,h0 0),(2,h0 n),(3,.func 59 [] []),(8,h0 i)]∧H'=H.set id (Is S')) (n-1) ⟨1,S,sc _,.inr rfl,rfl,aI,by rw [←aI];rfl,rfl,?_⟩ ?_
 ·obtain ⟨ab,ae⟩:=sa.1 ag;rw [←ae,List.set_getElem_self]
 rintro m T H' ⟨i,S',acg,ach,rfl,pk,he,rfl,rfl⟩;have TR:i<n→IntKind.i64.wrap ((i:Int)+1)=((i+1:Nat):Int):=fun _=>by rw [rY _ (by omega) (by omega)];omega
 conv=>whnf
 refine Hm (fun aR=>?_) (fun aR=>?_)
 ·have HF:i<n:=by omega
  conv=>whnf
  refine .intro (fun j T H'=>∃ bL:List qq,j≤i∧bL.length=n∧H3 j bL=H3 i S'∧T=qa 53 [(0,.ref id 0 n none 3),(1,h0 0),(2,h0 n),(3,.func 59 [] []),(8,h0 i),(9,h0 j)]∧H'=H.set id (Is bL)) i ⟨S',sc _,pk,rfl,rfl,rfl⟩ ?_;rintro j T H' ⟨bL,aw,P3,KN,rfl,rfl⟩;have pE:(bL.flatMap qn).length=bL.length*3:=HZ qn 3 (fun _=>rfl) bL;conv=>whnf
  cases j with
  | zero =>
    (conv=>whnf);refine ⟨n-(i+1),by omega,i+1,bL,by omega,by omega,rfl,P3,?_,by rw [TR HF];rfl,rfl⟩;rw [←he,show n-i=(n-(i+1))+1 by omega];show _=Iy (n-(i+1)) (i+1) (H3 i S');rw [←KN];rfl
  | succ y =>
    (have hw:IntKind.i64.wrap (((y+1:Nat):Int)-1)=(y:Int):=by rw [rY _ (by omega) (by omega)];omega);rw [decide_eq_true (show (0:Int)<((y+1:Nat):Int) by omega)];(conv=>whnf);refine ⟨by omega,?_⟩;(conv=>whnf);refine Ew (gs _) ?_;(have gM:0≤((y+1:Nat):Int)∧((y+1:Nat):Int)<(bL.length:Int):=by omega);(have iS:0≤(y:Int)∧(y:Int)<(bL.length:Int):=by omega);(conv=>whnf);refine MV qn 3 HV bL ((y+1:Nat):Int) gM rfl ?_;(conv=>whnf);refine JC qn 3 HV bL ((y+1:Nat):Int) gM 1 rfl ?_;(conv=>whnf);refine JC qn 3 HV bL ((y+1:Nat):Int) gM 2 rfl ?_;(conv=>whnf);rw [hw];refine ⟨by omega,?_⟩;(conv=>whnf);refine Ew (gs _) ?_;(conv=>whnf);refine MV qn 3 HV bL (y:Int) iS rfl ?_;(conv=>whnf);refine JC qn 3 HV bL (y:Int) iS 1 rfl ?_;(conv=>whnf);refine JC qn 3 HV bL (y:Int) iS 2 rfl ?_;(conv=>whnf);refine ⟨p6 (HU (p6 rfl (p6 rfl (p6 rfl rfl)))) (p6 (HU (p6 rfl (p6 rfl (p6 rfl rfl)))) rfl),[.agg [h0 (qO bL (y+1)).1,h0 (qO bL (y+1)).2.1,h0 (qO bL (y+1)).2.2],.agg [h0 (qO bL y).1,h0 (qO bL y).2.1,h0 (qO bL y).2.2]],rfl,h0 (w ((qO bL (y+1)).1-(qO bL y).1)),rfl,ahW rfl,Hf,?_⟩;(conv=>whnf);have mv:decide (w ((qO bL (y+1)).1-(qO bL y).1)<0)=MB (qO bL (y+1)) (qO bL y):=rfl;rw [mv];have h':H3 (y+1) bL=if MB (qO bL (y+1)) (qO bL y)=true then H3 y (JY bL y) else bL:=rfl;cases ak:MB (qO bL (y+1)) (qO bL y) with
    | false =>
      rw [ak,if_neg (by decide)] at h';(conv=>whnf);refine ⟨n-(i+1),by omega,i+1,bL,by omega,by omega,rfl,P3,?_,by rw [TR HF];rfl,rfl⟩;rw [←he,show n-i=(n-(i+1))+1 by omega];show _=Iy (n-(i+1)) (i+1) (H3 i S');rw [←KN,h']
    | true =>
      rw [ak,if_pos rfl] at h';(conv=>whnf);rw [hw];refine ⟨by omega,?_⟩;(conv=>whnf);refine Ew (gs _) ?_;(conv=>whnf);refine MV qn 3 HV bL (y:Int) iS rfl ?_;(conv=>whnf);refine JC qn 3 HV bL (y:Int) iS 1 rfl ?_;(conv=>whnf);refine JC qn 3 HV bL (y:Int) iS 2 rfl ?_;(conv=>whnf);refine ⟨by omega,?_⟩;(conv=>whnf);refine Ew (gs _) ?_;(conv=>whnf);refine MV qn 3 HV bL ((y+1:Nat):Int) gM rfl ?_;(conv=>whnf);refine JC qn 3 HV bL ((y+1:Nat):Int) gM 1 rfl ?_;(conv=>whnf);refine JC qn 3 HV bL ((y+1:Nat):Int) gM 2 rfl ?_;(conv=>whnf);refine ⟨by omega,?_⟩;(conv=>whnf);rw [CI];refine Ew (gs _) ?_;(conv=>whnf);rw [show 0+((y+1:Nat):Int).toNat*3=(y+1)*3 by omega];refine Gn (by omega) ?_;(conv=>whnf);refine Gn (by rw [sV];omega) ?_;(conv=>whnf);refine Gn (by rw [sV,sV];omega) ?_;(conv=>whnf);have e1:=Xe bL (y+1) (qO bL y) (by omega);obtain ⟨jz,P4⟩:∃ jz,jz=bL.set (y+1) (qO bL y):=⟨_,rfl⟩;(have JP:jz.length=n:=by rw [P4,sV];exact P3);rw [←P4] at e1;have aiG:(jz.flatMap qn).length=jz.length*3:=HZ qn 3 (fun _=>rfl) jz;erw [e1,JM];refine ⟨by omega,?_⟩;(conv=>whnf);rw [CI];refine Ew (gs _) ?_;(conv=>whnf);rw [show 0+(y:Int).toNat*3=y*3 by omega];refine Gn (by omega) ?_;(conv=>whnf);refine Gn (by rw [sV];omega) ?_;(conv=>whnf);refine Gn (by rw [sV,sV];omega) ?_;(conv=>whnf);have b':=Xe jz y (qO bL (y+1)) (by omega);erw [b',JM];(conv=>whnf);rw [hw];refine ⟨y,by omega,jz.set y (qO bL (y+1)),by omega,by rw [sV];exact JP,?_,rfl,rfl⟩;rw [←KN,h',P4];rfl
 ·have bk:n-i=0:=by omega
  rw [bk] at he;have he:S'=rW S:=he;subst he;conv=>whnf
  exact bp _ _ _ ⟨.inl rfl,lI.refl _,rfl⟩
theorem aeB {H:List ar} {id lo n:Nat} (bD:lo≤id) {S:List qq} {Jf:Int} (aI:S.length=n) (za:n≤12) (ag:H[id]?=some (Is S)) :
  Sem Tryz.prog (.fn 78) [.ref id 0 n none 3,h0 0,h0 n,h0 Jf,.func 59 [] []] H lo (.tuple []) (H.set id (Is (rW S))):=by
 refine rn eG Vd rfl ⟨by simp,fun j ab ae=>by rw [sd (by omega)]⟩ fun Q bp=>?_;unfold Rr;obtain ⟨PF,Jb⟩:∃ c,MS=c:=⟨_,rfl⟩;rw [Jb];conv=>whnf
 refine .intro (fun m T H'=>T=qa 148 [(0,.ref id 0 n none 3),(1,h0 0),(2,h0 n),(3,h0 Jf),(4,.func 59 [] []),(10,B true),(11,B true)]∧H'=H) 0 ⟨rfl,rfl⟩ ?_;rintro m T H' ⟨rfl,rfl⟩;subst Jb;unfold MS;obtain ⟨a7,cf⟩:∃ c,MR=c:=⟨_,rfl⟩;obtain ⟨PE,KI⟩:∃ c,Rs=c:=⟨_,rfl⟩;rw [cf,KI];conv=>whnf
 rw [show IntKind.i64.wrap ((n:Int)-0)=(n:Int) by rw [rY _ (by omega) (by omega)];omega,decide_eq_true (show (n:Int)≤12 by omega)];conv=>whnf
 subst cf;unfold MR;conv=>whnf
 refine ⟨_,_,rj (acE bD aI (by omega) ag),?_⟩;conv=>whnf
 exact bp _ _ _ ⟨.inr rfl,lI.refl _,rfl⟩
theorem age {H:List ar} {id lo n:Nat} (bD:lo≤id) {S:List qq} (aI:S.length=n) (za:n≤12) (ag:H[id]?=some (Is S)) :
  Sem Tryz.prog (.fn 58) [.ref id 0 n none 3,.func 59 [] []] H lo (.tuple []) (H.set id (Is (rW S))):=by
 refine rn eG Va rfl ⟨by simp,fun j ab ae=>by rw [sd (by omega)]⟩ fun Q bp=>?_;unfold Ri;conv=>whnf
 rw [show IntKind.u64.wrap (n:Int)=(n:Int) by rw [XT];omega];refine ⟨by first | rfl | simp only [tz,tY,LK,LS,LL,LN,LM,LO,LV,LU,JW,LP,LQ,LR,tt,tV],_,Nv n za,?_⟩
 conv=>whnf
 refine ⟨_,_,rj (aeB bD aI za ag),?_⟩;conv=>whnf
 exact bp _ _ _ ⟨.inl rfl,lI.refl _,rfl⟩
section
variable {H:List ar} {lo:Nat}
theorem acF:Sem Tryz.prog (.fn 90) [.av [] 0 .shared,h0 0,h0 0,.func 59 [] []] H lo (.tuple []) H:=by
 refine rn eG Vf rfl (a'.refl _ _) fun Q bp=>?_;unfold RN;conv=>whnf
 refine .intro (fun m T H'=>T=qa 53 [(0,.av [] 0 .shared),(1,h0 0),(2,h0 0),(3,.func 59 [] []),(8,h0 1)]∧H=H') 0 ⟨rfl,rfl⟩ ?_;rintro m T H' ⟨rfl,rfl⟩;conv=>whnf
 exact bp _ _ _ ⟨.inl rfl,lI.refl _,rfl⟩
theorem aeC {Jf:Int}:Sem Tryz.prog (.fn 78) [.av [] 0 .shared,h0 0,h0 0,h0 Jf,.func 59 [] []] H lo (.tuple []) H:=by
 refine rn eG Vd rfl (a'.refl _ _) fun Q bp=>?_;unfold Rr;obtain ⟨PF,Jb⟩:∃ c,MS=c:=⟨_,rfl⟩;rw [Jb];conv=>whnf
 refine .intro (fun m T H'=>T=qa 148 [(0,.av [] 0 .shared),(1,h0 0),(2,h0 0),(3,h0 Jf),(4,.func 59 [] []),(10,B true),(11,B true)]∧H'=H) 0 ⟨rfl,rfl⟩ ?_;rintro m T H' ⟨rfl,rfl⟩;subst Jb;unfold MS;obtain ⟨a7,cf⟩:∃ c,MR=c:=⟨_,rfl⟩;obtain ⟨PE,KI⟩:∃ c,Rs=c:=⟨_,rfl⟩;rw [cf,KI];conv=>whnf
 subst cf;unfold MR;conv=>whnf
 refine ⟨_,_,rj acF,?_⟩;conv=>whnf
 exact bp _ _ _ ⟨.inr rfl,lI.refl _,rfl⟩
theorem agf:Sem Tryz.prog (.fn 58) [.av [] 0 .shared,.func 59 [] []] H lo (.tuple []) H:=by
 refine rn eG Va rfl (a'.refl _ _) fun Q bp=>?_;unfold Ri;conv=>whnf
 refine ⟨by first | rfl | simp only [tz,tY,LK,LS,LL,LN,LM,LO,LV,LU,JW,LP,LQ,LR,tt,tV],_,Nv 0 (by decide),?_⟩
 conv=>whnf
 refine ⟨_,_,rj aeC,?_⟩;conv=>whnf
 exact bp _ _ _ ⟨.inl rfl,lI.refl _,rfl⟩
end

abbrev Lp (p:qb) (qc:List (List Int)):List I:=[(.agg [(.av (p.1.flatMap p7) p.1.length .shared),(h0 p.2.1),(h0 p.2.2)]),(.av (qc.map oX) qc.length (.uniq 1))]
theorem ahL {eK:(List Int)} {ri:Unit→Option ((Option (((List (Int×Int))×(Int×Int))×Unit))×Int)} {s2:Int} {p:((List (Int×Int))×(Int×Int))} {qc:(List (List Int))} {s1:Int} {v:((Option (((List (Int×Int))×(Int×Int))×Unit))×Int)} {Q:cQ→List I→List ar→Prop}   (jJ:∀ (e:Int) (T:List I),v=(none,e)→rK [rF p] T [.tmp 4,.tmp 5]=some [.eI,h0 e]→Q .ret T [rF p]) (JO:∀ (qf:List I),ri ()=some v→ry 48 [(2,(.ptr 0 0)),(8,(.av ((ix qc s1).map h0) (ix qc s1).length .shared)),(17,(.av (qc.map oX) qc.length (.own 1))),(18,(h0 (qc.length:Int))),(19,(h0 s1))] qf→Q (.exit 2) qf [ar.cells [(.av (p.1.flatMap p7) p.1.length .shared),(h0 p.2.1),(h0 p.2.2)]]) {T:List I} (b0:eZ [false,false,true,false,false,false,false,false,true,false,false,false,false,false,false,false,false,true,true,true,false,false,false,false,false,false,true,true,true,false,false,false,false,false,false,false,false,false,false,false,false,false,false,false,false,false,false,false] T=qa 48 [(2,(.ptr 0 0)),(8,(.av ((ix qc s1).map h0) (ix qc s1).length .shared)),(17,(.av (qc.map oX) qc.length (.own 1))),(18,(h0 (qc.length:Int))),(19,(h0 s1)),(26,(.av (eK.map h0) eK.length .shared)),(27,(h0 (eK.length:Int))),(28,(h0 s2))]) (h:Ir eK ri qi s2=some v) :
  dQ Tryz.prog J9 40 0 none JH T [ar.cells [(.av (p.1.flatMap p7) p.1.length .shared),(h0 p.2.1),(h0 p.2.2)]] Q:=by
 unfold JH;skip;refine wp_loop b0 ?_;refine .intro (fun m T H=>∃ (s2:Int),T=qa 48 [(2,(.ptr 0 0)),(8,(.av ((ix qc s1).map h0) (ix qc s1).length .shared)),(17,(.av (qc.map oX) qc.length (.own 1))),(18,(h0 (qc.length:Int))),(19,(h0 s1)),(26,(.av (eK.map h0) eK.length .shared)),(27,(h0 (eK.length:Int))),(28,(h0 s2))]∧H=[ar.cells [(.av (p.1.flatMap p7) p.1.length .shared),(h0 p.2.1),(h0 p.2.2)]]∧Ir eK ri m s2=some v) qi ⟨s2,rfl,rfl,h⟩ ?_;clear h b0;rintro m T H ⟨s2,rfl,rfl,h⟩;cases m
 ·exact rT h
 rename_i m;rw [Ir.eq_2] at h;conv=>whnf
 refine bs h (fun qU h=>?_) fun qU h=>?_
 ·rw [qU];conv=>whnf
  refine qW h id fun rN h=>?_;rw [rb h0 eK s2 rN];conv=>whnf
  refine bs h (fun rE h=>?_) fun rE h=>?_
  ·rw [rE];(conv=>whnf);obtain rfl:=Option.some.inj h;exact jJ _ _ rfl rfl
  ·rw [rE];(conv=>whnf);exact ⟨m,sE m,(w (s2+(1:Int))),rfl,rfl,h⟩
 ·rw [qU];conv=>whnf
  exact JO  _ h ⟨rfl,rfl⟩
theorem X' {p:((List (Int×Int))×(Int×Int))} {qc:(List (List Int))} {p_:Unit→Option ((Option (((List (Int×Int))×(Int×Int))×Unit))×Int)} {s1:Int} {v:((Option (((List (Int×Int))×(Int×Int))×Unit))×Int)} {Q:cQ→List I→List ar→Prop}   (jJ:∀ (e:Int) (T:List I),v=(none,e)→rK [rF p] T [.tmp 4,.tmp 5]=some [.eI,h0 e]→Q .ret T [rF p]) (rf:∀ (qf:List I),p_ ()=some v→ry 48 [(2,(.ptr 0 0))] qf→Q (.exit 0) qf [ar.cells [(.av (p.1.flatMap p7) p.1.length .shared),(h0 p.2.1),(h0 p.2.2)]]) {T:List I} (b0:eZ [false,false,true,false,false,false,false,false,false,false,false,false,false,false,false,false,false,true,true,true,false,false,false,false,false,false,false,false,false,false,false,false,false,false,false,false,false,false,false,false,false,false,false,false,false,false,false,false] T=qa 48 [(2,(.ptr 0 0)),(17,(.av (qc.map oX) qc.length (.own 1))),(18,(h0 (qc.length:Int))),(19,(h0 s1))]) (h:Hz p qc p_ qi s1=some v) :
  dQ Tryz.prog J9 40 0 none I8 T [ar.cells [(.av (p.1.flatMap p7) p.1.length .shared),(h0 p.2.1),(h0 p.2.2)]] Q:=by
 unfold I8;obtain ⟨HN,qD⟩:∃ c,JH=c:=⟨_,rfl⟩;rw [qD];refine wp_loop b0 ?_;refine .intro (fun m T H=>∃ (s1:Int),T=qa 48 [(2,(.ptr 0 0)),(17,(.av (qc.map oX) qc.length (.own 1))),(18,(h0 (qc.length:Int))),(19,(h0 s1))]∧H=[ar.cells [(.av (p.1.flatMap p7) p.1.length .shared),(h0 p.2.1),(h0 p.2.2)]]∧Hz p qc p_ m s1=some v) qi ⟨s1,rfl,rfl,h⟩ ?_;clear h b0;rintro m T H ⟨s1,rfl,rfl,h⟩;cases m
 ·exact rT h
 rename_i m;rw [Hz.eq_2] at h;conv=>whnf
 refine bs h (fun qp h=>?_) fun qp h=>?_
 ·rw [qp];conv=>whnf
  refine qW h id fun qI h=>?_;rw [rb oX qc s1 qI];conv=>whnf
  obtain ⟨bj,q9,h⟩:=p' h;refine ⟨qj.pl,_,Sm q9,?_⟩;conv=>whnf
  obtain ⟨eK,rH,h⟩:=p' h;refine ⟨(p6 (IP rfl (p6 (Ig (p6 (rC (fun _=>rfl) _ _ _) rfl)) rfl)) rfl),_,Sl  rH,?_⟩;conv=>whnf
  subst qD;refine ahL ?_ ?_ (by exact rfl) h
  ·exact fun e T bE ai=>jJ e T bE ai
  ·intro  qf h qA;obtain ⟨rD,rfl⟩:=qA.ex;(conv=>whnf);refine bs h (fun Hv h=>?_) fun Hv h=>?_
   ·rw [Hv];(conv=>whnf);obtain rfl:=Option.some.inj h;exact jJ _ _ rfl rfl
   ·rw [Hv];(conv=>whnf);exact ⟨m,sE m,(w (s1+(1:Int))),rfl,rfl,h⟩
 ·rw [qp];conv=>whnf
  exact rf  _ h ⟨rfl,rfl⟩
theorem ahH {p:qb} {qc:List (List Int)} {e:Int} (h:rI p qc=some (none,e)):Sem Tryz.prog (.fn 40) (Lp p qc) [] 0 (.tuple [.eI,h0 e]) [rF p]:=by
 refine rn eG MC rfl (IA (sC _)) fun Q bp=>?_;have jJ:∀ (cV:Int) (T:List I),((none,e):Option (qb×Unit)×Int)=(none,cV)→rK [rF p] T [.tmp 4,.tmp 5]=some [.eI,h0 cV]→Q .ret T [rF p]:=fun cV T he ai=>by
  obtain rfl:=(Prod.mk.inj he).2;exact bp _ _ _ ⟨.inr rfl,lI.refl _,by rw [ai];rfl⟩
 unfold rI at h;unfold Mh;obtain ⟨KG,rQ⟩:∃ c,I8=c:=⟨_,rfl⟩;rw [rQ];conv=>whnf
 obtain ⟨aS,gM,h⟩:=p' h;refine ⟨qj.pl,_,Nj gM,?_⟩;conv=>whnf
 refine bs h (fun gN h=>?_) fun gN h=>?_
 ·rw [gN];conv=>whnf
  obtain rfl:aS=e:=(Prod.mk.inj (Option.some.inj h)).2;exact jJ _ _ rfl rfl
 ·rw [gN];conv=>whnf
  subst rQ;refine X' ?_ ?_ (by exact rfl) h
  ·exact fun e T bE ai=>jJ e T bE ai
  ·intro  qf h qA;exact absurd (Prod.mk.inj (Option.some.inj h)).1 (by simp)
theorem ahM {p:qb} {qc:List (List Int)} {t:qb×Unit} {e:Int} (h:rI p qc=some (some t,e)):t=(p,())∧e=0∧Sem Tryz.prog (.fn 40) (Lp p qc) [] 0 (.tuple [.ptr 2 0,h0 0]) [rF p,.map [] 0,.cells [(.av (p.1.flatMap p7) p.1.length .shared),(h0 p.2.1),(h0 p.2.2),.map 1]]:=by
 have ad:t=(p,())∧e=0:=by
  have aX:=h;unfold rI at aX;obtain ⟨aS,gM,aX⟩:=p' aX;split at aX
  ·cases aX
  ·exact UR aX
 obtain ⟨rfl,rfl⟩:=ad;refine ⟨rfl,rfl,?_⟩;refine rn eG MC rfl (IA (sC _)) fun Q bp=>?_;unfold rI at h;unfold Mh;obtain ⟨KG,rQ⟩:∃ c,I8=c:=⟨_,rfl⟩;rw [rQ];conv=>whnf
 obtain ⟨aS,gM,h⟩:=p' h;refine ⟨qj.pl,_,Nj gM,?_⟩;conv=>whnf
 refine bs h (fun gN h=>?_) fun gN h=>?_
 ·exact absurd (Prod.mk.inj (Option.some.inj h)).1 (by simp)
 ·rw [gN];conv=>whnf
  subst rQ;refine X' ?_ ?_ (by exact rfl) h
  ·exact fun e T bE ai=>absurd (Prod.mk.inj bE).1 (by simp)
  ·intro  qf h qA;obtain ⟨rD,rfl⟩:=qA.ex;(conv=>whnf);exact bp _ _ _ ⟨.inr rfl,lI.refl _,rfl⟩
section
variable {p:qb} {qc:List (List Int)}
theorem aax {e:Int} {lo:Nat} (h:rI p qc=some (none,e)):oV Tryz.prog 8 lo (.fn 40) (Lp p qc) [] (.tuple [.eI,h0 e]) [] :=
 ⟨_,EB (ahH h),by
  show (k9 _ _ _ _ _ _ (.fn 40) (Lp p qc) [] 0).bind _=_
  rw [EA];rfl⟩
theorem aaz {t:qb×Unit} {e:Int} {lo:Nat} (h:rI p qc=some (some t,e)):oV Tryz.prog 8 lo (.fn 40) (Lp p qc) [] (.tuple [.bS [(.av (p.1.flatMap p7) p.1.length .shared),(h0 p.2.1),(h0 p.2.2),.map 0],h0 0]) [.map [] 0] :=
 ⟨_,EB (ahM h).2.2,by
  show (k9 _ _ _ _ _ _ (.fn 40) (Lp p qc) [] 0).bind _=_;rw [EA];have e1:ea (bM [rF p,.map [] 0,.cells [(.av (p.1.flatMap p7) p.1.length .shared),(h0 p.2.1),(h0 p.2.2),.map 1]] 0 1 0 6) [(.av (p.1.flatMap p7) p.1.length .shared),(h0 p.2.1),(h0 p.2.2),.map 1]=some [(.av (p.1.flatMap p7) p.1.length .shared),(h0 p.2.1),(h0 p.2.2),.map 0] :=
   rv (yW (Hy (fun _=>p6 rfl (p6 rfl rfl)) _ _ _)) (rv (yW rfl) (rv (yW rfl) (rv rfl IB)))
  have b':bM [rF p,.map [] 0,.cells [(.av (p.1.flatMap p7) p.1.length .shared),(h0 p.2.1),(h0 p.2.2),.map 1]] 0 1 0 8 (.tuple [.ptr 2 0,h0 0])=some (.tuple [.bS [(.av (p.1.flatMap p7) p.1.length .shared),(h0 p.2.1),(h0 p.2.2),.map 0],h0 0]) :=
   Mq (rv (show (ea (bM [rF p,.map [] 0,.cells [(.av (p.1.flatMap p7) p.1.length .shared),(h0 p.2.1),(h0 p.2.2),.map 1]] 0 1 0 6) [(.av (p.1.flatMap p7) p.1.length .shared),(h0 p.2.1),(h0 p.2.2),.map 1]).map I.bS=_ by rw [e1];rfl) (rv rfl IB))
  show (match mapM (bM [rF p,.map [] 0,.cells [(.av (p.1.flatMap p7) p.1.length .shared),(h0 p.2.1),(h0 p.2.2),.map 1]] 0 1 0 8) [],bM [rF p,.map [] 0,.cells [(.av (p.1.flatMap p7) p.1.length .shared),(h0 p.2.1),(h0 p.2.2),.map 1]] 0 1 0 8 (.tuple [.ptr 2 0,h0 0]) with | some es',some v=>some (v,[]++[ar.map es' 0]) | _,_=>none)=_
  rw [b'];rfl⟩
end
end Go.Proofs.YtkoioidpbbbaiaaGreat.Ab


namespace Go.Proofs.YtkoioidpbbbaiaaGreat.Ab
open Go
noncomputable def Q9:gE :=
 p2 [p3 33 9, p1 34 8, p0 35 [.jq 33, .jq 34] (.other (Oper.mk (some 35) (Op.call (Call.mk (Callee.builtin Builtin.copy) (Array.mk [Operand.tmp 33, Operand.tmp 34]) (Array.mk [38, 38]))) 3 "curl.go:142" (Array.mk [Edge.mk 0 Ground.data, Edge.mk 1 Ground.data]) none) 0)] (p2 [p1 36 9, p1 4 36, qd 5 0] .ret)
noncomputable def ML:gE :=
 p2 [p3 30 8,qT 31 30,p0 32 [.nc 31,.Bs 31] (.z1 [.int .i64 0,.int .i64 0,.int .i64 0] 3 24),p1 9 32] Q9
noncomputable def KV:gE :=
 p2 [p3 28 8,p0 29 [.cv (.func 58 [] []),.jq 28,.cv (.func 59 [] [])] (.call 1)] ML
noncomputable def Q_:gE :=
 p2 [p3 20 6,p3 21 1,p0 22 [.cv (.func 57 [] []),.jq 20,.jq 21,.cv (.int .i64 0)] (.call 1),p1 23 6,p1 24 1,p0 25 [.cv (.func 57 [] []),.jq 23,.jq 24,.cv (.int .i64 1)] (.call 1),p0 26 [.Bs 22,.Bs 25] (.yB 2 1 [.av [] 0 .full] [0,1]),p0 27 [.cv (.func 56 [] []),.jq 26] (.call 1),⟨some 8,[.jq 27],none,some 27,.Bq⟩] KV
noncomputable def Wq:gE :=
 .seq (p2 [p3 17 7,qw 18 17 0 .neq] (.cond (.nc 18) (p2 [p1 19 7,p0 4 [.cv (.av [] 0 .full)] (.nil 3),p1 5 19] .ret) .skip)) Q_
noncomputable def Wr:gE :=
 p2 [p0 11 [.Bs 2] (.zE (.str 3)),p3 12 1,p0 13 [.Bs 12] (.yB 1 1 [.av [] 0 .full] [0]),p0 14 [.cv (.func 40 [] []),.jq 11,.jq 13] (.call 8),p1 10 14,qJ 15 10 0,p0 16 [.Bs 10] (.ext 1),p1 6 15,p1 7 16] Wq
noncomputable def Wp:gE :=
 p2 [p0 2 [.jq 0] .yy,p0 4 [.cv (.av [] 0 .full)] (.nil 3),qd 5 0] Wr
theorem ac5:ql Go.Proofs.Tryz.prog Nr 23=some (Wp,37,[.tmp 4,.tmp 5]):=by kernel_rfl
end Go.Proofs.YtkoioidpbbbaiaaGreat.Ab


namespace Go.Proofs.YtkoioidpbbbaiaaGreat.Ab
open Go
set_option maxRecDepth 20000
set_option maxHeartbeats 4000000
def K7 (p:qb) (order:List Int):Option (List qq×Int) :=
 (rI p [order]).bind fun r=>match r with
 | (none,q)=>if decide (q≠0)=true then some ([],q) else none
 | (some b,_)=>(Kx b order 0).bind fun l1=>(Kx b order 1).bind fun l2=>qs (l1.length+l2.length≤12) <| some (rW (l1++l2),0)
theorem abe (b:rV):HS b 0 [.map [] 0]:=⟨[],0,rfl,fun e he=>absurd he (by simp)⟩
theorem UA:∀ (m i:Nat) (S:List qq),(Iy m i S).length=S.length
 | 0,_,_=>rfl
 | m+1,i,S=>by unfold Iy;rw [UA m,Uy]
theorem Xl (S:List qq):(rW S).length=S.length:=UA _ _ _
theorem afS (n:Nat) {a b c:I}:(e_ n [a,b,c]).length=n*3:=by
 induction n with
 | zero=>rfl
 | succ n a8=>show ([a,b,c]++e_ n [a,b,c]).length=_;rw [sA,a8];simp;omega
theorem W7 {S:List qq} {H:List ar} {id n:Nat} {cap:Option Nat} (ag:H[id]?=some (Is S)) (aI:S.length=n):rowOf H (.ref id 0 n cap 3)=some (S.flatMap qn):=by
 have ao:(S.flatMap qn).length=S.length*3:=HZ qn 3 (fun _=>rfl) S;simp only [rowOf,ag,sy,tq];rw [if_pos (by omega),te (by omega),QL (XQ (f:=qn) (fun _=>M3 rfl (M3 rfl (M3 rfl XR))) S)]
theorem agb {vs cs:List I} (h:vs.length=cs.length):setCells 0 vs cs=vs:=by
 apply List.ext_getElem?;intro j;rw [m' _ _ _ _ (by omega)];by_cases aw:j<vs.length
 ·rw [if_pos ⟨by omega,by omega⟩];simp
 ·rw [if_neg (by omega),uN (by omega),uN (by omega)]
theorem aaV {P:Program} {lo a b n:Nat} {H:List ar} {S:List qq} {cells:List I} {cap:Option Nat} {e:TypeId} {ts:Array TypeId} (e1:(ts[0]?).bind P.underlying=some (.slice e)) (b':bF P e=some 3) (bD:lo≤a)
  (af:H[b]?=some (Is S)) (aI:S.length=n) (cu:H[a]?=some (.cells cells)) (ak:cells.length=n*3):j_ P lo ts H [.ref a 0 n (some n) 3,.ref b 0 n cap 3]=some (.int .i64 (n:Int),H.set a (Is S)):=by
 have ao:(S.flatMap qn).length=S.length*3:=HZ qn 3 (fun _=>rfl) S;have cI:=W7 (cap:=cap) af aI;unfold j_;simp only [e1,b',lenOf,cI,fS,cu,if_pos bD];rw [if_pos ⟨trivial,by omega⟩,if_pos (by omega),Nat.min_self,te (by omega),agb (by omega)];rfl
theorem T3 {S:List qq} {H:List ar} {id n d:Nat} {cap:Option Nat} (aE:id<H.length) (ag:H[id]?=some (Is S)) (aI:S.length=n):bM H 0 H.length 0 (d+2) (.ref id 0 n cap 3)=some (.av (S.flatMap qn) n (e3 cap n)):=by
 show (if id<0 then some (I.ref id 0 n cap 3) else if id=H.length then some (.ref 0 0 n cap 3) else match rowOf H (.ref id 0 n cap 3) with | some row=>(ea (bM H 0 H.length 0 (d+1)) row).map fun cs=>.av cs n (e3 cap n) | none=>none)=_;rw [if_neg (by omega),if_neg (by omega),W7 ag aI];have l0:ea (bM H 0 H.length 0 (d+1)) (S.flatMap qn)=some (S.flatMap qn):=zU fun u hu=>by
  obtain ⟨x,_,aj⟩:=List.mem_flatMap.1 hu;simp only [qn,sB,tP,or_false] at aj;rcases aj with rfl | rfl | rfl <;> rfl
 simp only [l0,Option.map_some]
theorem agu {H2:List ar} {L:List qq} (fq:L.length≤12) {R1:I} {Q:cQ→List I→List ar→Prop}
  (bp:∀ T H,HC [.tmp 4,.tmp 5] (.tuple [.av ((rW L).flatMap qn) (rW L).length .shared,h0 0]) .ret T H→Q .ret T H) :
  dQ Tryz.prog Nr 23 0 none KV (qa 37 [(4,.av [] 0 (.uniq 3)),(5,h0 0),(7,h0 0),(8,.ref H2.length 0 L.length none 3),(18,R1),(27,.ref H2.length 0 L.length none 3)]) (H2++[Is L]) Q:=by
 have DG:(rW L).length=L.length:=Xl L;unfold KV;obtain ⟨a9,ca⟩:∃ c,ML=c:=⟨_,rfl⟩;rw [ca];conv=>whnf
 refine ⟨_,_,rj (age (sC _) rfl fq (IK _ _)),?_⟩;rw [HR];conv=>whnf
 subst ca;unfold ML Q9;conv=>whnf
 refine ⟨by omega,sU _,by omega,?_⟩;conv=>whnf
 rw [tp];refine ⟨_,_,fun C=>(VD rfl).trans (aaV (e:=62) (S:=rW L) (by kernel_rfl) (by kernel_rfl) (sC _) (by exact Ug (IK _ _)) DG (IK _ _) (afS _)),?_⟩;conv=>whnf
 rw [HR];refine bp _ _ ⟨.inr rfl,[.ref (H2++[Is (rW L)]).length 0 L.length (some L.length) 3,h0 0],rfl,_,Mq (rv (T3 (S:=rW L) (by simp) (IK _ _) DG) (rv (yW rfl) IB)),?_⟩;have e1:e3 (some L.length) L.length=.full:=by simp [e3]
 rw [e1,DG];rfl
theorem aaW {P:Program} {lo a:Nat} {H:List ar} {cap:Option Nat} {c:hE} {e:TypeId} {ts:Array TypeId} (e1:(ts[0]?).bind P.underlying=some (.slice e)) (b':bF P e=some 3) (bD:lo≤a) (cu:H[a]?=some (.cells [])):j_ P lo ts H [.ref a 0 0 cap 3,.av [] 0 c]=some (.int .i64 0,H.set a (.cells [])):=by
 unfold j_;simp only [e1,b',lenOf,rowOf,fS,cu,if_pos bD];rfl
theorem agv {H2:List ar} {R1:I} {Q:cQ→List I→List ar→Prop}
  (bp:∀ T H,HC [.tmp 4,.tmp 5] (.tuple [.av (([]:List qq).flatMap qn) ([]:List qq).length .shared,h0 0]) .ret T H→Q .ret T H) :
  dQ Tryz.prog Nr 23 0 none KV (qa 37 [(4,.av [] 0 (.uniq 3)),(5,h0 0),(7,h0 0),(8,.av [] 0 (.uniq 3)),(18,R1),(27,.av [] 0 .shared)]) H2 Q:=by
 unfold KV;obtain ⟨a9,ca⟩:∃ c,ML=c:=⟨_,rfl⟩;rw [ca];conv=>whnf
 refine ⟨_,_,rj agf,?_⟩;conv=>whnf
 subst ca;unfold ML Q9;conv=>whnf
 refine ⟨by omega,sU _,by omega,?_⟩;conv=>whnf
 refine ⟨_,_,fun C=>(VD rfl).trans (aaW (e:=62) (a:=H2.length) (by kernel_rfl) (by kernel_rfl) (sC _) (IK _ _)),?_⟩;conv=>whnf
 rw [HR];refine bp _ _ ⟨.inr rfl,[.ref H2.length 0 0 (some 0) 3,h0 0],rfl,_,Mq (rv (T3 (S:=[]) (by simp) (IK _ _) rfl) (rv (yW rfl) IB)),rfl⟩
theorem X0 {p:qb} {order:List Int} {v:List qq×Int} (h:K7 p order=some v):qx 23 [.agg [.av (p.1.flatMap p7) p.1.length .shared,h0 p.2.1,h0 p.2.2],.av (order.map h0) order.length .shared] (.tuple [.av (v.1.flatMap qn) v.1.length .shared,h0 v.2]):=by
 unfold K7 at h;obtain ⟨⟨aS,bj⟩,ai,h⟩:=p' h;refine qK eG ac5 rfl (I4 (p6 (Hy (fun _=>p6 rfl (p6 rfl (p6 rfl rfl))) _ _ _) (p6 rfl rfl))) fun Q bp=>?_;have jJ:∀ T H,HC [.tmp 4,.tmp 5] (.tuple [.av (v.1.flatMap qn) v.1.length .shared,h0 v.2]) .ret T H→Q .ret T H:=fun T H bE=>bp _ T H bE;unfold Wp Wr Wq;obtain ⟨bt,eS⟩:∃ c,Q_=c:=⟨_,rfl⟩;rw [eS];conv=>whnf
 refine ⟨rfl,?_⟩;conv=>whnf
 rcases aS with _ | b
 ·refine ⟨_,_,aax ai,?_⟩;conv=>whnf
  refine bs h (fun af h=>?_) fun af h=>?_
  ·rw [af];(conv=>whnf);obtain rfl:=Option.some.inj h;exact jJ _ _ (Ih rfl rfl)
  ·cases h
 ·obtain ⟨rfl,rfl,_⟩:=M9 ai;refine ⟨_,_,aaz ai,?_⟩;obtain ⟨l1,ab,h⟩:=p' h;obtain ⟨l2,ae,h⟩:=p' h;obtain ⟨aI,h⟩:=rM h;obtain rfl:=Option.some.inj h;obtain ⟨H1,aJ,Da,f1,e1,s1⟩:=Yi ab (m:=0) (lo:=0) (sc 0) (abe (p,()));obtain ⟨H2,aN,pO,f2,b',s2⟩:=Yi ae (m:=0) (lo:=0) (sc 0) f1;have bn:=aaT (l1:=l1) (l2:=l2) (H:=H2) (lo:=0) (by omega);subst eS;unfold Q_;by_cases he:(l1++l2).length≠0
  ·rcases Da with rfl | rfl | rfl <;> rcases pO with rfl | rfl | rfl
   all_goals
    obtain ⟨a9,ca⟩:∃ c,KV=c:=⟨_,rfl⟩;rw [ca];(conv=>whnf);refine ⟨_,_,rj s1,?_⟩;(conv=>whnf);refine ⟨_,_,rj s2,?_⟩;(conv=>whnf);refine ⟨_,_,rj bn,?_⟩;(conv=>whnf);refine .inl ⟨he,?_⟩;(conv=>whnf);subst ca;exact agu (H2:=H2) (L:=l1++l2) (by simp;omega) jJ
  ·(have aiF:l1.length+l2.length=0:=by simp at he;simp [he]);obtain rfl:=sO.1 (show l1.length=0 by omega);obtain rfl:=sO.1 (show l2.length=0 by omega);rcases Da with rfl | rfl | rfl <;> rcases pO with rfl | rfl | rfl
   all_goals
    obtain ⟨a9,ca⟩:∃ c,KV=c:=⟨_,rfl⟩;rw [ca];(conv=>whnf);refine ⟨_,_,rj s1,?_⟩;(conv=>whnf);refine ⟨_,_,rj s2,?_⟩;(conv=>whnf);refine ⟨_,_,rj bn,?_⟩;(conv=>whnf);refine .inr ⟨rfl,?_⟩;(conv=>whnf);subst ca;exact agv (H2:=H2) jJ
end Go.Proofs.YtkoioidpbbbaiaaGreat.Ab


namespace Go.Proofs.YtkoioidpbbbaiaaGreat.Ab
open Go
set_option maxRecDepth 20000
set_option maxHeartbeats 1000000
theorem T_ (S:List qq) (j k:Nat) (c:qq) (aw:j<S.length):qO (S.set j c) k=if k=j then c else qO S k:=by
 unfold qO ix;rw [tp,sw,tE,sw];by_cases e:j=k
 ·subst e;simp [aw]
 ·rw [if_neg e,if_neg (Ne.symm e)]
theorem abj {S:List qq} {j:Nat} (aw:j+1<S.length) (k:Nat):qO (JY S j) k=if k=j then qO S (j+1) else if k=j+1 then qO S j else qO S k:=by
 unfold JY;rw [T_ _ _ _ _ (by simp;omega),T_ _ _ _ _ aw]
theorem ags {S:List qq} {j:Nat} (aw:j+1<S.length):(JY S j).Perm S:=by
 have:=Sort.perm_set_set S (j+1) j aw (by omega);unfold JY;have e1:qO S j=S[j]:=ru (by omega);have b':qO S (j+1)=S[j+1]:=ru aw;rw [e1,b'];exact this
theorem Uz:∀ (j:Nat) (S:List qq),j<S.length→(∀ c∈S,0≤c.1∧c.1≤1000)→(∀ a b,a<b→b<j→(qO S a).1≤(qO S b).1) →
  (H3 j S).Perm S∧(∀ k,j<k→qO (H3 j S) k=qO S k)∧(∀ a b,a<b→b≤j→(qO (H3 j S) a).1≤(qO (H3 j S) b).1)∧∀ a,a≤j→∃ b,b≤j∧qO (H3 j S) a=qO S b
 | 0,S,_,_,_=>⟨.refl _,fun _ _=>rfl,fun a b ab ae=>by omega,fun a cu=>⟨a,cu,rfl⟩⟩
 | j+1,S,aw,ak,ah=>by
   have hm:∀ k,k<S.length→0≤(qO S k).1∧(qO S k).1≤1000:=fun k al=>ak _ (Je (by omega));have da:=hm j (by omega);have db:=hm (j+1) aw;unfold H3 MB;rw [qR (by omega)];by_cases aR:(qO S (j+1)).1-(qO S j).1<0
   ·rw [if_pos (decide_eq_true aR)];have aO:=abj aw;have aB:=ags aw
    obtain ⟨i1,i2,i3,i4⟩:=Uz j (JY S j) (by rw [Xu];omega) (fun c h=>ak c (aB.mem_iff.1 h)) (fun a b ab ae=>by
     rw [aO,aO,if_neg (by omega),if_neg (by omega),if_neg (by omega),if_neg (by omega)]
     exact ah a b ab (by omega))
    refine ⟨i1.trans aB,fun k al=>?_,fun a b ab ae=>?_,fun a cu=>?_⟩
    ·rw [i2 k (by omega),aO,if_neg (by omega),if_neg (by omega)]
    ·by_cases e:b=j+1
     ·subst e;rw [i2 (j+1) (by omega),aO (j+1),if_neg (by omega),if_pos rfl];obtain ⟨c,aF,ba⟩:=i4 a (by omega);rw [ba,aO c];by_cases b':c=j
      ·rw [if_pos b'];omega
      ·rw [if_neg b',if_neg (by omega)];exact ah c j (by omega) (by omega)
     ·exact i3 a b ab (by omega)
    ·by_cases e:a=j+1
     ·subst e;rw [i2 (j+1) (by omega),aO (j+1),if_neg (by omega),if_pos rfl];exact ⟨j,by omega,rfl⟩
     ·obtain ⟨c,aF,ba⟩:=i4 a (by omega);rw [ba,aO c];by_cases b':c=j
      ·rw [if_pos b'];exact ⟨j+1,by omega,rfl⟩
      ·rw [if_neg b',if_neg (by omega)];exact ⟨c,by omega,rfl⟩
   ·rw [if_neg (by simpa using aR)];refine ⟨.refl _,fun _ _=>rfl,fun a b ab ae=>?_,fun a cu=>⟨a,cu,rfl⟩⟩;by_cases e:b=j+1
    ·subst e;by_cases b':a=j
     ·subst b';omega
     ·have:=ah a j (by omega) (by omega);omega
    ·exact ah a b ab (by omega)
theorem UB:∀ (m i:Nat) (S:List qq),i+m=S.length→(∀ c∈S,0≤c.1∧c.1≤1000)→(∀ a b,a<b→b<i→(qO S a).1≤(qO S b).1) →
  (Iy m i S).Perm S∧∀ a b,a<b→b<S.length→(qO (Iy m i S) a).1≤(qO (Iy m i S) b).1
 | 0,i,S,h,_,ah=>⟨.refl _,fun a b ab ae=>ah a b ab (by omega)⟩
 | m+1,i,S,h,ak,ah=>by
   obtain ⟨i1,_,i3,_⟩:=Uz i S (by omega) ak ah;have ao:=i1.length_eq;obtain ⟨dD,dt⟩:=UB m (i+1) (H3 i S) (by omega) (fun c h=>ak c (i1.mem_iff.1 h)) (fun a b ab ae=>i3 a b ab (by omega));unfold Iy;exact ⟨dD.trans i1,fun a b ab ae=>dt a b ab (by omega)⟩
theorem agh {S:List qq} (ak:∀ c∈S,0≤c.1∧c.1≤1000):(rW S).Perm S∧(rW S).Pairwise fun a b=>a.1≤b.1:=by
 unfold rW;by_cases aQ:S.length=0
 ·obtain rfl:=sO.1 aQ;exact ⟨.refl _,.nil⟩
 ·obtain ⟨ab,ae⟩:=UB (S.length-1) 1 S (by omega) ak (fun a b ab ae=>by omega);refine ⟨ab,List.pairwise_iff_getElem.2 fun i j hi aw h_=>?_⟩;have:=ae i j h_ (by rw [←ab.length_eq];exact aw);have e1:∀ k (al:k<(Iy (S.length-1) 1 S).length),qO (Iy (S.length-1) 1 S) k=(Iy (S.length-1) 1 S)[k]:=fun k al=>ru al;rw [e1 i hi,e1 j aw] at this;exact this
theorem VB {n:Int}:∀ {l:List qq} {m:Int},l.Pairwise (fun a b=>a.1<b.1)→(∀ c∈l,m≤c.1∧c.1<n∧qM c.2)→Hx n l m
 | [],_,_,_=>trivial
 | c::r,m,aB,ak=>by
   obtain ⟨ab,ae⟩:=List.pairwise_cons.1 aB;have aF:=ak c (by simp)
   exact ⟨aF.1,aF.2.1,aF.2.2,VB ae fun dU aX=>by
    have:=ab dU aX;have ba:=ak dU (by simp [aX])
    exact ⟨by omega,ba.2⟩⟩
theorem VA {n:Int}:∀ {l:List qq} {m:Int},Hx n l m→∀ c∈l,m≤c.1
 | [],_,_,c,ak=>absurd ak (by simp)
 | c::r,m,h,dU,ak=>by
   rcases sB.1 ak with rfl | aX
   ·exact h.1
   ·have:=VA h.2.2.2 dU aX;have:=h.1;omega
theorem QD {α:Type} [Inhabited α] {S:List α} {j k:Int} {c:α} (aw:0≤j∧j<(S.length:Int)) (al:0≤k):ix (S.set j.toNat c) k=if k=j then c else ix S k:=by
 unfold ix;rw [sw,tE,sw];by_cases e:k=j
 ·subst e;rw [if_pos rfl,if_pos rfl,if_pos (by omega)];rfl
 ·rw [if_neg (by omega),if_neg e]
theorem RS {n:Int}:∀ {l:List qq} {S:List qv} {m:Int},Hx n l m→0≤m→(S.length:Int)=n→∀ {j:Int},0≤j→(∀ c∈l,c.1≠j)→ix (rS l S) j=ix S j
 | [],_,_,_,_,_,_,_,_=>rfl
 | c::r,S,m,h,hm,cp,j,aw,ak=>by
   have ab:=h.1;have ae:=h.2.1;unfold rS;rw [RS h.2.2.2 (by omega) (by simpa using cp) aw fun dU aX=>ak dU (by simp [aX]),QD (by omega) aw,if_neg fun e=>ak c (by simp) e.symm]
theorem Xc {n:Int}:∀ {l:List qq} {S:List qv} {m:Int},Hx n l m→0≤m→(S.length:Int)=n→∀ {c:qq},c∈l→ix (rS l S) c.1=c.2
 | [],_,_,_,_,_,_,ak=>absurd ak (by simp)
 | c::r,S,m,h,hm,cp,dU,ak=>by
   have ab:=h.1;have ae:=h.2.1;unfold rS;rcases sB.1 ak with rfl | aX
   ·rw [RS h.2.2.2 (by omega) (by simpa using cp) (by omega) fun a9 ae=>by have:=VA h.2.2.2 a9 ae;omega,QD (by omega) (by omega),if_pos rfl]
   ·exact Xc h.2.2.2 (by omega) (by simpa using cp) aX
section
variable {p:qb} {o:List Int}
def IL (n a:Nat):Nat→List Int
 | 0=>[]
 | i+1=>if i % 2=a∧0<qy n i then IL n a i++[(i:Int)] else IL n a i
theorem PI (h:qY p) (k:qo p.1.length o) {a:Nat}:∀ (m i:Nat),i≤o.length→o.length-i=m→(∀ j,j<i→j % 2=a→¬ Jz p o a j) →
  (∃ (j:Nat) (s:qv),I' (p,()) o (a:Int) ((qh o.length).drop i) i (IL o.length a i)=some (j+1,.inl [(ix o (j:Int),s)])∧j<o.length∧j % 2=a∧qM s∧I1 p o a j s) ∨
  (I' (p,()) o (a:Int) ((qh o.length).drop i) i (IL o.length a i)=some (o.length,.inr (IL o.length a o.length))∧∀ j,j<o.length→j % 2=a→¬ Jz p o a j)
 | 0,i,hi,hm,ft=>by
   (obtain rfl:i=o.length:=by omega);refine .inr ⟨?_,ft⟩;rw [u_ (by rw [JZ];omega)];rfl
 | m+1,i,hi,hm,ft=>by
   (have aR:i<o.length:=by omega);have e1:(qh o.length).drop i=(i:Int)::(qh o.length).drop (i+1):=by
    rw [s0 (by rw [JZ];omega)];congr 1;rw [←ru,QE aR]
   rw [e1,I',M0];by_cases a_:i % 2=a
   ·rw [if_neg (by omega)];rcases Yk h k (a:=a) aR with ⟨s,ab,ae,aF⟩ | ⟨ab,ae⟩
    ·refine .inl ⟨i,s,?_,aR,a_,ae,aF⟩;rw [ab,sb,if_pos rfl]
    ·rw [ab,sb,if_neg (by decide),OT (b:=(p,())) (qo.len h k) k.1.symm aR,sb];have b':(if 0<qy o.length i then IL o.length a i++[(i:Int)] else IL o.length a i)=IL o.length a (i+1):=by
      rw [IL];by_cases aB:0<qy o.length i
      ·rw [if_pos aB,if_pos ⟨a_,aB⟩]
      ·rw [if_neg aB,if_neg fun k=>aB k.2]
     rw [b'];refine PI h k m (i+1) (by omega) (by omega) fun j aw NJ=>?_;by_cases e:j=i
     ·subst e;exact ae
     ·exact ft j (by omega) NJ
   ·rw [if_pos (by omega)];(have b':IL o.length a (i+1)=IL o.length a i:=by rw [IL,if_neg fun k=>a_ k.1]);rw [←b'];refine PI h k m (i+1) (by omega) (by omega) fun j aw NJ=>?_;by_cases e:j=i
    ·subst e;exact absurd NJ a_
    ·exact ft j (by omega) NJ
structure Zf (p:qb) (o:List Int) (a:Nat) (l:List qq):Prop where
 len:l.length=I0 p o a
 own:∀ c∈l,qM c.2∧∃ i:Nat,i<o.length∧i % 2=a∧c.1=ix o (i:Int)
 Vv:(l.map (·.1)).Nodup
 flat:∀ S':List qv,(∀ i:Nat,i<o.length→i % 2=a→(∀ c∈l,c.1=ix o (i:Int)→qt S' o i=c.2)∧((∀ c∈l,c.1≠ix o (i:Int))→qt S' o i=qt p.1 o i))→∀ d,d=p.2.1∨d=p.2.2→rp S' o a (q3 d)=0
theorem Kh {o:List Int} (h:o.Nodup) {i j:Nat} (hi:i<o.length) (aw:j<o.length) (e:ix o (i:Int)=ix o (j:Int)):i=j:=by
 rw [ru hi,ru aw] at e;exact (List.getElem_inj h).1 e
theorem QO (S:List qv) (o:List Int) {a i:Nat} (f:qv→Int) (hi:i<o.length) (cu:i % 2=a):rp S o a f=qL S o a [(i:Int)] f+qy o.length i*f (qt S o i):=by
 unfold rp qL;have key:∀ m,qE m (fun j=>if j % 2=a then qy o.length j*f (qt S o j) else 0)=qE m (fun j=>if j % 2=a∧(j:Int) ∉ [(i:Int)] then qy o.length j*f (qt S o j) else 0)+if i<m then qy o.length i*f (qt S o i) else 0:=by
  intro m
  induction m with
  | zero=>simp [qE]
  | succ m a8 =>
    simp only [qE];rw [a8];by_cases e:m=i
    ·subst e;rw [if_neg (show ¬ m<m by omega),if_pos cu,if_neg (by simp),if_pos (show m<m+1 by omega)]
    ·have dA:(m % 2=a∧(m:Int) ∉ [(i:Int)])↔m % 2=a:=⟨fun h=>h.1,fun h=>⟨h,by simp;omega⟩⟩;(have l0:i<m+1↔i<m:=by omega);simp only [dA,l0];omega
 rw [key,if_pos hi]
theorem aeh {S S':List qv} {o:List Int} {a i:Nat} {f:qv→Int} (h:∀ j,j<o.length→j % 2=a→j≠i→qt S' o j=qt S o j):qL S' o a [(i:Int)] f=qL S o a [(i:Int)] f:=by
 unfold qL;refine Kl fun j aw=>?_;by_cases a_:j % 2=a∧(j:Int) ∉ [(i:Int)]
 ·rw [if_pos a_,if_pos a_,h j aw a_.1 fun e=>a_.2 (by rw [e];simp)]
 ·rw [if_neg a_,if_neg a_]
theorem aej {S S':List qv} {o:List Int} {a:Nat} {f:qv→Int} (h:∀ j,j<o.length→j % 2=a→qt S' o j=qt S o j):rp S' o a f=rp S o a f:=by
 unfold rp;refine Kl fun j aw=>?_;by_cases a_:j % 2=a
 ·rw [if_pos a_,if_pos a_,h j aw a_]
 ·rw [if_neg a_,if_neg a_]
theorem aeg {S:List qv} {o:List Int} {f:qv→Int} (aI:o.length=7):rp S o 0 f=-3*f (qt S o 0)-f (qt S o 2)+f (qt S o 4)+3*f (qt S o 6):=by
 unfold rp;rw [aI];simp [qE,qy];omega
theorem Vq {S:List qv} {o:List Int} {f:qv→Int} (aI:o.length=3):rp S o 1 f=0:=by
 unfold rp;rw [aI];simp [qE,qy]
theorem Vo {S:List qv} {o:List Int} {a i:Nat} {f:qv→Int} (h:(o.length=3∧a=0∧i=2)∨(o.length=5∧a=0∧i=4)∨(o.length=5∧a=1∧i=3)∨(o.length=7∧a=1∧i=5)) :
  qL S o a [(i:Int)] f+qy o.length i*f (qt S o (o.length-1-i))=0:=by
 rcases h with ⟨aI,rfl,rfl⟩ | ⟨aI,rfl,rfl⟩ | ⟨aI,rfl,rfl⟩ | ⟨aI,rfl,rfl⟩
 ·unfold qL;rw [aI];simp [qE,qy];try omega
 ·unfold qL;rw [aI];simp [qE,qy];try omega
 ·unfold qL;rw [aI];simp [qE,qy];try omega
 ·unfold qL;rw [aI];simp [qE,qy];try omega
theorem aed (h:qY p) (k:qo p.1.length o) {a i:Nat} (hi:(o.length=3∧a=0∧i=2)∨(o.length=5∧a=0∧i=4)∨(o.length=5∧a=1∧i=3)∨(o.length=7∧a=1∧i=5)):i<o.length∧i % 2=a∧Jz p o a i :=
 ⟨by omega,by omega,Mp.2 ⟨_,IC h.s (rR k) (i:=o.length-1-i) (by omega),Vo hi,Vo hi⟩⟩
theorem Yh (h:qY p) (k:qo p.1.length o) {a:Nat} (cu:a<2):∃ l,Kx (p,()) o (a:Int)=some l∧Zf p o a l:=by
 have aco:=qo.U4 h k;have aI:=h.n;rw [←k.1] at aI;unfold Kx;rw [qB (by omega),Yl h k,sb];by_cases aP:HE p o a
 ·rw [if_pos (decide_eq_true aP)];refine ⟨[],rfl,⟨by unfold I0;rw [if_pos aP];rfl,fun c ak=>absurd ak (by simp),by simp,fun S' pk d a1=>?_⟩⟩;rw [aej fun j aw a_=>(pk j aw a_).2 (by simp)];rcases a1 with rfl | rfl
  ·exact aP.1
  ·exact aP.2
 ·rw [if_neg (by simpa using aP)];rcases PI h k (a:=a) o.length 0 (by omega) rfl (fun j aw=>absurd aw (by omega)) with ⟨i,s,ab,ae,aF,ba,bP⟩ | ⟨ab,ae⟩
  ·have iR:I' (p,()) o (a:Int) (qh o.length) 0 []=_:=ab;rw [iR,sb];refine ⟨_,rfl,⟨?_,?_,by simp,?_⟩⟩
   ·unfold I0;rw [if_neg aP,if_pos ⟨i,ae,aF,Mp.2 ⟨s,ba,bP⟩⟩];rfl
   ·intro c ak;obtain rfl:=sS.1 ak;exact ⟨ba,i,ae,aF,rfl⟩
   ·intro S' pk d a1
    rw [QO S' o _ ae aF,(pk i ae aF).1 (ix o (i:Int),s) (by simp) rfl,aeh fun j aw a_ bJ=>(pk j aw a_).2 fun c ak=>by
     obtain rfl:=sS.1 ak
     exact fun e=>bJ (Kh k.2.1 ae aw e).symm]
    rcases a1 with rfl | rfl
    ·exact bP.1
    ·exact bP.2
  ·have iR:I' (p,()) o (a:Int) (qh o.length) 0 []=_:=ab;rw [iR,sb];simp only;have cO:o.length=7∧a=0:=by
    by_cases e:o.length=7∧a=0
    ·exact e
    ·exfalso;have ft:∀ i,¬ ((o.length=3∧a=0∧i=2)∨(o.length=5∧a=0∧i=4)∨(o.length=5∧a=1∧i=3)∨(o.length=7∧a=1∧i=5)):=fun i hi=>by
      obtain ⟨aJ,aN,cb⟩:=aed h k hi;exact ae i aJ aN cb
     rcases (show a=0∨a=1 by omega) with rfl | rfl <;> rcases aI with aI | aI | aI
     ·exact ft 2 (.inl ⟨aI,rfl,rfl⟩)
     ·exact ft 4 (.inr (.inl ⟨aI,rfl,rfl⟩))
     ·exact e ⟨aI,rfl⟩
     ·exact aP ⟨Vq aI,Vq aI⟩
     ·exact ft 3 (.inr (.inr (.inl ⟨aI,rfl,rfl⟩)))
     ·exact ft 5 (.inr (.inr (.inr ⟨aI,rfl,rfl⟩)))
   obtain ⟨cO,rfl⟩:=cO;have jJ:=rR k;(have ad:IL o.length 0 o.length=[4,6]:=by rw [cO];decide);(have aiK:p.1.length=7:=by rw [←k.1];exact cO);have w5:I3 (p,()) o [4,6] []=some [(ix o ((4:Nat):Int),qt p.1 o 2),(ix o ((6:Nat):Int),qt p.1 o 0)]:=by
    have hT:=jJ 0 (by omega);have bj:=jJ 2 (by omega);(have agT:w (w (((7:Nat):Int)-1)-4)=((2:Nat):Int):=by rw [qR (n:=((7:Nat):Int)-1) (by omega),qR (by omega)];omega);(have w0:w (w (((7:Nat):Int)-1)-6)=((0:Nat):Int):=by rw [qR (n:=((7:Nat):Int)-1) (by omega),qR (by omega)];omega);have s1:∀ out,I3 (p,()) o [4,6] out=I3 (p,()) o [6] (out++[(ix o ((4:Nat):Int),qt p.1 o 2)]):=fun out=>by
     rw [I3,cO,qB (by omega),agT,qB (by omega),qB bj];rfl
    have s2:∀ out,I3 (p,()) o [6] out=some (out++[(ix o ((6:Nat):Int),qt p.1 o 0)]):=fun out=>by
     rw [I3.eq_2,cO,qB (by omega),w0,qB (by omega),qB hT];rfl
    rw [s1,s2];rfl
   rw [ad,w5];have acu:ix o ((4:Nat):Int)≠ix o ((6:Nat):Int):=fun e=>absurd (Kh k.2.1 (by omega) (by omega) e) (by decide);refine ⟨_,rfl,⟨?_,?_,?_,?_⟩⟩
   ·unfold I0;rw [if_neg aP,if_neg (by rintro ⟨i,aJ,aN,cb⟩;exact ae i aJ aN cb)];rfl
   ·intro c ak;rcases sB.1 ak with rfl | ak
    ·exact ⟨IC h.s jJ (by omega),4,by omega,rfl,rfl⟩
    ·obtain rfl:=sS.1 ak;exact ⟨IC h.s jJ (by omega),6,by omega,rfl,rfl⟩
   ·simp only [sG,uz,List.nodup_cons,sS,tP,not_false_eq_true,List.nodup_nil,and_true];exact acu
   ·intro S' pk d _;rw [aeg cO];rw [(pk 4 (by omega) rfl).1 (ix o ((4:Nat):Int),qt p.1 o 2) (by simp) rfl,(pk 6 (by omega) rfl).1 (ix o ((6:Nat):Int),qt p.1 o 0) (by simp) rfl];have ft:∀ j:Nat,j<7→j≠4→j≠6→∀ c∈[(ix o ((4:Nat):Int),qt p.1 o 2),(ix o ((6:Nat):Int),qt p.1 o 0)],c.1≠ix o (j:Int):=by
     intro j aw ba bQ c ak e;rcases sB.1 ak with rfl | ak
     ·exact ba (Kh k.2.1 (by omega) (by omega) e).symm
     ·obtain rfl:=sS.1 ak;exact bQ (Kh k.2.1 (by omega) (by omega) e).symm
    rw [(pk 0 (by omega) rfl).2 (ft 0 (by omega) (by omega) (by omega)),(pk 2 (by omega) rfl).2 (ft 2 (by omega) (by omega) (by omega))];simp only;omega
theorem TQ {q:qb} {o:List Int}:qS q o=0↔HE q o 0∧HE q o 1:=by
 unfold qS Iu HE;generalize q7 q o 0 q.2.1=a;generalize q7 q o 0 q.2.2=b;generalize q7 q o 1 q.2.1=c;generalize q7 q o 1 q.2.2=d;omega
theorem R_ (aB:p.1.length≤1000) (ao:o.length≤12):∃ l,K7 p o=some (if rP p o=0 then (l,0) else ([],rP p o))∧(rP p o=0→l.length=I0 p o 0+I0 p o 1∧Hx p.1.length l 0∧qS (rS l p.1,p.2) o=0):=by
 unfold K7;rw [OP aB ao,sb];by_cases Hh:rP p o=0
 ·rw [if_pos Hh];obtain ⟨h,k⟩:=KS.1 Hh;obtain ⟨cy,gb,g9⟩:=Yh h k (a:=0) (by omega);obtain ⟨l1,e1,a7⟩:=Yh h k (a:=1) (by omega);have aa2:Kx (p,()) o 0=some cy:=gb;have aa3:Kx (p,()) o 1=some l1:=e1;have de:=TS p o 0;have bm:=TS p o 1;have aiN:=g9.len;have b7:=a7.len;have JP:=h.len;simp only;rw [aa2,sb,aa3,sb,qB (by omega)];refine ⟨rW (cy++l1),by rw [if_pos Hh],fun _=>?_⟩;have nR:∀ c∈cy++l1,qM c.2∧0≤c.1∧c.1<(p.1.length:Int):=by
   intro c ak;rcases tf.1 ak with ak | ak
   ·obtain ⟨aJ,i,aN,_,hq⟩:=g9.own c ak;rw [hq];exact ⟨aJ,rR k i aN⟩
   ·obtain ⟨aJ,i,aN,_,hq⟩:=a7.own c ak;rw [hq];exact ⟨aJ,rR k i aN⟩
  obtain ⟨s1,s2⟩:=agh (S:=cy++l1) fun c ak=>by have:=nR c ak;omega
  have aca:∀ c∈cy,∀ dU∈l1,c.1≠dU.1:=by
   intro c ak dU JN e;obtain ⟨_,i,aN,cb,hq⟩:=g9.own c ak;obtain ⟨_,j,db,j4,k5⟩:=a7.own dU JN;have:=Kh k.2.1 aN db (by rw [←hq,←k5];exact e);omega
  have jV:((rW (cy++l1)).map (·.1)).Nodup:=by
   refine ((s1.map (·.1)).nodup_iff).2 ?_;rw [sP,List.nodup_append];refine ⟨g9.Vv,a7.Vv,fun x aj y aY e=>?_⟩;obtain ⟨c,ak,rfl⟩:=sD.1 aj;obtain ⟨dU,JN,rfl⟩:=sD.1 aY;exact aca c ak dU JN e
  have Qz:Hx p.1.length (rW (cy++l1)) 0:=by
   (refine VB ?_ fun c ak=>by have:=nR c (s1.mem_iff.1 ak);exact ⟨this.2.1,this.2.2,this.1⟩);have acs:=List.pairwise_map.1 jV;exact (s2.and acs).imp fun h=>by omega
  refine ⟨by rw [Xl,sA];omega,Qz,?_⟩;rw [TQ];have w5:∀ i:Nat,i<o.length→(∀ c∈rW (cy++l1),c.1≠ix o (i:Int))→qt (rS (rW (cy++l1)) p.1) o i=qt p.1 o i:=fun i hi ak =>
   RS Qz (sU _) rfl (rR k i hi).1 ak
  have hg:∀ i:Nat,∀ c∈rW (cy++l1),c.1=ix o (i:Int)→qt (rS (rW (cy++l1)) p.1) o i=c.2:=fun i c ak e=>by
   have:=Xc Qz (sU _) (S:=p.1) rfl ak;rw [e] at this;exact this
  have f0:=g9.flat (rS (rW (cy++l1)) p.1) fun i hi a_=>⟨fun c ak=>hg i c (s1.mem_iff.2 (tf.2 (.inl ak))),fun ft=>w5 i hi fun c ak=>by
   rcases tf.1 (s1.mem_iff.1 ak) with ak | ak
   ·exact ft c ak
   ·obtain ⟨_,j,db,j4,k5⟩:=a7.own c ak;intro e;have:=Kh k.2.1 db hi (by rw [←k5];exact e)
    omega⟩
  have f1:=a7.flat (rS (rW (cy++l1)) p.1) fun i hi a_=>⟨fun c ak=>hg i c (s1.mem_iff.2 (tf.2 (.inr ak))),fun ft=>w5 i hi fun c ak=>by
   rcases tf.1 (s1.mem_iff.1 ak) with ak | ak
   ·obtain ⟨_,j,db,j4,k5⟩:=g9.own c ak;intro e;have:=Kh k.2.1 db hi (by rw [←k5];exact e);omega
   ·exact ft c ak⟩
  exact ⟨⟨f0 _ (.inl rfl),f0 _ (.inr rfl)⟩,f1 _ (.inl rfl),f1 _ (.inr rfl)⟩
 ·rw [if_neg Hh];simp only;rw [if_pos (by simpa using Hh)];exact ⟨[],by rw [if_neg Hh],fun h=>absurd h Hh⟩
end
end Go.Proofs.YtkoioidpbbbaiaaGreat.Ab


namespace Go.Proofs.YtkoioidpbbbaiaaGreat.Ab
open Go
set_option maxRecDepth 20000
set_option maxHeartbeats 4000000
noncomputable def O3:gE :=
 .loop (some (p8 false [0,1,2,2,10])) (.seq (p2 [p3 5 4,p3 6 0,qm 7 5 6 .lss] (.cond (.nc 7) .skip (.exit 0))) (.seq (.block 1 (qF [p1 10 3,p3 11 4,p0 12 [.Bs 11] (.yB 1 1 [.int .i64 0] [0]),p0 13 [.jq 10,.jq 12] (.app 1 8),p1 3 13])) (qF [p1 8 4,qP 9 8 1,p1 4 9])))
noncomputable def YK:gE :=
 p2 [p0 2 [.cv (.av [] 0 .full)] (.nil 1)] (p2 [p0 3 [.cv (.av [] 0 .full)] (.nil 1)] (.seq (p2 [qd 4 0] (.block 0 O3)) (p2 [p1 14 3,p1 2 14] .ret)))
theorem adK:ql Tryz.prog Pp 32=some (YK,15,[.tmp 2]):=by kernel_rfl
def La (qZ:Int) (p_:p9→Option p9):Nat→p9→Int→Option p9
 | 0,_,_=>none
 | m+1,s1,s2 =>
   if (decide (s2<qZ))=true then
    qs ((s1.length+1)*8≤140737488355328) <|
    La qZ p_ m (s1++[s2]) (w (s2+(1:Int)))
   else
    p_ s1
def M8 (qZ:Int):Option p9 :=
 La qZ (fun yn =>
   some yn) qi ([]:List Int) (0:Int)
theorem ahy {qZ:Int} {p_:p9→Option p9} {s1:p9} {s2:Int} {v:p9} {Q:Hr}   (rf:∀ (yn:p9) (qf:List I),p_ yn=some v→ry 15 [(3,(qG yn (.uniq 1)))] qf→Q (.exit 0) qf []) {T:List I} (b0:eZ (p8 false [0,1,2,2,10]) T=qa 15 [(0,(h0 qZ)),(3,(qG s1 (.uniq 1))),(4,(h0 s2))]) (h:La qZ p_ qi s1 s2=some v) :
  dQ Tryz.prog Pp 32 0 none O3 T [] Q:=by
 unfold O3;refine wp_loop b0 ?_;refine .intro (fun m T H=>∃ (s1:p9) (s2:Int),T=qa 15 [(0,(h0 qZ)),(3,(qG s1 (.uniq 1))),(4,(h0 s2))]∧H=[]∧La qZ p_ m s1 s2=some v) qi ⟨s1,s2,rfl,rfl,h⟩ ?_;clear h b0;rintro m T H ⟨s1,s2,rfl,rfl,h⟩;cases m
 ·exact rT h
 rename_i m;rw [La.eq_2] at h;conv=>whnf
 refine bs h (fun gM h=>?_) fun gM h=>?_
 ·rw [gM];conv=>whnf
  obtain ⟨gN,h⟩:=rM h;refine ⟨by first | rfl | simp,by have:=gN;omega,rfl,gN,?_⟩
  erw [PC h0 s1 s2];conv=>whnf
  exact ⟨m,sE m,(s1++[s2]),(w (s2+(1:Int))),rfl,rfl,h⟩
 ·rw [gM];conv=>whnf
  exact rf _ _ h ⟨rfl,rfl⟩
theorem ahz {qZ:Int} {v:p9} (h:M8 qZ=some v):qx 32 [(h0 qZ)] (.av (v.map h0) v.length .shared):=by
 refine qK eG adK rfl (rC (fun _=>rfl) _ _ _) fun Q bp=>?_;have jJ:qH [.tmp 2] Q (fun v=>(qG v .shared)) v:=fun T H bE=>bp _ T H bE;unfold M8 at h;unfold YK;obtain ⟨HN,qD⟩:∃ c,O3=c:=⟨_,rfl⟩;rw [qD];conv=>whnf
 subst qD;refine ahy ?_ (by exact rfl) h;intro yn qf h qA;obtain ⟨rD,rfl⟩:=qA.ex;conv=>whnf
 exact qe h jJ rfl rfl

def Nc (order:p9) (s1:Int) (ri:Int→Option p9):Nat→Int→Int→Option p9
 | 0,_,_=>none
 | m+1,s2,dk =>
   if (decide (dk<(order.length:Int)))=true then
    qs (0≤dk∧dk<(order.length:Int)) <|
    qs (0≤s1∧s1<(order.length:Int)) <|
    if (decide ((ix order s1)<(ix order dk)))=true then
     if (decide (s2<(0:Int)))=true then
      qs (0≤dk∧dk<(order.length:Int)) <|
      Nc order s1 ri m (ix order dk) (w (dk+(1:Int)))
     else
      qs (0≤dk∧dk<(order.length:Int)) <|
      if (decide ((ix order dk)<s2))=true then
       qs (0≤dk∧dk<(order.length:Int)) <|
       Nc order s1 ri m (ix order dk) (w (dk+(1:Int)))
      else
       Nc order s1 ri m s2 (w (dk+(1:Int)))
    else
     Nc order s1 ri m s2 (w (dk+(1:Int)))
   else
    ri s2
def Sg (order:p9) (QF:p9→Option p9):Nat→p9→Int→Option p9
 | 0,_,_=>none
 | m+1,G',rX =>
   if (decide (rX<(order.length:Int)))=true then
    (Li G' rX).bind fun aS =>
    if aS=true then
     Sg order QF m G' (w (rX+(1:Int)))
    else
     qs ((G'.length+1)*8≤140737488355328) <|
     Sg order QF m (G'++[rX]) (w (rX+(1:Int)))
   else
    QF G'
def Yc (order:p9) (p_:Unit→Option p9):Nat→Int→Option p9
 | 0,_=>none
 | m+1,s1 =>
   if (decide ((0:Int)≤s1))=true then
    qs (0≤s1∧s1<(order.length:Int)) <|
    qs (0≤(w (s1+(1:Int)))∧(w (s1+(1:Int)))<(order.length:Int)) <|
    if (decide ((ix order (w (s1+(1:Int))))<(ix order s1)))=true then
     Yc order p_ m (w (s1-(1:Int)))
    else
     Nc order s1 (fun yn =>
       qs (0≤s1∧s1≤(order.length:Int)) <|
       qs ((([]:List Int).length+(order.take s1.toNat).length)*8≤140737488355328) <|
       qs (((([]:List Int)++(order.take s1.toNat)).length+1)*8≤140737488355328) <|
       Sg order (fun oT =>
         some oT) qi ((([]:List Int)++(order.take s1.toNat))++[yn]) (0:Int)) qi (-1:Int) (w (s1+(1:Int)))
   else
    p_ ()
def Nb (order:p9):Option p9 :=
 Yc order (fun _ =>
   some []) qi (w ((order.length:Int)-(2:Int)))
end Go.Proofs.YtkoioidpbbbaiaaGreat.Ab


namespace Go.Proofs.YtkoioidpbbbaiaaGreat.Ab
open Go
set_option maxRecDepth 20000
set_option maxHeartbeats 1000000
theorem agC (n:Nat):qh (n+1)=qh n++[(n:Int)]:=by simp [qh,List.range_succ]
theorem Xz (n:Nat):(qh n).length=n:=by simp [qh]
theorem UO {n:Nat} (aI:n≤1000):∀ (m i:Nat),i≤n→n-i<m→La (n:Int) (fun z=>some z) m (qh i) (i:Int)=some (qh n)
 | 0,_,_,h=>absurd h (by omega)
 | m+1,i,hi,hm=>by
   rw [La];by_cases aR:i<n
   ·rw [if_pos (decide_eq_true (by omega)),qB (by rw [Xz];omega),H7 i (by omega),←agC];exact UO aI m (i+1) (by omega) (by omega)
   ·(obtain rfl:i=n:=by omega);rw [if_neg (by simp)]
theorem ahx {n:Nat} (aI:n≤1000):M8 (n:Int)=some (qh n):=UO aI qi 0 (by omega) (Ie (by omega))
section
variable {o:List Int}
end
end Go.Proofs.YtkoioidpbbbaiaaGreat.Ab


namespace Go.Proofs.YtkoioidpbbbaiaaGreat.Ab
open Go
set_option maxRecDepth 20000
set_option maxHeartbeats 4000000
noncomputable def WY:gE :=
 .ov false [p0 7 [.jq 18] .mU]
theorem adl:ey Tryz.prog Ju (q' Tryz.prog 16 0) 0=some WY:=by kernel_rfl
noncomputable def W2:gE :=
 .block 1 (.seq (.ov false [p0 19 [.Bs 4] (.zE .one),p0 20 [.jq 7] .mU,p0 21 [.cv (.func 41 [] []),.nc 19,.nc 20] (.call 3),p0 22 [.Bs 21,.cv (.int .i64 0)] (.bin .eql)]) (.cond (.nc 22) (.ov false [p0 23 [.nc 6] (.zE .one),p0 24 [.Bs 23,.cv (.int .i64 1)] (.bin .add),⟨none,[.jq 6,.jq 24],none,none,.st 1⟩]) .skip))
theorem adp:ey Tryz.prog Ju (ra Tryz.prog 16 0) 0=some W2:=by kernel_rfl
def JK (b:qb×Unit) (s:Int) (o:List Int):Option Int:=(J2 b o).bind fun c=>some (if decide (c=0)=true then w (s+1) else s)
def Kq (p:qb):Option (Int×Int) :=
 (rI p []).bind fun r=>match r with
 | (none,q)=>if decide (q≠0)=true then some (0,q) else none
 | (some b,q)=>if decide (q≠0)=true then some (0,q) else
   qs (0<b.1.1.length∧b.1.1.length≤7) <|
   (Ik (JK b) (qX b.1.1.length (qh b.1.1.length)) 0).bind fun n=>some (n,0)
theorem afW {b:qb×Unit} {o:List Int} {g9:ar} {s t:Int} (ah:JK b s o=some t) {yh fA gv Gi rO HK u8 HL HH HI HJ LX LY LZ u16 L0 L1 L2 L3 L4 L5 IU L6 L7:I} (he:o≠[]) (Y:List ar) :
  ∃ Z,Sem Tryz.prog (.yield [g9,ar.cells [lp b],ar.cells [h0 s]].length) [Hg o] (([g9,ar.cells [lp b],ar.cells [h0 s]]++[ar.loop .ready none 16 [yh,fA,gv,Gi,.ptr 1 0,rO,.ptr 2 0,HK,u8,HL,HH,HI,HJ,LX,LY,LZ,u16,L0,L1,L2,L3,L4,L5,IU,L6,L7] [18] (q' Tryz.prog 16 0) (ra Tryz.prog 16 0) Ju])++Y) 0 (.bool true) (([g9,ar.cells [lp b],ar.cells [h0 t]]++[ar.loop .ready none 16 [yh,fA,gv,Gi,.ptr 1 0,rO,.ptr 2 0,HK,u8,HL,HH,HI,HJ,LX,LY,LZ,u16,L0,L1,L2,L3,L4,L5,IU,L6,L7] [18] (q' Tryz.prog 16 0) (ra Tryz.prog 16 0) Ju])++(Y++Z)):=by
 refine ⟨[],?_⟩;rw [sM];obtain ⟨gb,e,rfl⟩:=List.exists_cons_of_ne_nil he;unfold JK at ah;obtain ⟨c,ak,ah⟩:=p' ah;obtain rfl:=Option.some.inj ah;refine On eG adl adp (Iw _ _ _) rfl (IA (by simp)) ?_;unfold WY;conv=>whnf
 refine ⟨rfl,Iw _ _ _,?_⟩;rw [Jk];unfold W2;conv=>whnf
 refine ⟨p6 (H5 b) (p6 (rC (fun _=>rfl) _ _ _) rfl),_,aeN (M' ak),?_⟩;conv=>whnf
 cases a1:decide (c=0)
 ·conv=>whnf
  show _∧(([g9,ar.cells [lp b],ar.cells [h0 s]]++[ar.loop .busy none 16 [yh,fA,gv,Gi,.ptr 1 0,rO,.ptr 2 0,HK,u8,HL,HH,HI,HJ,LX,LY,LZ,u16,L0,L1,L2,L3,L4,L5,IU,L6,L7] [18] (q' Tryz.prog 16 0) (ra Tryz.prog 16 0) Ju])++Y)[[g9,ar.cells [lp b],ar.cells [h0 s]].length]?=_∧lI ((([g9,ar.cells [lp b],ar.cells [h0 s]]++[ar.loop .busy none 16 [yh,fA,gv,Gi,.ptr 1 0,rO,.ptr 2 0,HK,u8,HL,HH,HI,HJ,LX,LY,LZ,u16,L0,L1,L2,L3,L4,L5,IU,L6,L7] [18] (q' Tryz.prog 16 0) (ra Tryz.prog 16 0) Ju])++Y).set [g9,ar.cells [lp b],ar.cells [h0 s]].length _) _;exact ⟨rfl,Iw _ _ _,by rw [Jk];exact lI.refl _⟩
 ·conv=>whnf
  show _∧(([g9,ar.cells [lp b],ar.cells [h0 (w (s+1))]]++[ar.loop .busy none 16 [yh,fA,gv,Gi,.ptr 1 0,rO,.ptr 2 0,HK,u8,HL,HH,HI,HJ,LX,LY,LZ,u16,L0,L1,L2,L3,L4,L5,IU,L6,L7] [18] (q' Tryz.prog 16 0) (ra Tryz.prog 16 0) Ju])++Y)[[g9,ar.cells [lp b],ar.cells [h0 (w (s+1))]].length]?=_∧lI ((([g9,ar.cells [lp b],ar.cells [h0 (w (s+1))]]++[ar.loop .busy none 16 [yh,fA,gv,Gi,.ptr 1 0,rO,.ptr 2 0,HK,u8,HL,HH,HI,HJ,LX,LY,LZ,u16,L0,L1,L2,L3,L4,L5,IU,L6,L7] [18] (q' Tryz.prog 16 0) (ra Tryz.prog 16 0) Ju])++Y).set [g9,ar.cells [lp b],ar.cells [h0 (w (s+1))]].length _) _;exact ⟨rfl,Iw _ _ _,by rw [Jk];exact lI.refl _⟩
theorem XY {p:qb} {v:Int×Int} (h:Kq p=some v):qx 16 [.agg [.av (p.1.flatMap p7) p.1.length .shared,h0 p.2.1,h0 p.2.2]] (.tuple [h0 v.1,h0 v.2]):=by
 unfold Kq at h;obtain ⟨⟨aS,bj⟩,ai,h⟩:=p' h;refine qK eG ac3 rfl (I4 (p6 rfl (p6 rfl rfl))) fun Q bp=>?_;have jJ:∀ T H,HC [.tmp 2,.tmp 3] (.tuple [h0 v.1,h0 v.2]) .ret T H→Q .ret T H:=fun T H bE=>bp _ T H bE;unfold Wg Wi Wh;obtain ⟨a7,cf⟩:∃ c,Q4=c:=⟨_,rfl⟩;rw [cf];conv=>whnf
 refine ⟨qj.pl,_,Mb ai,?_⟩;rcases aS with _ | b
 ·conv=>whnf
  refine bs h (fun af h=>?_) fun af h=>?_
  ·rw [af];(conv=>whnf);obtain rfl:=Option.some.inj h;exact jJ _ _ (Ih rfl rfl)
  ·cases h
 ·conv=>whnf
  refine bs h (fun af h=>?_) fun af h=>?_
  ·rw [af];(conv=>whnf);obtain rfl:=Option.some.inj h;exact jJ _ _ (Ih rfl rfl)
  ·rw [af];(conv=>whnf);subst cf;unfold Q4;obtain ⟨⟨Di,LB⟩,h⟩:=rM h;obtain ⟨n,ao,h⟩:=p' h;obtain rfl:=Option.some.inj h;obtain ⟨F,Mx,KK,bG⟩:=ND ao;obtain ⟨a9,ca⟩:∃ c,gE.AM (.nc 17) [18] (q' Tryz.prog 16 0) (ra Tryz.prog 16 0)=c:=⟨_,rfl⟩;rw [ca];(conv=>whnf);refine ⟨p6 (H5 b) rfl,_,Sc (b:=b) (v:=()) rfl,?_⟩;(conv=>whnf);subst ca;have pw:[I.bS [lp b]].all (cr 7)=true:=p6 (Ig (p6 (H5 b) rfl)) rfl;refine W6 (f:=Hg) (W_ (b:=b) LB Di) (fun i=>[ar.cells [.av (p.1.flatMap p7) p.1.length .shared,h0 p.2.1,h0 p.2.2],ar.cells [lp b],ar.cells [h0 (F i)]]) (by exact rfl) (by rw [Mx];exact rfl) (fun _=>rfl) ?_ (rl:=none) (by exact rfl) (Hn:=[ar.cells [.av (p.1.flatMap p7) p.1.length .shared,h0 p.2.1,h0 p.2.2],ar.cells [lp b],ar.cells [h0 n]]) (by rw [KK]) ?_
   ·intro i hi Y;exact afW (bG i hi) (QI Di _ (tN hi)) Y
   ·intro qC;(conv=>whnf);exact jJ _ _ (Ih rfl rfl)

noncomputable def YB:gE :=
 p2 [p0 1 [.jq 0] .box,qd 2 0,qd 3 0] (p2 [p0 7 [.nc 1] (.zE (.str 3)),p0 8 [.cv (.func 14 [] []),.nc 7] (.call 3),p1 6 8,qJ 9 6 0,p0 10 [.Bs 6] (.ext 1),p1 4 9,p1 5 10] (.seq (p2 [p3 11 5,qw 12 11 0 .neq] (.cond (.nc 12) (p2 [p1 13 5,qd 2 0,p1 3 13] .ret) .skip)) (p2 [p0 14 [.Bs 1] (.zE (.str 3)),p1 15 4,p0 16 [.cv (.func 29 [] []),.nc 14,.nc 15] (.call 3),qJ 17 16 0,p0 18 [.Bs 16] (.ext 1),p1 2 17,p1 3 18] .ret)))
theorem adB:ql Tryz.prog SS 12=some (YB,19,[.tmp 2,.tmp 3]):=by kernel_rfl
def Kp (p:(qk×(Int×Int))):Option (Int×Int) :=
 (J0 p).bind fun aS =>
 if (decide (aS.2≠(0:Int)))=true then
  some ((0:Int),aS.2)
 else
  (I6 p aS.1).bind fun bj =>
  some (bj.1,bj.2)
theorem XV {p:(qk×(Int×Int))} {v:(Int×Int)} (h:Kp p=some v):qx 12 [(.agg [(.av (p.1.flatMap p7) p.1.length .shared),(h0 p.2.1),(h0 p.2.2)])] (.tuple [(h0 v.1),(h0 v.2)]):=by
 refine qK eG adB rfl (I4 (p6 rfl (p6 rfl rfl))) fun Q bp=>?_;have jJ:qH [.tmp 2,.tmp 3] Q (fun v=>(.tuple [(h0 v.1),(h0 v.2)])) v:=fun T H bE=>bp _ T H bE;unfold Kp at h;unfold YB;conv=>whnf
 obtain ⟨aS,gM,h⟩:=p' h;refine ⟨qj.pl,_,R4 gM,?_⟩;conv=>whnf
 refine bs h (fun gN h=>?_) fun gN h=>?_
 ·rw [gN];conv=>whnf
  exact qe h jJ rfl rfl
 ·rw [gN];conv=>whnf
  obtain ⟨bj,qp,h⟩:=p' h;refine ⟨qj.pl,_,M7 qp,?_⟩;conv=>whnf
  exact qe h jJ rfl rfl

def R5 (p:(qk×(Int×Int))) (p_:p9→Option (p9×Int)):Nat→p9→Int→p9→Option (p9×Int)
 | 0,_,_,_=>none
 | m+1,s1,s2,dk =>
   if (decide ((0:Int)<(dk.length:Int)))=true then
    (Sf p dk).bind fun Ip =>
    if (decide (Ip<s2))=true then
     (Nb dk).bind fun KT =>
     R5 p p_ m dk Ip KT
    else
     (Nb dk).bind fun KU =>
     R5 p p_ m s1 s2 KU
   else
    p_ s1
def XW (p:(qk×(Int×Int))):Option (p9×Int) :=
 (Jo p).bind fun aS =>
 if (decide (aS≠(0:Int)))=true then
  (Jo p).bind fun bj =>
  some ([],bj)
 else
  (M8 (p.1.length:Int)).bind fun eK =>
  (Sf p eK).bind fun r0 =>
  (Nb eK).bind fun HQ =>
  R5 p (fun yn =>
    some (yn,(0:Int))) qi eK r0 HQ

def ahi (p:(qk×(Int×Int))):Option (Int×Int) :=
 (XW p).bind fun aS =>
 if (decide (aS.2≠(0:Int)))=true then
  some ((0:Int),aS.2)
 else
  (Ks p aS.1).bind fun bj =>
  some (bj,(0:Int))

def R6 (p:(qk×(Int×Int))) (p_:Int→Option (Int×Int)):Nat→Int→p9→Option (Int×Int)
 | 0,_,_=>none
 | m+1,s1,s2 =>
   if (decide ((0:Int)<(s2.length:Int)))=true then
    (Sf p s2).bind fun r0 =>
    if (decide (r0=(0:Int)))=true then
     (Nb s2).bind fun HQ =>
     R6 p p_ m (w (s1+(1:Int))) HQ
    else
     (Nb s2).bind fun Ip =>
     R6 p p_ m s1 Ip
   else
    p_ s1
def ahj (p:(qk×(Int×Int))):Option (Int×Int) :=
 (Jo p).bind fun aS =>
 if (decide (aS≠(0:Int)))=true then
  (Jo p).bind fun bj =>
  some ((0:Int),bj)
 else
  (M8 (p.1.length:Int)).bind fun eK =>
  R6 p (fun yn =>
    some (yn,(0:Int))) qi (0:Int) eK
end Go.Proofs.YtkoioidpbbbaiaaGreat.Ab


namespace Go.Proofs.YtkoioidpbbbaiaaGreat.Ab
open Go
set_option maxRecDepth 20000
set_option maxHeartbeats 1000000
def rr (p:qb):List (List Int):=qX p.1.length (qh p.1.length)
theorem JT {p:qb} {o:List Int}:o∈rr p↔qo p.1.length o:=aer.symm
theorem Pk {p:qb} (h:qY p):(rr p).length≤100000:=U8 h.len.2
theorem Zo {p:qb}:(rr p)[0]?=some (qh p.1.length):=U7 _ _ (Xz _)
theorem all_cons {p:qb}:∃ r,rr p=qh p.1.length::r:=by
 have:=Zo (p:=p);cases h:rr p with
 | nil=>rw [h] at this;cases this
 | cons a r=>rw [h] at this;exact ⟨r,by rw [Option.some.inj this]⟩
def HD (p:qb) (b o:List Int):List Int:=if qS p o<qS p b then o else b
def Jy (p:qb):List Int:=((rr p).drop 1).foldl (HD p) (qh p.1.length)
def Lw (p:qb):Nat:=((rr p).filter fun o=>decide (qS p o=0)).length
section
variable {p:qb}
theorem agx {α:Type} {l:List α} {j:Nat} (aw:j<l.length):l.take (j+1)=l.take j++[l[j]]:=uZ aw
theorem TE:(rr p).foldl (HD p) (qh p.1.length)=Jy p:=by
 unfold Jy;obtain ⟨r,ai⟩:=all_cons (p:=p);rw [ai];show List.foldl _ (HD p _ _) r=_;rw [show HD p (qh p.1.length) (qh p.1.length)=qh p.1.length by unfold HD;split <;> rfl];rfl
theorem XB (n:Nat):qo n (qh n):=JU.2 (.refl _)
theorem ahP (h:qY p) {x y:List Int} (aj:qo p.1.length x) (aY:qo p.1.length y):Ku (p,()) x y=some (decide (qS p x<qS p y)):=by
 unfold Ku;rw [M_ h aj,sb,M_ h aY,sb]
theorem QG (h:qY p):∀ (m j:Nat) (b:List Int),1+j≤(rr p).length→(rr p).length-(1+j)<m→b=(((rr p).drop 1).take j).foldl (HD p) (qh p.1.length)→qo p.1.length b →
  Kt (rr p) (Ku (p,())) (fun z=>some z) m b (j:Int)=some (Jy p)
 | 0,_,_,_,h,_,_=>absurd h (by omega)
 | m+1,j,b,aw,hm,af,bT=>by
   have acq:=Pk h;rw [Kt];have e1:((1:Int)).toNat=1:=rfl;rw [e1];(have el:((rr p).drop 1).length=(rr p).length-1:=by simp);by_cases aR:j<((rr p).drop 1).length
   ·rw [if_pos (decide_eq_true (by omega)),qB (by omega),ru aR];have kL:((rr p).drop 1)[j]∈rr p:=List.mem_of_mem_drop (tN aR);have al:=JT.1 kL;rw [ahP h al bT,sb,H7 j (by omega)];have bw:HD p b ((rr p).drop 1)[j]=(((rr p).drop 1).take (j+1)).foldl (HD p) (qh p.1.length):=by
     rw [agx aR,List.foldl_append,←af];rfl
    by_cases ak:qS p ((rr p).drop 1)[j]<qS p b
    ·rw [if_pos (decide_eq_true ak)];refine QG h m (j+1) _ (by omega) (by omega) ?_ al;rw [←bw];unfold HD;rw [if_pos ak]
    ·rw [if_neg (by simpa using ak)];refine QG h m (j+1) _ (by omega) (by omega) ?_ bT;rw [←bw];unfold HD;rw [if_neg ak]
   ·rw [if_neg (by simpa using by omega)];rw [te (by omega)] at af;rw [af];rfl
theorem R3 (aB:p.1.length≤1000):J0 p=some (if rm p=0 then (Jy p,0) else ([],rm p)):=by
 unfold J0;rw [Sb aB,sb];by_cases h:rm p=0
 ·rw [if_pos h,if_pos h];have ad:=I_.1 h;have ao:=ad.len;simp only;rw [if_neg (by decide),qB (show 0<p.1.length∧p.1.length≤7 by omega)];show (Na (rr p) (Ku (p,()))).bind _=_;obtain ⟨r,ai⟩:=all_cons (p:=p);have aQ:0<(rr p).length:=by rw [ai];simp
  unfold Na;rw [qB (by omega),qB (by omega)];have gb:ix (rr p) (0:Int)=qh p.1.length:=by rw [ai];rfl
  rw [gb];have:=QG ad qi 0 (qh p.1.length) (by omega) (Ie (by have:=Pk ad;omega)) rfl (XB _);rw [show ((0:Nat):Int)=0 from rfl] at this;rw [this,sb]
 ·rw [if_neg h,if_neg h];simp only;rw [if_pos (decide_eq_true h)]
theorem aaO (q:List Int→Bool) (l:List (List Int)):(l.filter q).length≤l.length:=List.length_filter_le _ _
theorem T1 (h:qY p):∀ (l r:List (List Int)),rr p=r++l→Ik (JK (p,())) l ((r.filter fun o=>decide (qS p o=0)).length:Int)=some ((Lw p:Int))
 | [],r,e=>by rw [sM] at e;subst e;rfl
 | o::l,r,e=>by
   have acq:=Pk h;have al:qo p.1.length o:=JT.1 (by rw [e];simp);(have hlen:r.length+(l.length+1)=(rr p).length:=by rw [e];simp);have jM:=aaO (fun o=>decide (qS p o=0)) r;have a8:=T1 h l (r++[o]) (by rw [e];simp);rw [List.filter_append,sA] at a8;show (JK (p,()) _ o).bind (Ik (JK (p,())) l)=_;unfold JK;rw [M_ h al,sb,sb];by_cases ak:qS p o=0
   ·rw [if_pos (decide_eq_true ak),H7 _ (by omega)];rw [show ([o].filter fun o=>decide (qS p o=0)).length=1 by simp [ak]] at a8;exact a8
   ·rw [if_neg (by simpa using ak)];rw [show ([o].filter fun o=>decide (qS p o=0)).length=0 by simp [ak]] at a8;exact a8
theorem XX (aB:p.1.length≤1000):Kq p=some (if rm p=0 then ((Lw p:Int),0) else (0,rm p)):=by
 unfold Kq;rw [Sb aB,sb];by_cases h:rm p=0
 ·rw [if_pos h,if_pos h];have ad:=I_.1 h;have ao:=ad.len;simp only;rw [if_neg (by decide),qB (show 0<p.1.length∧p.1.length≤7 by omega)];have:=T1 ad (rr p) [] rfl;show (Ik (JK (p,())) (rr p) 0).bind _=_;have this:Ik (JK (p,())) (rr p) 0=some ((Lw p:Int)):=this;rw [this,sb]
 ·rw [if_neg h,if_neg h];simp only;rw [if_pos (decide_eq_true h)]
theorem TF (p:qb) (E:List (List Int)):∀ (b:List Int),(E.foldl (HD p) b=b∨E.foldl (HD p) b∈E)∧qS p (E.foldl (HD p) b)≤qS p b∧∀ o∈E,qS p (E.foldl (HD p) b)≤qS p o:=by
 induction E with
 | nil=>intro b;exact ⟨.inl rfl,sU _,by simp⟩
 | cons a E a8 =>
   intro b;obtain ⟨ab,ae,aF⟩:=a8 (HD p b a);have af:(HD p b a=b∨HD p b a=a)∧qS p (HD p b a)≤qS p b∧qS p (HD p b a)≤qS p a:=by
    unfold HD;split
    ·exact ⟨.inr rfl,by omega,by omega⟩
    ·exact ⟨.inl rfl,by omega,by omega⟩
   rw [List.foldl_cons];refine ⟨?_,by omega,fun o aq=>?_⟩
   ·rcases ab with ab | ab
    ·rcases af.1 with e | e
     ·left;rw [ab,e]
     ·right;rw [ab,e];simp
    ·right;simp [ab]
   ·rcases sB.1 aq with rfl | aq
    ·omega
    ·exact aF o aq
theorem TG (p:qb):qo p.1.length (Jy p):=by
 rw [←TE];obtain ⟨ab,_,_⟩:=TF p (rr p) (qh p.1.length);rcases ab with ab | ab
 ·rw [ab];exact XB _
 ·exact JT.1 ab
theorem aam {o:List Int} (h:qo p.1.length o):qS p (Jy p)≤qS p o:=by
 rw [←TE];exact (TF p (rr p) (qh p.1.length)).2.2 o (JT.2 h)
theorem XU (aB:p.1.length≤1000):Kp p=some (if rm p=0 then (qS p (Jy p),0) else (0,rm p)):=by
 unfold Kp;rw [R3 aB,sb];by_cases h:rm p=0
 ·rw [if_pos h,if_pos h];have ad:=I_.1 h;have af:=TG p;simp only;rw [if_neg (by simp),OK aB (by rw [af.1];have:=ad.len;omega),if_pos (KS.2 ⟨ad,af⟩)];rfl
 ·rw [if_neg h,if_neg h];simp only;rw [if_pos (decide_eq_true h)]
end
end Go.Proofs.YtkoioidpbbbaiaaGreat.Ab
