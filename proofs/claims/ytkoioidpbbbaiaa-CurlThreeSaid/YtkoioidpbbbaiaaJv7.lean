
import Derived.Test.YtkoioidpbbbaiaaJv5
import Derived.Test.YtkoioidpbbbaiaaJv6
import Derived.KernelRfl
import Derived.Test.YtkoioidpbbbaiaaProg
set_option linter.unusedSimpArgs false
set_option linter.unusedVariables false
set_option linter.unusedSectionVars false

open Bool renaming and_eq_true→sn,and_self→tX,and_true→tu,eq_iff_iff→uD
open Int renaming le_refl→sU,toNat_natCast→tw
open List renaming all_cons→tA,all_nil→t_,append_assoc→sx,append_nil→sM,drop_eq_getElem_cons→s7,drop_of_length_le→ve,drop_zero→tq,flatMap_append→ui,getD_eq_getElem?_getD→sw,getElem?_append→sj,getElem?_append_left→sg,getElem?_eq_none→uQ,getElem?_eq_some_iff→sa,getElem?_set→tE,getElem?_set_ne→sd,getElem?_set_self→sk,getElem_mem→tQ,length_append→sy,length_eq_zero_iff→sO,length_set→s6,map_append→sP,map_cons→sE,map_nil→uB,mem_append→th,mem_cons→sA,mem_filter→tc,mem_map→sC,mem_map_of_mem→tf,mem_of_getElem?→sv,mem_singleton→sS,not_mem_nil→tS,take_of_length_le→tg,take_succ_eq_append_getElem→vd
open Nat renaming ble_eq_true_of_le→tn,le_refl→sc,lt_succ_self→sG,zero_add→sB,zero_le→sD
open Option renaming bind_some→sb
namespace Go.Proofs.Ytkoioidpbbbaiaa.Ab
open Go
set_option maxRecDepth 20000
set_option maxHeartbeats 4000000
noncomputable def X8:gE :=
 p2 [p0 2 [.jq 0] .box,qc 4 0,qc 5 0] (p2 [p0 9 [.Bu 2] (.zG (.str 3)),p3 10 1,p0 11 [.Bu 10] (.yD 1 1 [.av [] 0 .full] [0]),p0 12 [.cv (.func 36 [] []),.nd 9,.nd 11] (.call 3),p1 8 12,qL 13 8 0,p0 14 [.Bu 8] (.ext 1),p1 6 13,p1 7 14] (.seq (p2 [p3 15 7,qw 16 15 0 .neq] (.cond (.nd 16) (p2 [p1 17 7,qc 4 0,p1 5 17] .ret) .skip)) (p2 [p1 18 6,p1 19 1,p0 20 [.cv (.func 41 [] []),.nd 18,.nd 19] (.call 3),p1 4 20,qc 5 0] .ret)))
theorem acL:ql Try.prog Sh 14=some (X8,21,[.tmp 4,.tmp 5]):=by kernel_rfl
def Jn (p:(qj×(Int×Int))) (order:qb):Option (Int×Int) :=
 (rD p [order]).bind fun aS =>
 match aS with
 | (none,q1) =>
   if (decide (q1≠(0:Int)))=true then
    some ((0:Int),q1)
   else
    none
 | (some bU,q1) =>
   if (decide (q1≠(0:Int)))=true then
    some ((0:Int),q1)
   else
    (JU (bU.1,()) order).bind fun bj =>
    some (bj,(0:Int))
theorem Ow {p:(qj×(Int×Int))} {order:qb} {v:(Int×Int)} (h:Jn p order=some v):qu 14 [(.agg [(.av (p.1.flatMap p7) p.1.length .shared),(h0 p.2.1),(h0 p.2.2)]),(.av (order.map h0) order.length .shared)] (.tuple [(h0 v.1),(h0 v.2)]):=by
 refine qH eG acL rfl (Jf (p5 rfl (p5 rfl rfl))) fun Q bp=>?_;have jK:qJ [.tmp 4,.tmp 5] Q (fun v=>(.tuple [(h0 v.1),(h0 v.2)])) v:=fun T H bE=>bp _ T H bE;unfold Jn at h;unfold X8;conv=>whnf
 obtain ⟨aS,gM,h⟩:=p9 h;rcases aS with ⟨_ | bU,q1⟩
 ·refine ⟨(p5 (HU (p5 (Hv (fun _=>(p5 rfl (p5 rfl rfl))) _ _ _) (p5 rfl (p5 rfl rfl)))) (p5 (NK (p5 (rA (fun _=>rfl) _ _ _) rfl)) rfl)),_,L7 gM,?_⟩;conv=>whnf
  refine bs h (fun gN h=>?_) fun gN h=>?_
  ·rw [gN];(conv=>whnf);exact qg h jK rfl rfl
  ·rw [gN];(conv=>whnf);exact rT h
 ·refine ⟨(p5 (HU (p5 (Hv (fun _=>(p5 rfl (p5 rfl rfl))) _ _ _) (p5 rfl (p5 rfl rfl)))) (p5 (NK (p5 (rA (fun _=>rfl) _ _ _) rfl)) rfl)),_,L7 gM,?_⟩;conv=>whnf
  refine bs h (fun qs h=>?_) fun qs h=>?_
  ·rw [qs];(conv=>whnf);exact qg h jK rfl rfl
  ·rw [qs];(conv=>whnf);obtain ⟨bj,qP,h⟩:=p9 h;refine ⟨qi.pl,_,M0 qP,?_⟩;(conv=>whnf);exact qg h jK rfl rfl

noncomputable def X9:gE :=
 p2 [p0 3 [.jq 0] .box,qc 6 0,qc 7 0,qc 8 0] (p2 [p0 13 [.nd 3] (.zG (.str 3)),p3 14 1,p0 15 [.Bu 14] (.yD 1 1 [.av [] 0 .full] [0]),p0 16 [.cv (.func 36 [] []),.nd 13,.nd 15] (.call 3),p1 12 16,qL 17 12 0,p0 18 [.Bu 12] (.ext 1),p1 9 17,p1 10 18] (.seq (.block 0 (p2 [p3 20 10,qw 21 20 0 .neq,p1 19 21] (.cond (.nd 19) (p2 [p1 22 10,qc 6 0,qc 7 0,p1 8 22] .ret) (p2 [p0 24 [.nd 3] (.yO 1),qx 25 24 0,qf 26 25,qx 27 3 1,qx 28 27 1,qf 29 28,p3 30 2,p0 31 [.Bu 30] (.yD 1 1 [.int .i64 0] [0]),p0 32 [.cv (.func 37 [] []),.nd 26,.nd 29,.nd 31] (.call 3),p0 33 [.Bu 32] (.un .not),p1 23 33] (.cond (.nd 23) (p2 [qc 6 0,qc 7 0,qc 8 3] .ret) .skip))))) (p2 [p1 34 9,p1 35 1,p1 36 2,p0 37 [.cv (.func 38 [] []),.nd 34,.nd 35,.nd 36] (.call 3),p0 11 [] (.alloc [.int .i64 0,.int .i64 0]),⟨none,[.nd 11,.jq 37],none,none,.st 2⟩] (.seq (q_ [p0 38 [.nd 11,.cv (.int .i64 0)] (.zw 2 1),qf 39 38,p0 40 [.nd 11,.cv (.int .i64 1)] (.zw 2 1),qf 41 40,p1 6 39,p1 7 41,qc 8 0]) .ret))))
theorem acM:ql Try.prog Sg 12=some (X9,42,[.tmp 6,.tmp 7,.tmp 8]):=by kernel_rfl
def Ki (p:(qj×(Int×Int))) (order:qb) (ra:Int):Option (Int×Int×Int) :=
 (rD p [order]).bind fun aS =>
 match aS with
 | (none,q1) =>
   if (decide (q1≠(0:Int)))=true then
    some ((0:Int),(0:Int),q1)
   else
    (IA p.2.1 p.2.2 [ra]).bind fun bj =>
    if bj=true then
     none
    else
     some ((0:Int),(0:Int),(3:Int))
 | (some bU,q1) =>
   if (decide (q1≠(0:Int)))=true then
    some ((0:Int),(0:Int),q1)
   else
    (IA p.2.1 p.2.2 [ra]).bind fun eK =>
    if eK=true then
     (K6 (bU.1,()) order ra).bind fun Jx =>
     some (Jx.1,Jx.2,(0:Int))
    else
     some ((0:Int),(0:Int),(3:Int))
theorem XA {p:(qj×(Int×Int))} {order:qb} {ra:Int} {v:(Int×Int×Int)} (h:Ki p order ra=some v):qu 12 [(.agg [(.av (p.1.flatMap p7) p.1.length .shared),(h0 p.2.1),(h0 p.2.2)]),(.av (order.map h0) order.length .shared),(h0 ra)] (.tuple [(h0 v.1),(h0 v.2.1),(h0 v.2.2)]):=by
 refine qH eG acM rfl (Jf (p5 rfl (p5 rfl (p5 rfl rfl)))) fun Q bp=>?_;have jK:qJ [.tmp 6,.tmp 7,.tmp 8] Q (fun v=>(.tuple [(h0 v.1),(h0 v.2.1),(h0 v.2.2)])) v:=fun T H bE=>bp _ T H bE;unfold Ki at h;unfold X9;conv=>whnf
 obtain ⟨aS,gM,h⟩:=p9 h;rcases aS with ⟨_ | bU,q1⟩
 ·refine ⟨(p5 (HU (p5 (Hv (fun _=>(p5 rfl (p5 rfl rfl))) _ _ _) (p5 rfl (p5 rfl rfl)))) (p5 (NK (p5 (rA (fun _=>rfl) _ _ _) rfl)) rfl)),_,L7 gM,?_⟩;conv=>whnf
  refine bs h (fun gN h=>?_) fun gN h=>?_
  ·rw [gN];(conv=>whnf);exact qg h jK rfl rfl
  ·rw [gN];(conv=>whnf);obtain ⟨bj,qs,h⟩:=p9 h;refine ⟨(p5 rfl (p5 rfl (p5 rfl rfl))),_,Kl qs,?_⟩;(conv=>whnf);cases bj
   ·(conv=>whnf);replace h:=HC rfl h;exact qg h jK rfl rfl
   ·(conv=>whnf);replace h:=HD rfl h;exact rT h
 ·refine ⟨(p5 (HU (p5 (Hv (fun _=>(p5 rfl (p5 rfl rfl))) _ _ _) (p5 rfl (p5 rfl rfl)))) (p5 (NK (p5 (rA (fun _=>rfl) _ _ _) rfl)) rfl)),_,L7 gM,?_⟩;conv=>whnf
  refine bs h (fun qP h=>?_) fun qP h=>?_
  ·rw [qP];(conv=>whnf);exact qg h jK rfl rfl
  ·rw [qP];(conv=>whnf);obtain ⟨eK,rj,h⟩:=p9 h;refine ⟨(p5 rfl (p5 rfl (p5 rfl rfl))),_,Kl rj,?_⟩;(conv=>whnf);cases eK
   ·(conv=>whnf);replace h:=HC rfl h;exact qg h jK rfl rfl
   ·(conv=>whnf);replace h:=HD rfl h;obtain ⟨Jx,rU,h⟩:=p9 h;refine ⟨qi.pl,_,RL rU,?_⟩;(conv=>whnf);refine ⟨by decide,?_⟩;(conv=>whnf);refine ⟨by decide,?_⟩;(conv=>whnf);exact qg h jK rfl rfl

noncomputable def OP:gE :=
 .loop (some (p8 false [1,2,2,2,29])) (.seq (p2 [p3 12 6,p0 13 [.nd 2] (.yO 1),qx 14 13 1,qf 15 14,qo 16 12 15 .leq] (.cond (.nd 16) .skip (.exit 0))) (.seq (.block 1 (.seq (q_ [p0 19 [.nd 2] (.zG (.str 3)),p3 20 1,p3 21 6,p0 22 [.cv (.func 40 [] []),.nd 19,.nd 20,.nd 21,.cv (.int .i64 0)] (.call 3),p0 23 [.nd 2] (.zG (.str 3)),p3 24 1,p3 25 6,p0 26 [.cv (.func 40 [] []),.nd 23,.nd 24,.nd 25,.cv (.int .i64 1)] (.call 3),p1 7 22,p1 8 26]) (qG [p1 27 5,p3 28 7,p1 29 7,p0 30 [.Bu 29] (.un .neg),p3 31 8,p1 32 8,p0 33 [.Bu 32] (.un .neg),p0 34 [.jq 27,.jq 28,.jq 30,.jq 31,.jq 33] .max,p1 5 34]))) (qG [p1 17 6,qT 18 17 1,p1 6 18])))
noncomputable def Ye:gE :=
 p2 [p0 2 [.jq 0] .box,qc 4 0] (p2 [qc 5 0] (.seq (p2 [p0 9 [.nd 2] (.yO 1),qx 10 9 0,qf 11 10,p1 6 11] (.block 0 OP)) (p2 [p1 35 5,p1 4 35] .ret)))
theorem acT:ql Try.prog Pb 42=some (Ye,36,[.tmp 4]):=by kernel_rfl
def K0 (p:(qj×(Int×Int))) (order:qb) (qd:Int→Option Int):Nat→Int→Int→Option Int
 | 0,_,_=>none
 | m+1,s1,s2 =>
   if (decide (s2≤p.2.2))=true then
    (K7 p order s2 (0:Int)).bind fun aS =>
    (K7 p order s2 (1:Int)).bind fun bj =>
    K0 p order qd m (max (max (max (max s1 aS) (w (-aS))) bj) (w (-bj))) (w (s2+(1:Int)))
   else
    qd s1
def L6 (p:(qj×(Int×Int))) (order:qb):Option Int :=
 K0 p order (fun yo =>
   some yo) qk (0:Int) p.2.1
theorem agv {p:(qj×(Int×Int))} {order:qb} {qd:Int→Option Int} {s1:Int} {s2:Int} {v:Int} {Q:HL}   (rn:∀ (yo:Int) (bx:ar) (qe:List I),qd yo=some v→rm 36 [(5,(h0 yo))] qe→Q (.exit 0) qe [bx]) {T:List I} (b0:eZ (p8 false [1,2,2,2,29]) T=qa 36 [(1,(qM order .shared)),(2,(.ptr 0 0)),(5,(h0 s1)),(6,(h0 s2))]) (h:K0 p order qd qk s1 s2=some v) :
  dQ Try.prog Pb 42 0 none OP T [ar.cells [(q' p.1 .shared),(h0 p.2.1),(h0 p.2.2)]] Q:=by
 unfold OP;refine wp_loop b0 ?_;refine .intro (fun m T H=>∃ (s1 s2:Int),T=qa 36 [(1,(qM order .shared)),(2,(.ptr 0 0)),(5,(h0 s1)),(6,(h0 s2))]∧H=[ar.cells [(q' p.1 .shared),(h0 p.2.1),(h0 p.2.2)]]∧K0 p order qd m s1 s2=some v) qk ⟨s1,s2,rfl,rfl,h⟩ ?_;clear h b0;rintro m T H ⟨s1,s2,rfl,rfl,h⟩;cases m
 ·exact rT h
 rename_i m;rw [K0.eq_2] at h;conv=>whnf
 refine bs h (fun gM h=>?_) fun gM h=>?_
 ·rw [gM];conv=>whnf
  obtain ⟨aS,gN,h⟩:=p9 h;refine ⟨qi.pl,_,XR gN,Hi,?_⟩;conv=>whnf
  obtain ⟨bj,qs,h⟩:=p9 h;refine ⟨qi.pl,_,XR qs,(R9 (fun _ e=>by simp at e) Hi),?_⟩;conv=>whnf
  exact ⟨m,sG m,(max (max (max (max s1 aS) (w (-aS))) bj) (w (-bj))),(w (s2+(1:Int))),rfl,rfl,h⟩
 ·rw [gM];conv=>whnf
  exact rn _ _ _ h ⟨rfl,rfl⟩
theorem agw {p:(qj×(Int×Int))} {order:qb} {v:Int} (h:L6 p order=some v):qu 42 [(.agg [(.av (p.1.flatMap p7) p.1.length .shared),(h0 p.2.1),(h0 p.2.2)]),(.av (order.map h0) order.length .shared)] (h0 v):=by
 refine qH eG acT rfl rfl fun Q bp=>?_;have jK:qJ [.tmp 4] Q (fun v=>(h0 v)) v:=fun T H bE=>bp _ T H bE;unfold L6 at h;unfold Ye;obtain ⟨HY,qF⟩:∃ c,OP=c:=⟨_,rfl⟩;rw [qF];conv=>whnf
 subst qF;refine agv ?_ (by exact rfl) h;intro yo bx qe h qA;obtain ⟨rG,rfl⟩:=qA.ex;conv=>whnf
 exact qg h jK rfl rfl

end Go.Proofs.Ytkoioidpbbbaiaa.Ab


namespace Go.Proofs.Ytkoioidpbbbaiaa.Ab
open Go
set_option maxRecDepth 20000
set_option maxHeartbeats 1000000
abbrev q6 (p:p_) (o:List Int) (a:Nat) (d:Int):Int:=rB p.1 o a (qR d)
def IG (p:p_) (o:List Int) (d:Int):Int:=max (max (q6 p o 0 d) (-(q6 p o 0 d))) (max (q6 p o 1 d) (-(q6 p o 1 d)))
def qZ (p:p_) (o:List Int):Int:=max (IG p o p.2.1) (IG p o p.2.2)
theorem aag (p:p_) (o:List Int) (d:Int):0≤IG p o d:=by unfold IG;omega
theorem Z_ (p:p_) (o:List Int):0≤qZ p o:=by have:=aag p o p.2.1;unfold qZ;omega
theorem q3.len {p:p_} (h:q3 p):3≤p.1.length∧p.1.length≤7:=by have:=h.n;omega
theorem qq.len {p:p_} {o:List Int} (h:q3 p) (k:qq p.1.length o):o.length≤10:=by have:=h.len;have:=k.1;omega
theorem Ls {p:p_} {o:List Int} {a:Nat} {d:Int} (h:q3 p) (k:qq p.1.length o) (a1:0≤d∧d≤50):-60000≤q6 p o a d∧q6 p o a d≤60000 :=
 adk (B:=600) (qq.len h k) (by omega) fun i hi=>Kw (Io h.s (rZ k) hi) a1
theorem S3 (p:p_) (o:List Int) (a:Nat) {lo d hi:Int} (ab:lo≤d) (ae:d≤hi):(q6 p o a lo≤q6 p o a d∧q6 p o a d≤q6 p o a hi)∨(q6 p o a hi≤q6 p o a d∧q6 p o a d≤q6 p o a lo):=by
 simp only [q6,adm];generalize rB p.1 o a Prod.snd=B;rcases Int.le_total 0 B with h | h
 ·have:=Int.mul_le_mul_of_nonneg_left ab h;have:=Int.mul_le_mul_of_nonneg_left ae h;omega
 ·have:=Int.mul_le_mul_of_nonpos_left h ab;have:=Int.mul_le_mul_of_nonpos_left h ae;omega
theorem aaf {p:p_} {o:List Int} {lo d hi:Int} (ab:lo≤d) (ae:d≤hi):IG p o d≤max (IG p o lo) (IG p o hi):=by
 have a:=S3 p o 0 ab ae;have b:=S3 p o 1 ab ae;unfold IG;omega
theorem adf (a b c d:Int):max (max (max (max (max (max (max (max 0 a) (-a)) b) (-b)) c) (-c)) d) (-d)=max (max (max a (-a)) (max b (-b))) (max (max c (-c)) (max d (-d))):=by
 rw [show max (max 0 a) (-a)=max a (-a) by omega];simp only [Int.max_assoc]
section
variable {p:p_} {o:List Int}
theorem MZ (h:q3 p) (k:qq p.1.length o):JU (p,()) o=some (qZ p o):=by
 have hle:=h.le;have bD:=h.lo;have GQ:=h.hi;unfold JU;have fL:=qq.len h k;rw [RK (b:=(p,())) h.s (rZ k) fL k.1.symm (show 0≤p.2.1∧p.2.1≤50 by omega),sb,RK (b:=(p,())) h.s (rZ k) fL k.1.symm (show 0≤p.2.2∧p.2.2≤50 by omega),sb];have aA:=Ls (a:=0) h k (show 0≤p.2.1∧p.2.1≤50 by omega);have aG:=Ls (a:=1) h k (show 0≤p.2.1∧p.2.1≤50 by omega);have aT:=Ls (a:=0) h k (show 0≤p.2.2∧p.2.2≤50 by omega);have br:=Ls (a:=1) h k (show 0≤p.2.2∧p.2.2≤50 by omega);simp only;rw [qO (n := -(q6 p o 0 p.2.1)) (by omega),qO (n := -(q6 p o 1 p.2.1)) (by omega),qO (n := -(q6 p o 0 p.2.2)) (by omega),qO (n := -(q6 p o 1 p.2.2)) (by omega)];exact congrArg some (adf _ _ _ _)
theorem XS (h:q3 p) (k:qq p.1.length o) {d:Int} (a1:0≤d∧d≤50) {a:Nat}:K7 p o d (a:Int)=some (q6 p o a d):=agO h.s (rZ k) (qq.len h k) a1
theorem aar {n:Nat} (h:n≤1000000):n<qk:=IH h
theorem Ue (h:q3 p) (k:qq p.1.length o):∀ (m i:Nat) (s:Int),p.2.1+i≤p.2.2+1→(p.2.2+1-(p.2.1+i)).toNat<m→0≤s→s≤qZ p o→(0<i→IG p o p.2.1≤s)→(p.2.1+i=p.2.2+1→IG p o p.2.2≤s) →
  K0 p o (fun z=>some z) m s (p.2.1+i)=some (qZ p o)
 | 0,_,_,_,h,_,_,_,_=>absurd h (by omega)
 | m+1,i,s,hi,hm,aQ,ab,ae,aF=>by
   have hle:=h.le;have bD:=h.lo;have GQ:=h.hi;rw [K0];by_cases aR:p.2.1+i≤p.2.2
   ·rw [if_pos (decide_eq_true aR)];rw [show (0:Int)=((0:Nat):Int) from rfl,XS h k (d:=p.2.1+i) (by omega),sb];rw [show (1:Int)=((1:Nat):Int) from rfl,XS h k (d:=p.2.1+i) (by omega),sb];have aA:=Ls (a:=0) h k (show 0≤p.2.1+i∧p.2.1+i≤50 by omega);have aG:=Ls (a:=1) h k (show 0≤p.2.1+i∧p.2.1+i≤50 by omega);rw [qO (n := -(q6 p o 0 (p.2.1+i))) (by omega),qO (n := -(q6 p o 1 (p.2.1+i))) (by omega),qO (by omega)];(have e:max (max (max (max s (q6 p o 0 (p.2.1+i))) (-(q6 p o 0 (p.2.1+i)))) (q6 p o 1 (p.2.1+i))) (-(q6 p o 1 (p.2.1+i)))=max s (IG p o (p.2.1+i)):=by unfold IG;simp only [Int.max_assoc]);have b:=aaf (p:=p) (o:=o) (lo:=p.2.1) (d:=p.2.1+i) (hi:=p.2.2) (by omega) aR;rw [e,show p.2.1+(i:Int)+((1:Nat):Int)=p.2.1+((i+1:Nat):Int) by omega];refine Ue h k m (i+1) _ (by omega) (by omega) (by omega) (by unfold qZ at *;omega) (fun _=>?_) (fun he=>?_)
    ·by_cases gb:i=0
     ·subst gb;simp only [Int.natCast_zero,Int.add_zero];omega
     ·have:=ae (by omega);omega
    ·rw [show p.2.1+(i:Int)=p.2.2 by omega];omega
   ·rw [if_neg (by simpa using by omega)];have:=ae (by omega);have:=aF (by omega);congr 1;unfold qZ at *;omega
theorem agu (h:q3 p) (k:qq p.1.length o):L6 p o=some (qZ p o):=by
 have hle:=h.le;have bD:=h.lo;have GQ:=h.hi;unfold L6;have:=Ue h k qk 0 0 (by omega) (aar (by omega)) (by omega) (Z_ p o) (fun h=>absurd h (by omega)) (fun h=>by omega);simpa using this
theorem Ov (aB:p.1.length≤1000) (ao:o.length≤12):Jn p o=some (if rK p o=0 then (qZ p o,0) else (0,rK p o)):=by
 unfold Jn;rw [OA aB ao,sb];by_cases h:rK p o=0
 ·rw [if_pos h,if_pos h];obtain ⟨ab,ae⟩:=KJ.1 h;simp only;rw [if_neg (by decide),MZ ab ae];rfl
 ·rw [if_neg h,if_neg h];simp only;rw [if_pos (decide_eq_true h)]
theorem Xz (aB:p.1.length≤1000) (ao:o.length≤12) (d:Int):Ki p o d=some (if rK p o=0 then (if p.2.1≤d∧d≤p.2.2 then (q6 p o 0 d,q6 p o 1 d,0) else (0,0,3)) else (0,0,rK p o)):=by
 unfold Ki;rw [OA aB ao,sb];by_cases h:rK p o=0
 ·rw [if_pos h,if_pos h];obtain ⟨ab,ae⟩:=KJ.1 h;have hle:=ab.le;have bD:=ab.lo;have GQ:=ab.hi;simp only;rw [if_neg (by decide),L8,sb];by_cases a1:p.2.1≤d∧d≤p.2.2
  ·rw [if_pos (by simp [a1.1,a1.2]),if_pos a1,RK (b:=(p,())) ab.s (rZ ae) (qq.len ab ae) ae.1.symm (by omega)];rfl
  ·rw [if_neg (by simpa using a1),if_neg a1]
 ·rw [if_neg h,if_neg h];simp only;rw [if_pos (decide_eq_true h)]
end
end Go.Proofs.Ytkoioidpbbbaiaa.Ab


namespace Go.Proofs.Ytkoioidpbbbaiaa.Ab
open Go
noncomputable def NS:gE :=
 .seq (q_ [p0 37 [.nd 10] (.zG (.str 2)), p0 38 [] (.build [.int .i64 0, .int .i64 0] []), p0 39 [.Bu 37, .Bu 38] (.other (Oper.mk (some 39) (Op.binOp .eql 102 (Operand.tmp 37) (Operand.tmp 38) 102) 4 "press.go:129" (Array.mk [Edge.mk 0 Ground.data, Edge.mk 1 Ground.data]) none) 0), p1 40 39, cl 41 [.jq 11] 40 false .mV, cl 42 [.jq 41] 40 false .mV, cl 43 [.nd 10] 42 true (.yO 0), cl 44 [.Bu 43] 42 true (.zG .one), cl 45 [.nd 10] 42 true (.yO 1), cl 46 [.Bu 45] 42 true (.zG .one), cl 47 [.jq 0] 42 true .mV, cl 48 [.Bu 47] 42 true .z6, cl 49 [.Bu 48] 42 true (.yO 0), cl 50 [.Bu 49] 42 true (.yO 1), cl 51 [.Bu 50] 42 true (.yO 0), cl 52 [.Bu 51] 42 true (.zG .one), cl 53 [.Bu 46, .Bu 52] 42 true (.bin .mul), cl 54 [.Bu 44, .Bu 53] 42 true (.bin .add), cl 55 [.Bu 54, .cv (.int .i64 0)] 42 true (.bin .eql), cl 56 [.nd 42, .Bu 55, .cv (.bool false)] 40 false .pick, p0 57 [.nd 40, .cv (.bool true), .Bu 56] .pick, p0 8 [.cv (.av [] 0 .full)] (.nil 3), p1 9 57]) .ret
noncomputable def Q0:gE :=
 .ow false [p3 80 0,p0 81 [.Bu 80] .z6,qx 82 81 3,qf 83 82,p3 84 0,p3 85 3,p0 86 [.Bu 85,.cv (.int .i64 0)] (.kZ 1),qf 87 86,p0 88 [.cv (.func 68 [] []),.jq 84,.jq 87] (.call 9),p3 89 12,⟨none,[.Bu 83,.Bu 88,.Bu 89],none,none,.zT (.int .i64)⟩]
noncomputable def NT:gE :=
 p2 [p3 73 0,p3 74 0,p3 75 3,p0 76 [.Bu 75,.cv (.int .i64 0)] (.kZ 1),qf 77 76,p0 78 [.cv (.func 68 [] []),.jq 74,.jq 77] (.call 9),p0 79 [.cv (.func 71 [] []),.nd 73,.nd 78] (.call 2),p1 12 79] Q0
noncomputable def Q1:gE :=
 .ow true [p0 98 [.nd 10] (.yO 0),qf 99 98,p0 100 [.Bu 99] (.un .neg),p0 101 [.nd 10] (.yO 1),qf 102 101,p1 103 0,p0 104 [.Bu 103] .z6,qx 105 104 0,qx 106 105 1,qx 107 106 0,qf 108 107,qo 109 102 108 .mul,qo 110 100 109 .sub,p0 111 [.Bu 110,.cv (.int .i64 0)] (.build [.int .i64 0,.int .i64 0] [(0,1),(1,1)]),⟨none,[.nd 14,.jq 111],none,none,.st 2⟩]
noncomputable def V_:gE :=
 .seq (q_ [p1 120 1,p1 121 3,p0 122 [.Bu 121,.cv (.int .i64 0)] (.kZ 1),qf 123 122,q5 124 120 123 1,qf 125 124,p0 126 [.Bu 15] (.zG (.str 2)),p0 127 [.Bu 125,.Bu 126] (.build [.int .i64 0,.int .i64 0,.int .i64 0] [(0,1),(1,2)]),p0 128 [.Bu 127] (.yD 1 3 [.int .i64 0,.int .i64 0,.int .i64 0] [0]),p1 8 128,p0 9 [.cv (.bool true)] .mV]) .ret
noncomputable def NU:gE :=
 .seq (p2 [p1 118 13,p0 119 [.Bu 118] (.un .not)] (.cond (.nd 119) (p2 [p0 8 [.cv (.av [] 0 .full)] (.nil 3),p0 9 [.cv (.bool false)] .mV] .ret) .skip)) V_
noncomputable def NV:gE :=
 p2 [p1 113 12,p0 114 [.Bu 14] (.zG (.str 2)),p0 115 [.Bu 113,.Bu 114] (.zS (.str 2) true (some (.agg [.int .i64 0,.int .i64 0]))),p1 112 115,qL 116 112 0,p0 117 [.Bu 112] (.ext 1),p0 15 [] (.alloc [.int .i64 0,.int .i64 0]),⟨none,[.nd 15,.jq 116],none,none,.st 2⟩,p1 13 117] NU
noncomputable def MH:gE :=
 p2 [p0 90 [.nd 10] (.yO 0),qf 91 90,p0 92 [.Bu 91] (.un .neg),p0 93 [.nd 10] (.yO 1),qf 94 93,p0 95 [.Bu 94] (.un .neg),p0 96 [.Bu 92,.Bu 95] (.build [.int .i64 0,.int .i64 0] [(0,1),(1,1)]),p0 14 [] (.alloc [.int .i64 0,.int .i64 0]),⟨none,[.nd 14,.jq 96],none,none,.st 2⟩] (.seq (p2 [p1 97 11] (.cond (.nd 97) Q1 .skip)) NV)
noncomputable def LM:gE :=
 p2 [p3 59 0,p0 60 [.Bu 59] .z6,qx 61 60 3,qf 62 61,p3 63 0,p3 64 3,p0 65 [.Bu 64,.cv (.int .i64 0)] (.kZ 1),qf 66 65,p0 67 [.cv (.func 68 [] []),.jq 63,.jq 66] (.call 9),p0 68 [.Bu 62,.Bu 67] (.zS (.int .i64) true (some .a0)),p1 58 68,qL 69 58 0,qL 70 58 1,p1 12 69,p1 13 70] (.seq (p2 [p1 71 13,p0 72 [.Bu 71] (.un .not)] (.cond (.nd 72) NT .skip)) MH)
noncomputable def MG:gE :=
 .seq (q_ [p3 21 0,p0 22 [.Bu 21] .z6,qx 23 22 0,qx 24 23 1,qx 25 24 0,qf 26 25,p3 27 0,p0 28 [.Bu 27] .z6,qx 29 28 0,qx 30 29 1,qx 31 30 1,qf 32 31,qo 33 26 32 .eql,p1 11 33]) (.seq (p2 [p3 34 3,qU 35 34,qw 36 35 0 .eql] (.cond (.nd 36) NS .skip)) LM)
noncomputable def QZ:gE :=
 p2 [p3 16 0,p3 17 1,p1 18 2,p3 19 3,p0 20 [.cv (.func 62 [] []),.jq 16,.jq 17,.jq 18,.jq 19] (.call 9),p0 10 [] (.alloc [.int .i64 0,.int .i64 0]),⟨none,[.nd 10,.jq 20],none,none,.st 2⟩] MG
noncomputable def NR:gE :=
 p2 [p0 8 [.cv (.av [] 0 .full)] (.nil 3),p0 9 [.cv (.bool false)] .mV] QZ
theorem Ql:ql Go.Proofs.Try.prog Le 53=some (NR,129,[.tmp 8,.tmp 9]):=by kernel_rfl
end Go.Proofs.Ytkoioidpbbbaiaa.Ab


namespace Go.Proofs.Ytkoioidpbbbaiaa.Ab
open Go
set_option maxRecDepth 20000
set_option maxHeartbeats 4000000
abbrev rQ:=((List (Int×Int))×(Int×Int))×Unit
abbrev rH (b:rQ) (m:Nat):I:=.bS [.av (b.1.1.flatMap p7) b.1.1.length .shared,h0 b.1.2.1,h0 b.1.2.2,.map m]
def HR (b:rQ) (m:Nat) (H:List ar):Prop:=∃ (es:List (Nat×I×I)) (IE:Nat),H[m]?=some (.map es IE) ∧
 ∀ e∈es,∃ (x:Int) (id c:Nat) (A:qY),e.2.1=h0 x∧e.2.2=.map id∧id≠m∧H[id]?=some (.map (q2 A) c)∧L' b x=some A
theorem HR.more {b:rQ} {m:Nat} {H:List ar} (h:HR b m H) (Z:List ar):HR b m (H++Z):=by
 obtain ⟨es,IE,ab,ae⟩:=h;refine ⟨es,IE,by rw [sg (sa.1 ab).1];exact ab,fun e he=>?_⟩;obtain ⟨x,id,c,A,aA,aG,aT,br,bg⟩:=ae e he;exact ⟨x,id,c,A,aA,aG,aT,by rw [sg (sa.1 br).1];exact br,bg⟩
theorem Th {x:Int}:∀ {es:List (Nat×I×I)} {n:Nat},(∀ e∈es,∃ y:Int,e.2.1=h0 y)→(∃ i e,fH (h0 x) es n=some (some (n+i))∧es[i]?=some e∧e.2.1=h0 x)∨fH (h0 x) es n=some none
 | [],n,_=>.inr rfl
 | (i,k,v)::es,n,h=>by
   obtain ⟨y,aY⟩:=h (i,k,v) (by simp);simp only at aY;subst aY;have he:gK (h0 x) (h0 y)=some (decide (x=y)):=by
    simp only [gK,if_true,Option.some.injEq];rw [uD];simp
   by_cases e:x=y
   ·subst e;refine .inl ⟨0,_,?_,rfl,rfl⟩;simp only [fH,he,decide_true];rfl
   ·rcases Th (x:=x) (es:=es) (n:=n+1) (fun e he=>h e (by simp [he])) with ⟨j,b',ab,ae,aF⟩ | ab
    ·refine .inl ⟨j+1,b',?_,by simpa using ae,aF⟩;simp only [fH,he];rw [decide_eq_false e];show fH (h0 x) es (n+1)=_;rw [ab];congr 2;omega
    ·refine .inr ?_;simp only [fH,he];rw [decide_eq_false e];exact ab
def H6 (m:Nat) (H H':List ar):Prop:=H.length≤H'.length∧∀ j,j≠m→j<H.length→H'[j]?=H[j]?
def Ih (b:rQ) (order:List Int) (qp:Int) (KH:List Int):Option (List qn×Bool) :=
 (K_ b order qp KH).bind fun left =>
 match KH with
 | []=>some ([],decide (left=(0,0)) || (decide (b.1.2.1=b.1.2.2) && decide (w (left.1+w (left.2*b.1.2.1))=0)))
 | cy::_ =>
   (JV b cy).bind fun x=>(L' b x).bind fun A =>
   match Jd A (if b.1.2.1=b.1.2.2 then (w (w (-left.1)-w (left.2*b.1.2.1)),0) else (w (-left.1),w (-left.2))) with
   | none=>some ([],false)
   | some s=>qy (0≤cy∧cy<(order.length:Int)) <| some ([(ix order cy,s)],true)
theorem XP {b:rQ} {order:List Int} {qp:Int} {v:List qn×Bool} (h:Ih b order qp []=some v) {m lo:Nat} {H:List ar} (bD:lo≤H.length) :
  v.1=[]∧∃ o,Sem Try.prog (.fn 53) [rH b m,.av (order.map h0) order.length .shared,h0 qp,.av [] 0 .full] H lo (.tuple [.av [] 0 .shared,B v.2]) (H++[o]):=by
 unfold Ih at h;obtain ⟨left,ao,h⟩:=p9 h;obtain rfl:=Option.some.inj h;refine ⟨rfl,.cells [h0 left.1,h0 left.2],?_⟩;refine ri eG Ql rfl (ba.append _ _ _) fun Q bp=>?_;unfold NR QZ;obtain ⟨ZA,J4⟩:∃ c,MG=c:=⟨_,rfl⟩;rw [J4];conv=>whnf
 refine ⟨_,_,call9 (bs:=[lq b,.av (order.map h0) order.length .shared,h0 qp,.av (([]:List Int).map h0) ([]:List Int).length .shared]) rfl (p5 (H4 b) (p5 (rA (fun _=>rfl) _ _ _) (p5 rfl (p5 rfl rfl)))) (OG ao),?_⟩;conv=>whnf
 rw [tn bD];refine Ex (x:=ar.cells [h0 0,h0 0]) (by first | exact qC.h | rfl | (simp [sj,I.settle];done)) ?_
 conv=>whnf
 rw [HQ];subst J4;unfold MG;obtain ⟨B_,KA⟩:∃ c,LM=c:=⟨_,rfl⟩;obtain ⟨a7,cf⟩:∃ c,NS=c:=⟨_,rfl⟩;rw [KA,cf];conv=>whnf
 subst cf;unfold NS;conv=>whnf
 refine Ex (x:=ar.cells [h0 left.1,h0 left.2]) (by first | exact qC.h | rfl | (simp [sj,I.settle];done)) ?_
 conv=>whnf
 refine ⟨.bool (decide (left=(0,0))),_,fun C=>Qr rfl rfl (R8 (fs:=Tx Try.prog 102) (by kernel_rfl) (by kernel_rfl) (by kernel_rfl) (by kernel_rfl) (by kernel_rfl) _ _ _ _ (.inl rfl)),?_⟩;conv=>whnf
 by_cases bk:left=(0,0)
 ·rw [decide_eq_true bk];conv=>whnf
  rw [decide_eq_true bk] at bp;exact bp _ _ _ ⟨.inr rfl,lJ.refl _,rfl⟩
 ·rw [decide_eq_false bk];rw [decide_eq_false bk] at bp;conv=>whnf
  by_cases aq:b.1.2.1=b.1.2.2
  ·rw [decide_eq_true aq];rw [decide_eq_true aq] at bp;(conv=>whnf);refine Ex (x:=ar.cells [h0 left.1,h0 left.2]) (by first | exact qC.h | rfl | (simp [sj,I.settle];done)) ?_
   (conv=>whnf);refine Ex (x:=ar.cells [h0 left.1,h0 left.2]) (by first | exact qC.h | rfl | (simp [sj,I.settle];done)) ?_
   (conv=>whnf);exact bp _ _ _ ⟨.inr rfl,lJ.refl _,rfl⟩
  ·rw [decide_eq_false aq];rw [decide_eq_false aq] at bp;(conv=>whnf);exact bp _ _ _ ⟨.inr rfl,lJ.refl _,rfl⟩
theorem W3 {b:rQ} {order:List Int} {cy:Int} {left:qS} {A:qY} {v:List qn×Bool} (h:(match Jd A (if b.1.2.1=b.1.2.2 then (w (w (-left.1)-w (left.2*b.1.2.1)),0) else (w (-left.1),w (-left.2))) with
  | none=>some ([],false)
  | some s=>qy (0≤cy∧cy<(order.length:Int)) <| some ([(ix order cy,s)],true))=some v) {m lo p10 id c:Nat} {H:List ar} {Xd Xi Xj Xk Oh Xl Oj W_:I} (bD:lo≤H.length) (dp:H[p10]?=some (.cells [h0 left.1,h0 left.2])) (aE:H[id]?=some (.map (q2 A) c)) {Q:cQ→List I→List ar→Prop}
  (bp:∀ T bx bK,(rF (H++[bx,bK]) T [.tmp 8,.tmp 9]).map jg=some (.tuple [.av (v.1.flatMap qm) v.1.length .shared,B v.2])→Q .ret T (H++[bx,bK])) :
  dQ Try.prog Le 53 lo none MH (qa 129 [(0,rH b m),(1,.av (order.map h0) order.length .shared),(3,.av [h0 cy] 1 (.own 1)),(8,Xl),(9,Oj),(10,.ptr p10 0),(11,.bool (decide (b.1.2.1=b.1.2.2))),(12,.map id),(13,W_),(36,Xd),(58,Xi),(72,Xj),(73,Xk),(78,Oh)]) H Q:=by
 have J4:∀ Z,(H++Z)[p10]?=some (.cells [h0 left.1,h0 left.2]):=fun Z=>by rw [sg (sa.1 dp).1];exact dp
 have gid:∀ Z,(H++Z)[id]?=some (.map (q2 A) c):=fun Z=>by rw [sg (sa.1 aE).1];exact aE
 obtain ⟨Jm,Mu⟩:∃ Jm,Jm=(if b.1.2.1=b.1.2.2 then (w (w (-left.1)-w (left.2*b.1.2.1)),0) else (w (-left.1),w (-left.2))):=⟨_,rfl⟩;rw [←Mu] at h;have fin:∀ v0 Xm,dQ Try.prog Le 53 lo none NV (qa 129 [(0,v0),(1,.av (order.map h0) order.length .shared),(3,.av [h0 cy] 1 (.own 1)),(8,Xl),(9,Oj),(10,.ptr p10 0),(12,.map id),(13,W_),(14,.ptr H.length 0),(36,Xd),(58,Xi),(72,Xj),(73,Xk),(78,Oh),(97,Xm)]) (H++[ar.cells [h0 Jm.1,h0 Jm.2]]) Q:=by
  intro v0 Xm;unfold NV;obtain ⟨f',rP⟩:∃ c,NU=c:=⟨_,rfl⟩;rw [rP];conv=>whnf
  refine Ex (x:=ar.cells [h0 Jm.1,h0 Jm.2]) (by first | exact qC.h | rfl | (simp [sj,I.settle];done)) ?_
  conv=>whnf
  rcases acz Jm A with ⟨s,i,e,aJ,aN,cb,hq⟩ | ⟨aJ,aN⟩
  ·rw [aJ] at h;obtain ⟨jU,h⟩:=rL h;obtain rfl:=Option.some.inj h;refine ⟨rfl,_,_,gid _,some i,aN,e,cb,?_⟩;rw [hq];(conv=>whnf);rw [tn (show lo≤(H++[ar.cells [h0 Jm.1,h0 Jm.2]]).length by simp;omega)];refine Ex (x:=ar.cells [h0 0,h0 0]) (by first | exact qC.h | rfl | (simp [sj,I.settle];done)) ?_
   (conv=>whnf);rw [HQ];subst rP;unfold NU V_;(conv=>whnf);refine ⟨⟨sU _,by decide⟩,?_⟩;(conv=>whnf);refine ⟨jU,?_⟩;rw [rb h0 order cy jU];(conv=>whnf);refine Ex (x:=ar.cells [h0 s.1,h0 s.2]) (by first | exact qC.h | rfl | (simp [sj,I.settle];done)) ?_
   (conv=>whnf);rw [sx];exact bp _ _ _ rfl
  ·rw [aJ] at h;obtain rfl:=Option.some.inj h;refine ⟨rfl,_,_,gid _,none,aN,_,rfl,?_⟩;(conv=>whnf);rw [tn (show lo≤(H++[ar.cells [h0 Jm.1,h0 Jm.2]]).length by simp;omega)];refine Ex (x:=ar.cells [h0 0,h0 0]) (by first | exact qC.h | rfl | (simp [sj,I.settle];done)) ?_
   (conv=>whnf);rw [HQ];subst rP;unfold NU;(conv=>whnf);rw [sx];exact bp _ _ _ rfl
 unfold MH;obtain ⟨nv,Lj⟩:∃ c,NV=c:=⟨_,rfl⟩;obtain ⟨b6,iP⟩:∃ c,Q1=c:=⟨_,rfl⟩;rw [Lj,iP];conv=>whnf
 refine Ex dp ?_;conv=>whnf
 refine Ex dp ?_;conv=>whnf
 rw [tn bD];refine Ex (x:=ar.cells [h0 0,h0 0]) (by first | exact qC.h | rfl | (simp [sj,I.settle];done)) ?_
 conv=>whnf
 rw [HQ];by_cases aq:b.1.2.1=b.1.2.2
 ·rw [decide_eq_true aq];rw [if_pos aq] at Mu;conv=>whnf
  subst iP;unfold Q1;conv=>whnf
  refine Ex (J4 _) ?_;conv=>whnf
  refine Ex (J4 _) ?_;conv=>whnf
  rw [tn bD];refine Ex (x:=ar.cells [h0 (w (-left.1)),h0 (w (-left.2))]) (by first | exact qC.h | rfl | (simp [sj,I.settle];done)) ?_
  conv=>whnf
  rw [HQ];subst Lj;rw [Mu] at fin;exact fin _ _
 ·rw [decide_eq_false aq];rw [if_neg aq] at Mu;conv=>whnf
  subst Lj;rw [Mu] at fin;exact fin _ _
theorem Tg {H:List ar} {bx bK:ar}:lJ (H++[bx,bK]) (H++[.dead,.dead]):=by
 refine ⟨by simp,fun id o aq=>?_⟩;by_cases h:id<H.length
 ·rw [sg h] at aq ⊢;exact .inr aq
 ·rw [List.getElem?_append_right (by omega)] at aq;refine .inl ?_
  match ae:id-H.length with
  | 0=>rw [ae] at aq;exact (Option.some.inj aq).symm
  | 1=>rw [ae] at aq;exact (Option.some.inj aq).symm
  | n+2=>rw [ae] at aq;cases aq
theorem XQ {b:rQ} {order:List Int} {qp cy:Int} {v:List qn×Bool} (h:Ih b order qp [cy]=some v) {m lo:Nat} {H:List ar} (bD:lo≤m) (bG:HR b m H) :
  ∃ H',HR b m H'∧H6 m H H'∧Sem Try.prog (.fn 53) [rH b m,.av (order.map h0) order.length .shared,h0 qp,.av [h0 cy] 1 (.uniq 1)] H lo (.tuple [.av (v.1.flatMap qm) v.1.length .shared,B v.2]) H':=by
 unfold Ih at h;obtain ⟨left,ao,h⟩:=p9 h;obtain ⟨x,aj,h⟩:=p9 h;obtain ⟨A,aL,h⟩:=p9 h;have Nv:=bG;obtain ⟨es,IE,hm,I'⟩:=Nv;have er:=(sa.1 hm).1;have Qa:∀ Z,(H++Z)[m]?=some (.map es IE):=fun Z=>by rw [sg er];exact hm
 have ahz:([rH b m,.av (order.map h0) order.length .shared,h0 qp,.av [h0 cy] 1 .shared]:List I).map I.gw=[lq b,.av (order.map h0) order.length .shared,h0 qp,.av [h0 cy] 1 .shared]:=rfl;have start:∀ (Q:cQ→List I→List ar→Prop),dQ Try.prog Le 53 lo none LM (qa 129 [(0,rH b m),(1,.av (order.map h0) order.length .shared),(3,.av [h0 cy] 1 (.own 1)),(8,.av [] 0 (.uniq 3)),(9,.bool false),(10,.ptr H.length 0),(11,.bool (decide (b.1.2.1=b.1.2.2))),(36,.bool false)]) (H++[ar.cells [h0 left.1,h0 left.2]]) Q →
   dQ Try.prog Le 53 lo none NR (qa 129 [(0,rH b m),(1,.av (order.map h0) order.length .shared),(2,h0 qp),(3,.av [h0 cy] 1 (.uniq 1))]) H Q:=by
  intro Q a';unfold NR QZ;obtain ⟨ZA,J4⟩:∃ c,MG=c:=⟨_,rfl⟩;rw [J4];conv=>whnf
  refine ⟨_,_,call9 (bs:=[lq b,.av (order.map h0) order.length .shared,h0 qp,.av (([cy]:List Int).map h0) ([cy]:List Int).length .shared]) rfl (p5 (H4 b) (p5 (rA (fun _=>rfl) _ _ _) (p5 rfl (p5 rfl rfl)))) (OG ao),?_⟩;conv=>whnf
  rw [tn (show lo≤H.length by omega)];refine Ex (x:=ar.cells [h0 0,h0 0]) (by first | exact qC.h | rfl | (simp [sj,I.settle];done)) ?_
  conv=>whnf
  rw [HQ];subst J4;unfold MG;obtain ⟨B_,KA⟩:∃ c,LM=c:=⟨_,rfl⟩;obtain ⟨a7,cf⟩:∃ c,NS=c:=⟨_,rfl⟩;rw [KA,cf];conv=>whnf
  subst KA;exact a'
 have abr:∀ e∈es,∃ y:Int,e.2.1=h0 y:=fun e he=>by
  obtain ⟨y,_,_,_,ab,_⟩:=I' e he;exact ⟨y,ab⟩
 rcases Th (x:=x) (n:=0) abr with ⟨i,e,aJ,aN,cb⟩ | aJ
 ·obtain ⟨y,id,c,RY,aA,aG,aT,br,bg⟩:=I' e (sv aN);rw [cb] at aA;have abG:x=y:=by injection aA
  subst abG;rw [aL] at bg;obtain rfl:=Option.some.inj bg;rw [sB] at aJ;refine ⟨(H++[ar.cells [h0 left.1,h0 left.2]])++[.dead,.dead],(bG.more _).more _,⟨by simp,fun j _ aw=>by rw [sx,sg aw]⟩,?_⟩;refine ri eG Ql rfl (by rw [sx];exact ba.append _ _ _) fun Q bp=>?_;refine start Q ?_;unfold LM;obtain ⟨bt,eS⟩:∃ c,NT=c:=⟨_,rfl⟩;obtain ⟨nw,I_⟩:∃ c,MH=c:=⟨_,rfl⟩;rw [eS,I_];conv=>whnf
  refine ⟨⟨sU _,by decide⟩,?_⟩;conv=>whnf
  refine ⟨_,_,call9 (bs:=[lq b,h0 cy]) rfl (p5 (H4 b) (p5 rfl rfl)) (Kp aj),?_⟩;conv=>whnf
  refine ⟨rfl,_,_,Qa _,some i,aJ,e,aN,?_⟩;rw [aG];conv=>whnf
  subst I_;refine W3 (A:=A) (c:=c) h (by simp;omega) (IJ _ _) (by rw [sg (sa.1 br).1];exact br) fun T bx bK ai=>?_;exact bp _ _ _ ⟨.inr rfl,Tg,ai⟩
 ·obtain ⟨c,D,cp⟩:=agX aL;obtain ⟨H1,bW⟩:∃ H1,H1=H++[ar.cells [h0 left.1,h0 left.2]]:=⟨_,rfl⟩;have jV:H1.length=H.length+1:=by rw [bW];simp
  have nQ:H1[m]?=some (.map es IE):=by rw [bW];exact Qa _
  obtain ⟨H2,ch⟩:∃ H2,H2=(H1++[ar.map (q2 A) c]).set m (.map (es++[(IE,h0 x,.map H1.length)]) (IE+1)):=⟨_,rfl⟩;have eF:H2.length=H.length+2:=by rw [ch];simp [jV]
  have aO:∀ j,j≠m→H2[j]?=(H1++[ar.map (q2 A) c])[j]?:=fun j aw=>by rw [ch,sd (by omega)]
  have TT:H2[H1.length]?=some (.map (q2 A) c):=by rw [aO _ (by omega)];exact IJ _ _
  have abl:H2[m]?=some (.map (es++[(IE,h0 x,.map H1.length)]) (IE+1)):=by rw [ch];exact sk (by simp;omega)
  have aay:HR b m H2:=by
   refine ⟨_,_,abl,fun e he=>?_⟩;rcases th.1 he with he | he
   ·obtain ⟨y,id,dU,RY,aA,aG,aT,br,bg⟩:=I' e he;have aE:=(sa.1 br).1;refine ⟨y,id,dU,RY,aA,aG,aT,?_,bg⟩;rw [aO _ aT,bW,sx,sg aE];exact br
   ·obtain rfl:=sS.1 he;exact ⟨x,H1.length,c,A,rfl,rfl,by omega,TT,aL⟩
  refine ⟨H2++[.dead,.dead],aay.more _,⟨by simp [eF];omega,fun j aw mq=>?_⟩,?_⟩
  ·rw [sg (by omega),aO _ aw,bW,sx,sg mq]
  have JK:ba lo H (H2++[.dead,.dead]):=by
   refine ⟨by simp [eF];omega,fun j ab ae=>?_⟩;rw [sg (by omega),aO _ (by omega),bW,sx,sg (by omega)]
  refine ri eG Ql rfl JK fun Q bp=>?_;refine start Q ?_;rw [←bW];unfold LM;obtain ⟨bt,eS⟩:∃ c,NT=c:=⟨_,rfl⟩;obtain ⟨nw,I_⟩:∃ c,MH=c:=⟨_,rfl⟩;rw [eS,I_];conv=>whnf
  refine ⟨⟨sU _,by decide⟩,?_⟩;conv=>whnf
  refine ⟨_,_,call9 (bs:=[lq b,h0 cy]) rfl (p5 (H4 b) (p5 rfl rfl)) (Kp aj),?_⟩;conv=>whnf
  refine ⟨rfl,_,_,nQ,none,aJ,_,rfl,?_⟩;conv=>whnf
  subst eS;unfold NT;obtain ⟨a9,ca⟩:∃ c,Q0=c:=⟨_,rfl⟩;rw [ca];conv=>whnf
  refine ⟨⟨sU _,by decide⟩,?_⟩;conv=>whnf
  refine ⟨_,_,call9 (bs:=[lq b,h0 cy]) rfl (p5 (H4 b) (p5 rfl rfl)) (Kp aj),?_⟩;conv=>whnf
  have zi:∀ (j i:Nat) (k v:I),(q2 A)[j]?=some (i,k,v)→cr 8 k=true∧cr 8 v=true:=fun j i k v aw=>by
   obtain ⟨a,_,cu⟩:=sC.1 (sv aw);obtain ⟨_,ae⟩:=Prod.mk.inj cu;obtain ⟨rfl,rfl⟩:=Prod.mk.inj ae;exact ⟨HU (p5 rfl (p5 rfl rfl)),HU (p5 rfl (p5 rfl rfl))⟩
  refine ⟨_,_,ZG (args:=[rH b m,h0 x]) (es:=q2 A) (clock:=c) (D:=D) (p5 (H4 b) (p5 rfl rfl)) zi cp _ _,?_⟩;conv=>whnf
  subst ca;unfold Q0;conv=>whnf
  refine ⟨⟨sU _,by decide⟩,?_⟩;conv=>whnf
  refine ⟨_,_,call9 (bs:=[lq b,h0 cy]) rfl (p5 (H4 b) (p5 rfl rfl)) (Kp aj),?_⟩;conv=>whnf
  rw [tn bD];refine ⟨rfl,es,IE,by rw [sg (by omega)];exact nQ,none,aJ,?_⟩;conv=>whnf
  rw [←ch];subst I_;refine W3 (A:=A) (c:=c) (p10:=H.length) (id:=H1.length) h (by omega) (by rw [aO _ (by omega),sg (by omega),bW];exact IJ _ _) TT fun T bx bK ai=>?_;exact bp _ _ _ ⟨.inr rfl,Tg,ai⟩

end Go.Proofs.Ytkoioidpbbbaiaa.Ab


namespace Go.Proofs.Ytkoioidpbbbaiaa.Ab
open Go
set_option maxRecDepth 20000
set_option maxHeartbeats 4000000

end Go.Proofs.Ytkoioidpbbbaiaa.Ab


namespace Go.Proofs.Ytkoioidpbbbaiaa.Ab
open Go
set_option maxRecDepth 20000
set_option maxHeartbeats 4000000
end Go.Proofs.Ytkoioidpbbbaiaa.Ab


namespace Go.Proofs.Ytkoioidpbbbaiaa.Ab
open Go
set_option maxRecDepth 20000
set_option maxHeartbeats 1000000
def HA (p:p_) (o:List Int) (a:Nat):Prop:=q6 p o a p.2.1=0∧q6 p o a p.2.2=0
instance (p:p_) (o:List Int) (a:Nat):Decidable (HA p o a):=by unfold HA;exact inferInstance
def IZ (p:p_) (o:List Int) (a i:Nat) (s:qv):Prop :=
 qD p.1 o a [(i:Int)] (qR p.2.1)+qB o.length i*qR p.2.1 s=0∧qD p.1 o a [(i:Int)] (qR p.2.2)+qB o.length i*qR p.2.2 s=0
instance (p:p_) (o:List Int) (a i:Nat) (s:qv):Decidable (IZ p o a i s):=by unfold IZ;exact inferInstance
def I2 (t:Nat):qv:=(((t % 101:Nat):Int),((t / 101:Nat):Int)-10)
theorem WL {t:Nat} (h:t<2121):qK (I2 t):=by unfold qK I2;simp only;omega
theorem WK {s:qv} (h:qK s):∃ t,t<2121∧I2 t=s:=by
 obtain ⟨ab,ae,aF,a_⟩:=h;refine ⟨(s.2+10).toNat*101+s.1.toNat,by omega,?_⟩;unfold I2;exact Prod.ext (by simp only;omega) (by simp only;omega)
def I7 (p:p_) (o:List Int) (a i:Nat):Prop:=∃ t,t<2121∧IZ p o a i (I2 t)
instance (p:p_) (o:List Int) (a i:Nat):Decidable (I7 p o a i):=by unfold I7;exact inferInstance
theorem Nj {p:p_} {o:List Int} {a i:Nat}:I7 p o a i↔∃ s,qK s∧IZ p o a i s:=by
 constructor
 ·rintro ⟨t,ab,ae⟩;exact ⟨_,WL ab,ae⟩
 ·rintro ⟨s,ab,ae⟩;obtain ⟨t,aF,rfl⟩:=WK ab;exact ⟨t,aF,ae⟩
theorem W6 {L H U V:Int} (h:L=H):(U+V*L=0∧U+V*H=0)↔U+V*L=0:=by subst h;simp
theorem Og {L H U V:Int} (h:L≠H):(U+V*L=0∧U+V*H=0)↔U=0∧V=0:=by
 constructor
 ·rintro ⟨ab,ae⟩;have aF:V*(H-L)=0:=by grind
  rcases Int.mul_eq_zero.1 aF with a_ | a_
  ·subst a_;simp at ab;exact ⟨ab,rfl⟩
  ·omega
 ·rintro ⟨rfl,rfl⟩;simp
theorem aak {p:p_} {o:List Int} {a:Nat}:HA p o a↔qD p.1 o a [] Prod.fst+qD p.1 o a [] Prod.snd*p.2.1=0∧qD p.1 o a [] Prod.fst+qD p.1 o a [] Prod.snd*p.2.2=0:=by
 unfold HA q6;rw [←Mz,←Mz,Lv,Lv]
theorem Tj {p:p_} {o:List Int} {a i:Nat} {s:qv}:IZ p o a i s ↔
  (qD p.1 o a [(i:Int)] Prod.fst+qB o.length i*s.1)+(qD p.1 o a [(i:Int)] Prod.snd+qB o.length i*s.2)*p.2.1=0 ∧
  (qD p.1 o a [(i:Int)] Prod.fst+qB o.length i*s.1)+(qD p.1 o a [(i:Int)] Prod.snd+qB o.length i*s.2)*p.2.2=0:=by
 unfold IZ;rw [Lv,Lv];have e:∀ (U V x c d D:Int),U+V*D+x*(c+d*D)=(U+x*c)+(V+x*d)*D:=fun U V x c d D=>by grind
 unfold qR;rw [e,e]
section
variable {p:p_} {o:List Int}
theorem XO (h:q3 p) (k:qq p.1.length o) {a:Nat}:Ih (p,()) o (a:Int) []=some ([],decide (HA p o a)):=by
 have hle:=h.le;have bD:=h.lo;have GQ:=h.hi;unfold Ih;rw [OE (b:=(p,())) (W:=[]) h.s (rZ k) (qq.len h k) k.1.symm (by simp),sb];have a7:=PA (a:=a) (W:=[]) h.s (rZ k) (qq.len h k);have a9:=Rr (a:=a) (W:=[]) h.s (rZ k) (qq.len h k);have bt:=HT (b:=p.2.1) (B:=50) a9 (by omega);simp only;rw [qO (n:=qD p.1 o a [] Prod.snd*p.2.1) (by omega),qO (by omega)];congr 2;rw [uD];simp only [Bool.or_eq_true,sn,decide_eq_true_eq,Prod.mk.injEq];rw [aak];by_cases he:p.2.1=p.2.2
 ·rw [W6 he];constructor
  ·rintro (⟨ab,ae⟩ | ⟨_,ab⟩)
   ·rw [ab,ae];simp
   ·exact ab
  ·exact fun ab=>.inr ⟨he,ab⟩
 ·rw [Og he];constructor
  ·rintro (ab | ⟨ab,_⟩)
   ·exact ab
   ·exact absurd ab he
  ·exact .inl
theorem adp {s:qY×Nat} {k v:qS} {e:Nat×qS×qS} (h:e∈(HN s k v).1):(e.2.1=k∧e.2.2=v)∨e∈s.1:=by
 unfold HN at h;split at h
 ·obtain ⟨x,aj,rfl⟩:=sC.1 h;by_cases al:k=x.2.1
  ·rw [if_pos al];exact .inl ⟨rfl,rfl⟩
  ·rw [if_neg al];exact .inr aj
 ·rcases th.1 h with h | h
  ·exact .inr h
  ·obtain rfl:=sS.1 h;exact .inl ⟨rfl,rfl⟩
theorem adq (s:qY×Nat) (k v:qS):∃ e∈(HN s k v).1,e.2.1=k:=by
 unfold HN;split
 ·rename_i h;obtain ⟨x,aj,al⟩:=List.any_eq_true.1 h;exact ⟨_,tf aj,by rw [if_pos (of_decide_eq_true al)]⟩
 ·exact ⟨(s.2,k,v),by simp,rfl⟩
theorem adr {s:qY×Nat} {k v:qS} {e:Nat×qS×qS} (h:e∈s.1):∃ cV∈(HN s k v).1,cV.2.1=e.2.1:=by
 unfold HN;split
 ·refine ⟨_,tf h,?_⟩;by_cases al:k=e.2.1
  ·rw [if_pos al];exact al
  ·rw [if_neg al]
 ·exact ⟨e,by simp [h],rfl⟩
theorem WU (lo hi x:Int):∀ (t:Nat) (e:Nat×qS×qS),e∈(rY lo hi x t).1→∃ iE,iE<t∧e.2.2=I2 iE∧e.2.1=HS lo hi x (I2 iE).2 (I2 iE).1
 | 0,e,h=>by simp [rY] at h
 | t+1,e,h=>by
   unfold rY at h;rcases adp h with ⟨ab,ae⟩ | ab
   ·exact ⟨t,by omega,ae,ab⟩
   ·obtain ⟨iE,ae,aF⟩:=WU lo hi x t e ab;exact ⟨iE,by omega,aF⟩
theorem Rs (lo hi x:Int):∀ (t iE:Nat),iE<t→∃ e∈(rY lo hi x t).1,e.2.1=HS lo hi x (I2 iE).2 (I2 iE).1
 | 0,_,h=>absurd h (by omega)
 | t+1,iE,h=>by
   unfold rY;by_cases e:iE=t
   ·subst e;exact adq _ _ _
   ·obtain ⟨e1,ab,ae⟩:=Rs lo hi x t iE (by omega);obtain ⟨b',aF,a_⟩:=adr (k:=HS lo hi x ((t / 101:Nat)-10) ((t % 101:Nat))) (v:=((t % 101:Nat),(t / 101:Nat)-10)) ab;exact ⟨b',aF,a_.trans ae⟩
theorem acx {A:qY} {k:qS} (h:Jd A k=none):∀ e∈A,e.2.1≠k:=by
 unfold Jd at h;rw [Option.map_eq_none_iff,List.find?_eq_none] at h;intro e he al;exact h e he (decide_eq_true al.symm)
theorem acy {A:qY} {k v:qS} (h:Jd A k=some v):∃ e∈A,e.2.1=k∧e.2.2=v:=by
 unfold Jd at h;obtain ⟨e,ab,ae⟩:=Option.map_eq_some_iff.1 h;have aF:=List.find?_some ab;exact ⟨e,List.mem_of_find?_eq_some ab,(of_decide_eq_true aF).symm,ae⟩
theorem T8 {L H x:Int} {s:qv} (aj:-10≤x∧x≤10) (ah:qK s) (fq:0≤L∧L≤50):HS L H x s.2 s.1=if L=H then (x*qR L s,0) else (x*s.1,x*s.2):=by
 have af:=Kw ah fq;obtain ⟨ab,ae,aF,a_⟩:=ah;have bm:=HT (a:=s.2) (b:=L) (A:=10) (B:=50) (by omega) (by omega);have cw:=HT (a:=x) (b:=qR L s) (A:=10) (B:=600) aj (by omega);have e2:=HT (a:=x) (b:=s.1) (A:=10) (B:=100) aj (by omega);have lR:=HT (a:=x) (b:=s.2) (A:=10) (B:=10) aj (by omega);unfold HS;rw [qO (n:=s.2*L) (by omega),show s.1+s.2*L=qR L s from rfl,qO (n:=qR L s) (by omega),qO (n:=x*qR L s) (by omega),qO (n:=x*s.1) (by omega),qO (n:=x*s.2) (by omega)]
def HZ (lo:Int) (s:qv):Int:=max (max s.1 (qR lo s)) (-(qR lo s))
def HE:List Int→Int
 | []=>0
 | x::r=>x+HE r
theorem W0:∀ (a b:List Int),HE (a++b)=HE a+HE b
 | [],b=>by simp [HE]
 | x::a,b=>by simp only [List.cons_append,HE,W0 a b];omega
theorem afq {a b:List Int} (h:a.Perm b):HE a=HE b:=by
 induction h with
 | nil=>rfl
 | cons x _ a8=>simp only [HE,a8]
 | swap x y l=>simp only [HE];omega
 | trans _ _ ab ae=>exact ab.trans ae
theorem WZ {α:Type} [Inhabited α] (g:α→Int) (l:List α):∀ (k:Nat),k≤l.length→qQ k (fun i=>g (ix l (i:Int)))=HE ((l.take k).map g)
 | 0,_=>rfl
 | k+1,h=>by
   rw [vd (by omega),sP,W0,←WZ g l k (by omega)];simp only [qQ,sE,uB,HE];rw [rI (by omega)];omega
theorem Rv {α:Type} [Inhabited α] (g:α→Int) (l:List α):qQ l.length (fun i=>g (ix l (i:Int)))=HE (l.map g):=by
 rw [WZ g l _ (sc _),List.take_length]
theorem Qf {n i:Nat} (h:i<n):ix (qh n) (i:Int)=(i:Int):=by
 rw [rI (by simpa [qh] using h)];simp [qh]
theorem Kd (n:Nat):(qh n).length=n:=by simp [qh]
theorem WY {S:List qv} {o:List Int} (k:qq S.length o) (g:qv→Int):qQ o.length (fun i=>g (qt S o i))=HE (S.map g):=by
 have e1:=Rv (fun j=>g (ix S j)) o;have b':=Rv (fun j=>g (ix S j)) (qh S.length);have dB:=Rv g S;rw [afq ((Lw.1 k).map _),←b',Kd] at e1;rw [←dB];refine e1.trans (MS fun i hi=>?_);simp only [Qf hi]
theorem afp {n:Nat} {g f:Nat→Int} (e:∀ i,i<n → -(f i)≤g i∧g i≤f i):-(qQ n f)≤qQ n g∧qQ n g≤qQ n f:=by
 induction n with
 | zero=>simp [qQ]
 | succ n a8 =>
   have ab:=a8 fun i hi=>e i (by omega);have ae:=e n (by omega);simp only [qQ];omega
theorem Nt {lo:Int} {s:qv} (ah:qK s) (ao:0≤lo∧lo≤50):0≤HZ lo s∧HZ lo s≤600:=by
 have ab:=Kw ah ao;have ae:=ah.1;have aF:=ah.2.1;unfold HZ;omega
theorem US {far lo:Int} (aP:0≤far∧far≤10) (ao:0≤lo∧lo≤50):∀ (l:List qv) (n:Int),(∀ s∈l,qK s)→0≤n→n+6000*l.length≤1000000→I0 far lo l n=n+far*HE (l.map (HZ lo))
 | [],n,_,_,_=>by simp [I0,HE]
 | s::r,n,ah,aI,af=>by
   have al:=ah s (by simp);have de:=Kw al ao;have bm:=HT (a:=s.2) (b:=lo) (A:=10) (B:=50) ⟨al.2.2.1,al.2.2.2⟩ (by omega);have cw:=Nt al ao;have e2:=HT (a:=far) (b:=HZ lo s) (A:=10) (B:=600) (by omega) (by omega);have lR:=Int.mul_nonneg aP.1 cw.1;have ab:=al.1;have ae:=al.2.1;rw [List.length_cons] at af;unfold I0;rw [qO (n:=s.2*lo) (by omega),show s.1+s.2*lo=qR lo s from rfl,qO (n:=qR lo s) (by omega),qO (n := -(qR lo s)) (by omega),show max (max s.1 (qR lo s)) (-(qR lo s))=HZ lo s from rfl,qO (n:=far*HZ lo s) (by omega),qO (by omega)];rw [US aP ao r _ (fun s hl=>ah s (by simp [hl])) (by omega) (by omega),sE];simp only [HE];rw [Int.mul_add];omega
theorem Qq (h:q3 p) (k:qq p.1.length o) {a:Nat} {W:List Int} {f:qv→Int} (aP:∀ s,qK s → -(HZ p.2.1 s)≤f s∧f s≤HZ p.2.1 s) :
  -(qB o.length (o.length-1)*HE (p.1.map (HZ p.2.1)))≤qD p.1 o a W f∧qD p.1 o a W f≤qB o.length (o.length-1)*HE (p.1.map (HZ p.2.1)):=by
 have hle:=h.le;have bD:=h.lo;have GQ:=h.hi;have aI:=h.n;rw [←k.1] at aI;rw [←WY k (HZ p.2.1),←WX];refine afp fun i hi=>?_;have ah:=Io h.s (rZ k) hi;have aO:=Nt ah (lo:=p.2.1) (by omega);have a':-(qB o.length (o.length-1))≤qB o.length i∧qB o.length i≤qB o.length (o.length-1):=by unfold qB;omega
 split
 ·have ab:=aP _ ah;have ae:=HT a' ab;exact ae
 ·have:=Int.mul_nonneg (show 0≤qB o.length (o.length-1) by omega) aO.1;omega
theorem agW (h:q3 p) (k:qq p.1.length o) {a i:Nat} (hi:i<o.length):∃ A,L' (p,()) (qB o.length i)=some A∧(∀ e∈A,qK e.2.2∧e.2.1=HS p.2.1 p.2.2 (qB o.length i) e.2.2.2 e.2.2.1)∧∀ s,qK s→IZ p o a i s→∃ e∈A,e.2.1=HS p.2.1 p.2.2 (qB o.length i) s.2 s.1:=by
 have hle:=h.le;have bD:=h.lo;have GQ:=h.hi;have aI:=h.n;have JJ:=h.len;have ahx:=k.1;have fL:=qq.len h k;unfold L';simp only;rw [qE (by omega),show ((p.1.length:Int)-1)=((o.length-1:Nat):Int) by omega,qO (n:=((o.length-1:Nat):Int)) (by omega),OD (b:=(p,())) fL k.1.symm (by omega),sb];have P9:0≤qB o.length (o.length-1)∧qB o.length (o.length-1)≤10:=by unfold qB;omega
 have TX:=US P9 (lo:=p.2.1) (by omega) p.1 0 h.s (by omega) (by omega);rw [Int.zero_add] at TX;rw [TX];obtain ⟨M,CB⟩:∃ M,M=qB o.length (o.length-1)*HE (p.1.map (HZ p.2.1)):=⟨_,rfl⟩;have ahq:0≤M∧M≤1000000:=by
  have ab:=Qq h k (a:=0) (W:=[]) (f:=fun _=>0) fun s ah=>by have:=Nt ah (lo:=p.2.1) (by omega);omega
  have ae:=MR (n:=o.length) (g:=fun i=>HZ p.2.1 (qt p.1 o i)) (B:=600) fun i hi=>by have:=Nt (Io h.s (rZ k) hi) (lo:=p.2.1) (by omega);omega
  rw [WY k (HZ p.2.1)] at ae;have aF:=HT (a:=qB o.length (o.length-1)) (A:=10) (by omega) ae;rw [←CB] at ab aF;omega
 rw [←CB,qO (n := -M) (by omega)];have hk:=Ly hi fL;obtain ⟨x,aj⟩:∃ x,x=qB o.length i:=⟨_,rfl⟩;rw [←aj] at hk ⊢;refine ⟨_,rfl,fun e he=>?_,fun s ah TS=>?_⟩
 ·obtain ⟨iE,ab,ae,aF⟩:=WU _ _ _ _ _ (tc.1 he).1;have a_:iE<2121:=by
   by_cases aQ:x=0
   ·rw [if_pos aQ] at ab;omega
   ·rw [if_neg aQ] at ab;exact ab
  rw [ae];exact ⟨WL a_,aF⟩
 ·have hP:∃ e∈(rY p.2.1 p.2.2 x (if x=0 then 1 else 2121)).1,e.2.1=HS p.2.1 p.2.2 x s.2 s.1:=by
   by_cases aQ:x=0
   ·rw [if_pos aQ];obtain ⟨e,ab,ae⟩:=Rs p.2.1 p.2.2 x 1 0 (by omega);refine ⟨e,ab,ae.trans ?_⟩;subst aQ;unfold HS;simp only [Int.zero_mul]
   ·rw [if_neg aQ];obtain ⟨t,ab,ae⟩:=WK ah;rw [←ae];exact Rs _ _ _ _ _ ab
  obtain ⟨e,ab,ae⟩:=hP;refine ⟨e,tc.2 ⟨ab,?_⟩,ae⟩;rw [ae,T8 hk ah (by omega)];have CZ:=Tj.1 TS;rw [←aj] at CZ;by_cases he:p.2.1=p.2.2
  ·rw [if_pos he];(have bP:=Qq h k (a:=a) (W:=[(i:Int)]) (f:=qR p.2.1) fun s ah=>by unfold HZ;omega);have bQ:=TS.1;rw [←aj] at bQ;rw [←CB] at bP;simp only [sn,decide_eq_true_eq];omega
  ·rw [if_neg he];rw [Og he] at CZ;(have bP:=Qq h k (a:=a) (W:=[(i:Int)]) (f:=Prod.fst) fun s ah=>by have:=ah.1;unfold HZ;omega);rw [←CB] at bP;have bQ:=CZ.1;simp only [sn,decide_eq_true_eq];omega
theorem T9 (h:q3 p) (k:qq p.1.length o) {a i:Nat} (hi:i<o.length) {s:qv} (ah:qK s) :
  HS p.2.1 p.2.2 (qB o.length i) s.2 s.1=(if p.2.1=p.2.2 then (w (w (-(qD p.1 o a [(i:Int)] Prod.fst))-w (qD p.1 o a [(i:Int)] Prod.snd*p.2.1)),0) else (w (-(qD p.1 o a [(i:Int)] Prod.fst)),w (-(qD p.1 o a [(i:Int)] Prod.snd))))↔IZ p o a i s:=by
 have hle:=h.le;have bD:=h.lo;have GQ:=h.hi;have a7:=PA (a:=a) (W:=[(i:Int)]) h.s (rZ k) (qq.len h k);have a9:=Rr (a:=a) (W:=[(i:Int)]) h.s (rZ k) (qq.len h k);have bt:=HT (b:=p.2.1) (B:=50) a9 (by omega);rw [T8 (Ly hi (qq.len h k)) ah (by omega),Tj];rw [qO (n := -(qD p.1 o a [(i:Int)] Prod.fst)) (by omega),qO (n:=qD p.1 o a [(i:Int)] Prod.snd*p.2.1) (by omega),qO (n := -(qD p.1 o a [(i:Int)] Prod.snd)) (by omega),qO (by omega)];generalize qD p.1 o a [(i:Int)] Prod.fst=U;generalize qD p.1 o a [(i:Int)] Prod.snd=V;generalize qB o.length i=x;by_cases he:p.2.1=p.2.2
 ·rw [if_pos he,if_pos he,W6 he,Prod.mk.injEq];have e:U+x*s.1+(V+x*s.2)*p.2.1=U+V*p.2.1+x*qR p.2.1 s:=by unfold qR;grind
  rw [e];constructor
  ·rintro ⟨ab,_⟩;omega
  ·intro ab;exact ⟨by omega,rfl⟩
 ·rw [if_neg he,if_neg he,Og he,Prod.mk.injEq];constructor
  ·rintro ⟨ab,ae⟩;omega
  ·rintro ⟨ab,ae⟩;exact ⟨by omega,by omega⟩
theorem XN (h:q3 p) (k:qq p.1.length o) {a i:Nat} (hi:i<o.length) :
  (∃ s,Ih (p,()) o (a:Int) [(i:Int)]=some ([(ix o (i:Int),s)],true)∧qK s∧IZ p o a i s)∨(Ih (p,()) o (a:Int) [(i:Int)]=some ([],false)∧¬ I7 p o a i):=by
 unfold Ih;rw [OE (b:=(p,())) (W:=[(i:Int)]) h.s (rZ k) (qq.len h k) k.1.symm (by simp),sb];obtain ⟨A,aL,ab,ae⟩:=agW h k (a:=a) hi;simp only;rw [OD (b:=(p,())) (qq.len h k) k.1.symm hi,sb,aL,sb];cases al:Jd A (if p.2.1=p.2.2 then (w (w (-(qD p.1 o a [(i:Int)] Prod.fst))-w (qD p.1 o a [(i:Int)] Prod.snd*p.2.1)),0) else (w (-(qD p.1 o a [(i:Int)] Prod.fst)),w (-(qD p.1 o a [(i:Int)] Prod.snd)))) with
 | none =>
   refine .inr ⟨rfl,fun ak=>?_⟩;obtain ⟨s,ah,aP⟩:=Nj.1 ak;obtain ⟨e,he,abq⟩:=ae s ah aP;exact acx al e he (abq.trans ((T9 h k hi ah).2 aP))
 | some s =>
   obtain ⟨e,he,Db,rfl⟩:=acy al;obtain ⟨ah,pP⟩:=ab e he;refine .inl ⟨e.2.2,?_,ah,(T9 h k hi ah).1 (pP.symm.trans Db)⟩;simp only;rw [qE (by omega)]
end
end Go.Proofs.Ytkoioidpbbbaiaa.Ab


namespace Go.Proofs.Ytkoioidpbbbaiaa.Ab
open Go
set_option maxRecDepth 20000
set_option maxHeartbeats 4000000

end Go.Proofs.Ytkoioidpbbbaiaa.Ab


namespace Go.Proofs.Ytkoioidpbbbaiaa.Ab
open Go
set_option maxRecDepth 20000
set_option maxHeartbeats 1000000
section
variable {p:p_} {o:List Int}
theorem qq.Ur (h:q3 p) (k:qq p.1.length o):o.length≤7:=by have:=h.len;have:=k.1;omega
def Ho (p:p_) (o:List Int) (a:Nat):Nat:=if HA p o a then 0 else if ∃ i,i<o.length∧i % 2=a∧I7 p o a i then 1 else 2
theorem Tf (p:p_) (o:List Int) (a:Nat):Ho p o a≤2:=by unfold Ho;split <;> (try split) <;> omega
end
end Go.Proofs.Ytkoioidpbbbaiaa.Ab


namespace Go.Proofs.Ytkoioidpbbbaiaa.Ab
open Go
set_option maxRecDepth 20000
set_option maxHeartbeats 4000000
noncomputable def OK:gE :=
 .loop (some (p8 false [1,3,4,1,58])) (.seq (p2 [p3 17 8,p3 18 2,qU 19 18,qo 20 17 19 .lss] (.cond (.nd 20) .skip (.exit 0))) (.seq (.block 1 (p2 [p3 23 2,p3 24 8,q5 25 23 24 3,p0 26 [.Bu 25] (.zG (.str 3)),p0 9 [] (.alloc [.int .i64 0,.int .i64 0,.int .i64 0]),⟨none,[.nd 9,.jq 26],none,none,.st 3⟩] (.seq (q_ [p0 27 [.nd 9] (.yO 0),qf 28 27,qw 29 28 0 .lss,p1 30 29,cl 31 [.nd 9] 30 false (.yO 0),cl 32 [.Bu 31] 30 false (.zG .one),cl 33 [.nd 3] 30 false (.yO 0),cl 34 [.Bu 33] 30 false (.zG .one),cl 35 [.jq 34] 30 false .zL,cl 36 [.Bu 32,.Bu 35] 30 false (.bin .geq),p0 37 [.nd 30,.cv (.bool true),.Bu 36] .pick,p1 38 37,cl 39 [.nd 8] 38 false .mV,cl 40 [.Bu 39,.cv (.int .i64 0)] 38 false (.bin .gtr),cl 41 [.jq 40] 38 false .mV,cl 42 [.nd 9] 41 true (.yO 0),cl 43 [.Bu 42] 41 true (.zG .one),cl 44 [.nd 2] 41 true .mV,cl 45 [.nd 8] 41 true .mV,cl 46 [.Bu 45,.cv (.int .i64 1)] 41 true (.bin .sub),cl 47 [.Bu 44,.Bu 46] 41 true (.kZ 3),cl 48 [.Bu 47] 41 true (.yO 0),cl 49 [.Bu 48] 41 true (.zG .one),cl 50 [.Bu 43,.Bu 49] 41 true (.bin .leq),cl 51 [.nd 41,.Bu 50,.cv (.bool false)] 38 false .pick,p0 52 [.nd 38,.cv (.bool true),.Bu 51] .pick,p1 53 52,cl 54 [.nd 9] 53 false (.yO 1),cl 55 [.Bu 54] 53 false (.zG (.str 2)),⟨some 56,[.cv (.func 45 [] []),.nd 55],some (53,false),none,.call 3⟩,cl 57 [.Bu 56] 53 false (.un .not),p0 58 [.nd 53,.cv (.bool true),.Bu 57] .pick]) (.cond (.nd 58) (p2 [qc 6 0,qc 7 3] .ret) .skip)))) (qG [p1 21 8,qT 22 21 1,p1 8 22])))
noncomputable def X4:gE :=
 p2 [p0 3 [.jq 0] .box,qc 6 0,qc 7 0] (.seq (p2 [p0 10 [.nd 3] (.zG (.str 3)),p3 11 1,p0 12 [.cv (.func 39 [] []),.nd 10,.nd 11] (.call 3),qw 13 12 0 .neq] (.cond (.nd 13) (p2 [p0 14 [.Bu 3] (.zG (.str 3)),p1 15 1,p0 16 [.cv (.func 39 [] []),.nd 14,.nd 15] (.call 3),qc 6 0,p1 7 16] .ret) .skip)) (.seq (p2 [qc 8 0] (.block 0 OK)) (.seq (p2 [p0 59 [.Bu 3] (.zG (.str 3)),p3 60 2,p0 61 [.cv (.func 52 [] []),.nd 59,.nd 60] (.call 3),p1 62 1,p0 63 [.cv (.func 42 [] []),.nd 61,.nd 62] (.call 3),qw 64 63 0 .gtr] (.cond (.nd 64) (p2 [qc 6 0,qc 7 23] .ret) .skip)) (p2 [p1 65 2,qU 66 65,p1 6 66,qc 7 0] .ret))))
theorem acH:ql Try.prog O8 24=some (X4,67,[.tmp 6,.tmp 7]):=by kernel_rfl
def JT (p:(qj×(Int×Int))) (changes:(List (Int×(Int×Int)))) (qd:Unit→Option (Int×Int)):Nat→Int→Option (Int×Int)
 | 0,_=>none
 | m+1,s1 =>
   if (decide (s1<(changes.length:Int)))=true then
    qy (0≤s1∧s1<(changes.length:Int)) <|
    if (decide ((ix changes s1).1<(0:Int)))=true then
     some ((0:Int),(3:Int))
    else
     if (decide ((p.1.length:Int)≤(ix changes s1).1))=true then
      some ((0:Int),(3:Int))
     else
      if (decide ((0:Int)<s1))=true then
       qy (0≤(w (s1-(1:Int)))∧(w (s1-(1:Int)))<(changes.length:Int)) <|
       if (decide ((ix changes s1).1≤(ix changes (w (s1-(1:Int)))).1))=true then
        some ((0:Int),(3:Int))
       else
        (K5 ((ix changes s1).2)).bind fun eK =>
        if eK=true then
         JT p changes qd m (w (s1+(1:Int)))
        else
         some ((0:Int),(3:Int))
      else
       (K5 ((ix changes s1).2)).bind fun Jx =>
       if Jx=true then
        JT p changes qd m (w (s1+(1:Int)))
       else
        some ((0:Int),(3:Int))
   else
    qd ()
def L3 (p:(qj×(Int×Int))) (order:qb) (changes:(List (Int×(Int×Int)))):Option (Int×Int) :=
 (L9 p order).bind fun aS =>
 if (decide (aS≠(0:Int)))=true then
  (L9 p order).bind fun bj =>
  some ((0:Int),bj)
 else
  JT p changes (fun _ =>
    (M3 p changes).bind fun JP =>
    (L6 JP order).bind fun KK =>
    if (decide ((0:Int)<KK))=true then
     some ((0:Int),(23:Int))
    else
     some ((changes.length:Int),(0:Int))) qk (0:Int)
theorem agd {p:(qj×(Int×Int))} {changes:(List (Int×(Int×Int)))} {qd:Unit→Option (Int×Int)} {s1:Int} {order:qb} {v:(Int×Int)} {Q:HL}   (jK:qJ [.tmp 6,.tmp 7] Q (fun v=>(.tuple [(h0 v.1),(h0 v.2)])) v) (rn:∀ (J0:List ar) (qe:List I),qd ()=some v→rm 67 [(1,(qM order .shared)),(2,(.av (changes.flatMap qm) changes.length .shared)),(3,(.ptr 0 0))] qe→Q (.exit 0) qe (ar.cells [(q' p.1 .shared),(h0 p.2.1),(h0 p.2.2)]::J0)) {T:List I} (b0:eZ (p8 false [1,3,4,1,58]) T=qa 67 [(1,(qM order .shared)),(2,(.av (changes.flatMap qm) changes.length .shared)),(3,(.ptr 0 0)),(8,(h0 s1))]) (h:JT p changes qd qk s1=some v) :
  dQ Try.prog O8 24 0 none OK T [ar.cells [(q' p.1 .shared),(h0 p.2.1),(h0 p.2.2)]] Q:=by
 unfold OK;refine wp_loop b0 ?_;refine .intro (fun m T H=>∃ (s1:Int) (R5:List ar),T=qa 67 [(1,(qM order .shared)),(2,(.av (changes.flatMap qm) changes.length .shared)),(3,(.ptr 0 0)),(8,(h0 s1))]∧H=(ar.cells [(q' p.1 .shared),(h0 p.2.1),(h0 p.2.2)]::R5)∧JT p changes qd m s1=some v) qk ⟨s1,[],rfl,rfl,h⟩ ?_;clear h b0;rintro m T H ⟨s1,R5,rfl,rfl,h⟩;cases m
 ·exact rT h
 rename_i m;rw [JT.eq_2] at h;conv=>whnf
 refine bs h (fun qP h=>?_) fun qP h=>?_
 ·rw [qP];conv=>whnf
  refine qV h id fun rj h=>?_;rw [Ib qm 3 HV changes s1 rj];conv=>whnf
  refine Ex (x:=ar.cells [(h0 (0:Int)),(h0 (0:Int)),(h0 (0:Int))]) (by first | exact qC.h | rfl | (simp [sj,I.settle];done)) ?_
  conv=>whnf
  rw [HQ];refine Ex (x:=ar.cells [(h0 (ix changes s1).1),(h0 (ix changes s1).2.1),(h0 (ix changes s1).2.2)]) (by first | exact qC.h | rfl | (simp [sj,I.settle];done)) ?_
  conv=>whnf
  refine bs h (fun rU h=>?_) fun rU h=>?_
  ·rw [rU];(conv=>whnf);exact qg h jK rfl rfl
  ·rw [rU];(conv=>whnf);refine Ex (x:=ar.cells [(h0 (ix changes s1).1),(h0 (ix changes s1).2.1),(h0 (ix changes s1).2.2)]) (by first | exact qC.h | rfl | (simp [sj,I.settle];done)) ?_
   (conv=>whnf);refine bs h (fun qX h=>?_) fun qX h=>?_
   ·rw [qX];(conv=>whnf);exact qg h jK rfl rfl
   ·rw [qX];(conv=>whnf);refine bs h (fun Hr h=>?_) fun Hr h=>?_
    ·rw [Hr];(conv=>whnf);refine Ex (x:=ar.cells [(h0 (ix changes s1).1),(h0 (ix changes s1).2.1),(h0 (ix changes s1).2.2)]) (by first | exact qC.h | rfl | (simp [sj,I.settle];done)) ?_
     (conv=>whnf);refine qV h id fun rN h=>?_;rw [Ib qm 3 HV changes (w (s1-(1:Int))) rN];(conv=>whnf);refine bs h (fun Hq h=>?_) fun Hq h=>?_
     ·rw [Hq];(conv=>whnf);exact qg h jK rfl rfl
     ·rw [Hq];(conv=>whnf);refine Ex (x:=ar.cells [(h0 (ix changes s1).1),(h0 (ix changes s1).2.1),(h0 (ix changes s1).2.2)]) (by first | exact qC.h | rfl | (simp [sj,I.settle];done)) ?_
      (conv=>whnf);obtain ⟨eK,J8,h⟩:=p9 h;refine ⟨qi.pl,_,RJ J8,Hi,?_⟩;(conv=>whnf);cases eK
      ·(conv=>whnf);replace h:=HC rfl h;exact qg h jK rfl rfl
      ·(conv=>whnf);replace h:=HD rfl h;exact ⟨m,sG m,(w (s1+(1:Int))),_,rfl,rfl,h⟩
    ·rw [Hr];(conv=>whnf);refine Ex (x:=ar.cells [(h0 (ix changes s1).1),(h0 (ix changes s1).2.1),(h0 (ix changes s1).2.2)]) (by first | exact qC.h | rfl | (simp [sj,I.settle];done)) ?_
     (conv=>whnf);obtain ⟨Jx,KD,h⟩:=p9 h;refine ⟨qi.pl,_,RJ KD,Hi,?_⟩;(conv=>whnf);cases Jx
     ·(conv=>whnf);replace h:=HC rfl h;exact qg h jK rfl rfl
     ·(conv=>whnf);replace h:=HD rfl h;exact ⟨m,sG m,(w (s1+(1:Int))),_,rfl,rfl,h⟩
 ·rw [qP];conv=>whnf
  exact rn _ _ h ⟨rfl,rfl⟩
theorem age {p:(qj×(Int×Int))} {order:qb} {changes:(List (Int×(Int×Int)))} {v:(Int×Int)} (h:L3 p order changes=some v):qu 24 [(.agg [(.av (p.1.flatMap p7) p.1.length .shared),(h0 p.2.1),(h0 p.2.2)]),(.av (order.map h0) order.length .shared),(.av (changes.flatMap qm) changes.length .shared)] (.tuple [(h0 v.1),(h0 v.2)]):=by
 refine qH eG acH rfl (Jf (p5 rfl (p5 rfl rfl))) fun Q bp=>?_;have jK:qJ [.tmp 6,.tmp 7] Q (fun v=>(.tuple [(h0 v.1),(h0 v.2)])) v:=fun T H bE=>bp _ T H bE;unfold L3 at h;unfold X4;obtain ⟨HY,qF⟩:∃ c,OK=c:=⟨_,rfl⟩;rw [qF];conv=>whnf
 obtain ⟨aS,gM,h⟩:=p9 h;refine ⟨qi.pl,_,XI gM,?_⟩;conv=>whnf
 refine bs h (fun gN h=>?_) fun gN h=>?_
 ·rw [gN];conv=>whnf
  obtain ⟨bj,qs,h⟩:=p9 h;refine ⟨qi.pl,_,XI qs,?_⟩;conv=>whnf
  exact qg h jK rfl rfl
 ·rw [gN];conv=>whnf
  subst qF;refine agd ?_ ?_ (by exact rfl) h
  ·exact fun T H bE=>jK T H bE
  ·intro J0 qe h qA;obtain ⟨rG,rfl⟩:=qA.ex;(conv=>whnf);obtain ⟨JP,Lm,h⟩:=p9 h;refine ⟨qi.pl,_,agL Lm,?_⟩;(conv=>whnf);obtain ⟨KK,PH,h⟩:=p9 h;refine ⟨qi.pl,_,agw PH,?_⟩;(conv=>whnf);refine bs h (fun Mt h=>?_) fun Mt h=>?_
   ·rw [Mt];(conv=>whnf);exact qg h jK rfl rfl
   ·rw [Mt];(conv=>whnf);exact qg h jK rfl rfl
end Go.Proofs.Ytkoioidpbbbaiaa.Ab


namespace Go.Proofs.Ytkoioidpbbbaiaa.Ab
open Go
set_option maxRecDepth 20000
set_option maxHeartbeats 1000000
def rO:List qn→List qv→List qv
 | [],S=>S
 | c::r,S=>rO r (S.set c.1.toNat c.2)
theorem MP:∀ (l:List qn) (S:List qv),(rO l S).length=S.length
 | [],_=>rfl
 | c::r,S=>by rw [rO,MP r];simp
def Hu (n:Int):List qn→Int→Prop
 | [],_=>True
 | c::r,m=>m≤c.1∧c.1<n∧qK c.2∧Hu n r (c.1+1)
instance ads (n:Int):∀ (l:List qn) (m:Int),Decidable (Hu n l m)
 | [],_=>isTrue trivial
 | c::r,m=>by unfold Hu;exact @instDecidableAnd _ _ _ (@instDecidableAnd _ _ _ (@instDecidableAnd _ _ _ (ads n r (c.1+1))))
theorem Ro {n:Int}:∀ {l:List qn} {S:List qv} {m:Int},Hu n l m→(∀ s∈S,qK s)→∀ s∈rO l S,qK s
 | [],_,_,_,h=>h
 | c::r,S,m,ao,h=>by
   refine Ro (l:=r) ao.2.2.2 fun s ah=>?_;rcases List.mem_or_eq_of_mem_set ah with ab | ab
   ·exact h s ab
   ·rw [ab];exact ao.2.2.1
theorem S8 {n:Nat} (aI:n≤1000):∀ (l:List qn) (S:List qv) (m:Int),S.length=n→0≤m→m≤1000→Lh n l S m=some (if Hu n l m then some (rO l S) else none)
 | [],S,m,_,_,_=>rfl
 | c::r,S,m,cp,hm,nQ=>by
   unfold Lh;rw [qO (n:=(n:Int)-1) (by omega),L8,sb];by_cases ab:m≤c.1∧c.1<(n:Int)
   ·rw [if_pos (by simp;omega),XG,sb];by_cases ae:qK c.2
    ·rw [if_neg (by simpa using ae),qE (by omega),qO (by omega),S8 aI r _ _ (by simp [cp]) (by omega) (by omega)];by_cases aF:Hu n r (c.1+1)
     ·rw [if_pos aF,if_pos ⟨ab.1,ab.2,ae,aF⟩];rfl
     ·rw [if_neg aF,if_neg fun k=>aF k.2.2.2]
    ·rw [if_pos (by simpa using ae),if_neg fun k=>ae k.2.2.1]
   ·rw [if_neg (by simp;omega),if_neg fun k=>ab ⟨k.1,k.2.1⟩]
theorem S7 {n:Nat}:∀ (l:List qn) (S:List qv) (m:Int),S.length=n→0≤m→Hu n l m→Ky l S=some (rO l S)
 | [],_,_,_,_,_=>rfl
 | c::r,S,m,cp,hm,ao=>by
   unfold Ky;have ab:=ao.1;have ae:=ao.2.1;rw [qE (by omega)];exact S7 r _ (c.1+1) (by simp [cp]) (by omega) ao.2.2.2
section
variable {p:p_} {o:List Int} {l:List qn}
theorem RA (aB:p.1.length≤1000) (ao:o.length≤12) (ak:l.length≤1000):Jy p o l=some (if rK p o=0 then (if Hu p.1.length l 0 then (if 0<qZ (rO l p.1,p.2) o then (0,23) else ((l.length:Int),0)) else (0,3)) else (0,rK p o)):=by
 unfold Jy;rw [OA aB ao,sb];by_cases h:rK p o=0
 ·rw [if_pos h,if_pos h];obtain ⟨ad,al⟩:=KJ.1 h;have JJ:=ad.len;simp only;rw [if_neg (by decide),qE ⟨fun e=>by rw [e] at JJ;simp at JJ,aB,ak⟩,S8 aB l p.1 0 rfl (by omega) (by omega),sb];by_cases ab:Hu p.1.length l 0
  ·rw [if_pos ab,if_pos ab];simp only;have dg:q3 (rO l p.1,p.2):=⟨by rw [MP];exact ad.n,Ro ab ad.s,ad.lo,ad.le,ad.hi⟩;rw [MZ dg (by rw [MP];exact al),sb];by_cases ae:0<qZ (rO l p.1,p.2) o
   ·rw [if_pos (decide_eq_true ae),if_pos ae]
   ·rw [if_neg (by simpa using ae),if_neg ae]
  ·rw [if_neg ab,if_neg ab]
 ·rw [if_neg h,if_neg h];simp only;rw [if_pos (decide_eq_true h)]
theorem Ub (aB:p.1.length≤1000) (ak:l.length≤1000) {K:Option (Int×Int)}:∀ (m i:Nat),i≤l.length→l.length-i<m→∀ (t:Int),(i=0→t=0)→(0<i→t=(ix l ((i-1:Nat):Int)).1+1∧0<t∧t≤1000) →
  JT p l (fun _=>K) m (i:Int)=if Hu p.1.length (l.drop i) t then K else some (0,3)
 | 0,_,_,h,_,_,_=>absurd h (by omega)
 | m+1,i,hi,hm,t,aQ,ab=>by
   rw [JT];by_cases aR:i<l.length
   ·rw [if_pos (decide_eq_true (by omega)),qE (by omega),s7 aR,←rI aR,Iz i (by omega)];have a8:=Ub aB ak (K:=K) m (i+1) (by omega) (by omega) ((ix l (i:Int)).1+1) (fun e=>by omega);by_cases cu:(ix l (i:Int)).1<0
    ·rw [if_pos (decide_eq_true cu),if_neg];intro k;have:=k.1;by_cases e:i=0
     ·have:=aQ e;omega
     ·have:=ab (by omega);omega
    ·rw [if_neg (by simpa using by omega)];by_cases af:(p.1.length:Int)≤(ix l (i:Int)).1
     ·rw [if_pos (decide_eq_true af),if_neg fun k=>by have:=k.2.1;omega]
     ·rw [if_neg (by simpa using by omega),XJ];have fin:t≤(ix l (i:Int)).1→((some (decide (qK (ix l (i:Int)).2))).bind fun r=>if r=true then JT p l (fun _=>K) m ((i+1:Nat):Int) else some (0,3))=if Hu p.1.length (ix l (i:Int)::l.drop (i+1)) t then K else some (0,3):=fun ax=>by
       rw [sb];by_cases ah:qK (ix l (i:Int)).2
       ·rw [if_pos (decide_eq_true ah),a8 fun _=>⟨by simp,by omega,by omega⟩];by_cases ai:Hu p.1.length (l.drop (i+1)) ((ix l (i:Int)).1+1)
        ·rw [if_pos ai,if_pos ⟨ax,by omega,ah,ai⟩]
        ·rw [if_neg ai,if_neg fun k=>ai k.2.2.2]
       ·rw [if_neg (by simpa using ah),if_neg fun k=>ah k.2.2.1]
      by_cases e:0<i
      ·obtain ⟨t1,t2,t3⟩:=ab e;rw [if_pos (decide_eq_true (by omega)),qO (by omega),show (i:Int)-1=((i-1:Nat):Int) by omega,qE (by omega)];by_cases a1:(ix l (i:Int)).1≤(ix l ((i-1:Nat):Int)).1
       ·rw [if_pos (decide_eq_true a1),if_neg fun k=>by have:=k.1;omega]
       ·rw [if_neg (by rw [decide_eq_true_eq];exact a1)];exact fin (by omega)
      ·rw [if_neg (by simpa using by omega)];exact fin (by have:=aQ (by omega);omega)
   ·rw [if_neg (by simpa using by omega),ve (by omega),if_pos (show Hu _ [] t from trivial)]
theorem agc (aB:p.1.length≤1000) (ao:o.length≤12) (ak:l.length≤1000):L3 p o l=some (if rK p o=0 then (if Hu p.1.length l 0 then (if 0<qZ (rO l p.1,p.2) o then (0,23) else ((l.length:Int),0)) else (0,3)) else (0,rK p o)):=by
 unfold L3;rw [agJ aB (by omega),sb,sb];by_cases h:rK p o=0
 ·rw [if_neg (show ¬ decide (rK p o≠0)=true by simpa using h),if_pos h];obtain ⟨ad,al⟩:=KJ.1 h;have JJ:=ad.len;have:=Ub aB ak (K:=(M3 p l).bind fun JP=>(L6 JP o).bind fun KK=>if (decide ((0:Int)<KK))=true then some ((0:Int),(23:Int)) else some ((l.length:Int),(0:Int))) qk 0 (by omega) (IH (by omega)) 0 (fun _=>rfl) (fun h=>absurd h (by omega));rw [tq] at this;refine this.trans ?_;by_cases ab:Hu p.1.length l 0
  ·rw [if_pos ab,if_pos ab];unfold M3;rw [qE ⟨fun e=>by rw [e] at JJ;simp at JJ,aB,ak⟩,S7 l p.1 0 rfl (by omega) ab,sb,sb];have dg:q3 (rO l p.1,p.2):=⟨by rw [MP];exact ad.n,Ro ab ad.s,ad.lo,ad.le,ad.hi⟩;rw [agu dg (by rw [MP];exact al),sb];by_cases ae:0<qZ (rO l p.1,p.2) o
   ·rw [if_pos (decide_eq_true ae),if_pos ae]
   ·rw [if_neg (by simpa using ae),if_neg ae]
  ·rw [if_neg ab,if_neg ab]
 ·rw [if_pos (decide_eq_true h),if_neg h]
end
end Go.Proofs.Ytkoioidpbbbaiaa.Ab


namespace Go.Proofs.Ytkoioidpbbbaiaa.Ab
open Go
noncomputable def aeo:gE :=
 .ow false [p1 48 9,p1 49 10,p0 50 [.Bu 49] (.yD 1 1 [.int .i64 0] [0]),p0 51 [.jq 48,.jq 50] (.app 1 8),p1 9 51]
noncomputable def QT:gE :=
 p2 [p3 44 0,p3 45 10,p0 46 [.cv (.func 68 [] []),.jq 44,.jq 45] (.call 9),qw 47 46 0 .gtr] (.cond (.nd 47) aeo .skip)
noncomputable def QU:gE :=
 .seq (p2 [p3 34 0,p3 35 1,p3 36 2,p3 37 10,p0 38 [.Bu 37] (.yD 1 1 [.int .i64 0] [0]),p0 39 [.cv (.func 53 [] []),.jq 34,.jq 35,.jq 36,.jq 38] (.call 1),p1 33 39,qL 40 33 0,p0 41 [.Bu 33] (.ext 1),p1 11 40,p1 12 41] (p2 [p1 42 12] (.cond (.nd 42) (p2 [p1 43 11,p1 6 43] .ret) .skip))) QT
noncomputable def V7:gE :=
 .seq (p2 [p3 29 10,qw 30 29 2 .rem,p3 31 2,qo 32 30 31 .neq] (.cond (.nd 32) (.exit 1) .skip)) QU
noncomputable def V8:gE :=
 .block 1 (p2 [p3 28 26,p1 10 28] V7)
noncomputable def QV:gE :=
 .ow true [p1 59 13,p3 60 1,p3 61 15,q5 62 60 61 1,qf 63 62,p3 64 0,p0 65 [.Bu 64] .z6,qx 66 65 0,qx 67 66 0,qf 68 67,p3 69 1,p3 70 1,qU 71 70,qw 72 71 1 .sub,p3 73 15,qo 74 72 73 .sub,q5 75 69 74 1,qf 76 75,q5 77 68 76 2,p0 78 [.Bu 77] (.zG (.str 2)),p0 79 [.Bu 63,.Bu 78] (.build [.int .i64 0,.int .i64 0,.int .i64 0] [(0,1),(1,2)]),p0 80 [.Bu 79] (.yD 1 3 [.int .i64 0,.int .i64 0,.int .i64 0] [0]),p0 81 [.jq 59,.jq 80] (.app 3 24),p1 13 81]
noncomputable def V9:gE :=
 .block 3 (p2 [p0 57 [.nd 53,.nd 55] (.kZ 1),qf 58 57,p1 15 58] QV)
noncomputable def NP:gE :=
 .loop (some (p8 false [0,2,11,1,39,3,28])) (p2 [p0 56 [.nd 55,.nd 54] (.bin .lss)] (.seq (.cond (.nd 56) .skip (.exit 2)) (.seq V9 (qG [qT 82 55 1,p1 55 82]))))
noncomputable def QW:gE :=
 .seq (p2 [p1 53 9,p0 54 [.nd 53] .zL,qc 55 0] (.block 2 NP)) (p2 [p1 83 13,p1 6 83] .ret)
noncomputable def NQ:gE :=
 .loop (some (p8 false [0,3,6,1,15,2,57])) (p2 [p0 27 [.nd 26,.nd 25] (.bin .lss)] (.seq (.cond (.nd 27) .skip (.exit 0)) (.seq V8 (qG [qT 52 26 1,p1 26 52]))))
noncomputable def QX:gE :=
 .seq (p2 [p3 24 1,qU 25 24,qc 26 0] (.block 0 NQ)) (p2 [p0 13 [.cv (.av [] 0 .full)] (.nil 3)] QW)
noncomputable def V6:gE :=
 .seq (p2 [p3 17 0,p3 18 1,p3 19 2,p0 20 [.cv (.func 53 [] []),.jq 17,.jq 18,.jq 19,.cv (.av [] 0 .full)] (.call 1),p1 16 20,qL 21 16 0,p0 22 [.Bu 16] (.ext 1),p1 7 21,p1 8 22] (p2 [p1 23 8] (.cond (.nd 23) (p2 [p0 6 [.cv (.av [] 0 .full)] (.nil 3)] .ret) .skip))) (p2 [p0 9 [.cv (.av [] 0 .full)] (.nil 1)] QX)
noncomputable def NN:gE :=
 p2 [p0 6 [.cv (.av [] 0 .full)] (.nil 3)] V6
theorem Qk:ql Go.Proofs.Try.prog Kt 48=some (NN,84,[.tmp 6]):=by kernel_rfl
end Go.Proofs.Ytkoioidpbbbaiaa.Ab


namespace Go.Proofs.Ytkoioidpbbbaiaa.Ab
open Go
set_option maxRecDepth 20000
set_option maxHeartbeats 4000000
def I8 (b:rQ) (order:List Int) (qp:Int):List Int→Nat→List Int→Option (Nat×(List qn ⊕ List Int))
 | [],k,ad=>some (k,.inr ad)
 | i::r,k,ad =>
   if i.tmod 2≠qp then I8 b order qp r (k+1) ad
   else (Ih b order qp [i]).bind fun q=>if q.2=true then some (k+1,.inl q.1) else
    (JV b i).bind fun p=>I8 b order qp r (k+1) (if 0<p then ad++[i] else ad)
def I1 (b:rQ) (order:List Int):List Int→List qn→Option (List qn)
 | [],out=>some out
 | i::r,out=>qy (0≤i∧i<(order.length:Int)) <| qy (0≤w (w (order.length-1)-i)∧w (w (order.length-1)-i)<(order.length:Int)) <|
   qy (0≤ix order (w (w (order.length-1)-i))∧ix order (w (w (order.length-1)-i))<(b.1.1.length:Int)) <|
   I1 b order r (out++[(ix order i,ix b.1.1 (ix order (w (w (order.length-1)-i))))])
theorem adw {b:rQ} {m lo:Nat} {order ad:List Int} {v:List qn} (h:I1 b order ad []=some v) (ao:ad.length≤1000) {T:List I} {H:List ar} {Q:cQ→List I→List ar→Prop}
  (b0:eZ [true,true,false,false,false,false,false,false,false,false,false,false,false,true,false,false,false,false,false,false,false,false,false,false,false,false,false,false,false,false,false,false,false,false,false,false,false,false,false,false,false,false,false,false,false,false,false,false,false,false,false,false,false,true,true,true,false,false,false,false,false,false,false,false,false,false,false,false,false,false,false,false,false,false,false,false,false,false,false,false,false,false,false,false] T=qa 84 [(0,rH b m),(1,.av (order.map h0) order.length .shared),(13,.av [] 0 (.uniq 3)),(53,.av (ad.map h0) ad.length (.own 1)),(54,h0 ad.length),(55,h0 0)])
  (bp:∀ Xe Xf Xg Xh,Q (.exit 2) (qa 84 [(0,rH b m),(1,.av (order.map h0) order.length .shared),(13,.av (v.flatMap qm) v.length (.uniq 3)),(53,Xe),(54,Xf),(55,Xg),(56,Xh)]) H) :
  dQ Try.prog Kt 48 lo none NP T H Q:=by
 unfold NP;refine wp_loop b0 ?_;refine .intro (fun hr T H'=>∃ (i:Nat) (out:List qn),i≤ad.length∧hr=ad.length-i∧out.length=i∧I1 b order (ad.drop i) out=some v∧T=qa 84 [(0,rH b m),(1,.av (order.map h0) order.length .shared),(13,.av (out.flatMap qm) out.length (.uniq 3)),(53,.av (ad.map h0) ad.length (.own 1)),(54,h0 ad.length),(55,h0 i)]∧H'=H) ad.length ⟨0,[],sD _,rfl,rfl,h,rfl,rfl⟩ ?_;clear b0 h;rintro hr T H' ⟨i,out,hi,rfl,aq,al,rfl,rfl⟩;conv=>whnf
 refine Hm (fun aR=>?_) (fun aR=>?_)
 ·have HB:i<ad.length:=by omega
  have Ik:0≤(i:Int)∧(i:Int)<(ad.length:Int):=by omega
  rw [s7 HB] at al;unfold I1 at al;obtain ⟨cf,al⟩:=rL al;obtain ⟨ca,al⟩:=rL al;obtain ⟨eS,al⟩:=rL al;unfold V9;obtain ⟨f',rP⟩:∃ c,QV=c:=⟨_,rfl⟩;rw [rP];conv=>whnf
  refine ⟨Ik,?_⟩;rw [rb h0 ad (i:Int) Ik,rI HB];conv=>whnf
  subst rP;unfold QV;conv=>whnf
  refine ⟨cf,?_⟩;rw [rb h0 order _ cf];conv=>whnf
  refine ⟨ca,?_⟩;rw [rb h0 order _ ca];conv=>whnf
  refine ⟨eS,?_⟩;rw [Ib p7 2 Je b.1.1 _ eS];conv=>whnf
  refine ⟨rfl,by decide,?_⟩;conv=>whnf
  refine ⟨by decide,by omega,?_⟩;conv=>whnf
  have rz:IntKind.i64.wrap ((i:Int)+1)=((i+1:Nat):Int):=by rw [Hj _ (by omega) (by omega)];omega
  refine ⟨ad.length-(i+1),by omega,i+1,_,by omega,rfl,by simp [aq],al,?_,rfl⟩;rw [rz,ui,sy];rfl
 ·have:i=ad.length:=by omega
  subst this;rw [List.drop_length] at al;obtain rfl:=Option.some.inj al;conv=>whnf
  exact bp _ _ _ _
theorem afz {n i:Nat} (h:i<n):(qh n).drop i=(i:Int)::(qh n).drop (i+1):=by
 have ao:i<(qh n).length:=by rw [KR];exact h
 rw [s7 ao];simp [qh]
theorem abO {b:rQ} {m lo k:Nat} {order:List Int} {qp:Int} {res:List qn ⊕ List Int} (h:I8 b order qp (qh order.length) 0 []=some (k,res)) (ao:order.length≤1000) {Hs:Nat→List ar}
  (cp:∀ (i:Nat) q,(i:Int).tmod 2=qp→Ih b order qp [(i:Int)]=some q→Sem Try.prog (.fn 53) [rH b m,.av (order.map h0) order.length .shared,h0 qp,.av [h0 (i:Int)] 1 (.uniq 1)] (Hs i) lo (.tuple [.av (q.1.flatMap qm) q.1.length .shared,B q.2]) (Hs (i+1)))
  (bJ:∀ i:Nat,(i:Int).tmod 2≠qp→Hs (i+1)=Hs i) {T:List I} {Q:cQ→List I→List ar→Prop}
  (b0:eZ [true,true,true,false,false,false,false,false,false,true,false,false,false,false,false,false,false,false,false,false,false,false,false,false,false,true,true,false,false,false,false,false,false,false,false,false,false,false,false,false,false,false,false,false,false,false,false,false,false,false,false,false,false,false,false,false,false,false,false,false,false,false,false,false,false,false,false,false,false,false,false,false,false,false,false,false,false,false,false,false,false,false,false,false] T=qa 84 [(0,rH b m),(1,.av (order.map h0) order.length .shared),(2,h0 qp),(9,.av [] 0 (.uniq 1)),(25,h0 order.length),(26,h0 0)])
  (aaF:∀ q T,res=.inl q→rF (Hs k) T [.tmp 6]=some [.av (q.flatMap qm) q.length .shared]→Q .ret T (Hs k))
  (aaG:∀ ad Xa Xb Xc,res=.inr ad→ad.length≤order.length→Q (.exit 0) (qa 84 [(0,rH b m),(1,.av (order.map h0) order.length .shared),(2,h0 qp),(9,.av (ad.map h0) ad.length (.uniq 1)),(25,Xa),(26,Xb),(27,Xc)]) (Hs k)) :
  dQ Try.prog Kt 48 lo none NQ T (Hs 0) Q:=by
 unfold NQ;refine wp_loop b0 ?_;refine .intro (fun hr T H'=>∃ (i:Nat) (ad:List Int),i≤order.length∧hr=order.length-i∧ad.length≤i∧I8 b order qp ((qh order.length).drop i) i ad=some (k,res)∧T=qa 84 [(0,rH b m),(1,.av (order.map h0) order.length .shared),(2,h0 qp),(9,.av (ad.map h0) ad.length (.uniq 1)),(25,h0 order.length),(26,h0 i)]∧H'=Hs i) order.length ⟨0,[],sD _,rfl,sc _,h,rfl,rfl⟩ ?_;clear b0 h;rintro hr T H' ⟨i,ad,hi,rfl,abm,al,rfl,rfl⟩;conv=>whnf
 have rz:i<order.length→IntKind.i64.wrap ((i:Int)+1)=((i+1:Nat):Int):=fun _=>by rw [Hj _ (by omega) (by omega)];omega
 refine Hm (fun aR=>?_) (fun aR=>?_)
 ·have HB:i<order.length:=by omega
  rw [afz HB] at al;unfold I8 at al;unfold V8 V7;obtain ⟨bt,eS⟩:∃ c,QU=c:=⟨_,rfl⟩;rw [eS];conv=>whnf
  refine ⟨by decide,?_⟩;conv=>whnf
  by_cases J9:(i:Int).tmod 2=qp
  ·rw [decide_eq_false (show ¬ ((i:Int).tmod 2≠qp) from fun h=>h J9)];rw [if_neg (fun h=>h J9)] at al;obtain ⟨q,a',al⟩:=p9 al;(conv=>whnf);subst eS;unfold QU;obtain ⟨a9,ca⟩:∃ c,QT=c:=⟨_,rfl⟩;rw [ca];(conv=>whnf);refine ⟨_,_,re (cp i q J9 a'),?_⟩;(conv=>whnf);obtain ⟨q1,aW⟩:=q;cases aW with
   | true =>
     rw [if_pos rfl] at al;obtain ⟨ab,ae⟩:=Prod.mk.inj (Option.some.inj al);subst ab;(conv=>whnf);exact aaF _ _ ae.symm rfl
   | false =>
     rw [if_neg (by simp)] at al;obtain ⟨pl,hk,al⟩:=p9 al;(conv=>whnf);subst ca;unfold QT;(conv=>whnf);refine ⟨_,_,call9 (bs:=[lq b,h0 i]) rfl (p5 (H4 b) (p5 rfl rfl)) (Kp hk),?_⟩;(conv=>whnf);refine Hm (fun aB=>?_) (fun aB=>?_)
     ·rw [if_pos aB] at al;(conv=>whnf);refine ⟨rfl,by decide,?_⟩;(conv=>whnf);refine ⟨by decide,by omega,?_⟩;(conv=>whnf);refine ⟨order.length-(i+1),by omega,i+1,_,by omega,rfl,by simp;omega,al,?_,rfl⟩;rw [rz HB,sP,sy];rfl
     ·rw [if_neg aB] at al;(conv=>whnf);exact ⟨order.length-(i+1),by omega,i+1,ad,by omega,rfl,by omega,al,by rw [rz HB];rfl,rfl⟩
  ·rw [decide_eq_true (show (i:Int).tmod 2≠qp from J9)];rw [if_pos J9] at al;(conv=>whnf);refine ⟨order.length-(i+1),by omega,i+1,ad,by omega,rfl,by omega,al,by rw [rz HB];rfl,?_⟩;rw [bJ i J9]
 ·have:i=order.length:=by omega
  subst this;rw [ve (by rw [KR];omega)] at al;obtain ⟨ab,ae⟩:=Prod.mk.inj (Option.some.inj al);subst ab;conv=>whnf
  exact aaG _ _ _ _ ae.symm abm
def Kn (b:rQ) (order:List Int) (qp:Int):Option (List qn) :=
 qy (order.length≤1000) <|
 (Ih b order qp []).bind fun r=>if r.2=true then some [] else
 (I8 b order qp (qh order.length) 0 []).bind fun q=>match q.2 with
 | .inl l=>some l
 | .inr ad=>I1 b order ad []
theorem H6.refl (m:Nat) (H:List ar):H6 m H H:=⟨sc _,fun _ _ _=>rfl⟩
theorem H6.trans {m:Nat} {H H1 H2:List ar} (h:H6 m H H1) (k:H6 m H1 H2):H6 m H H2 :=
 ⟨Nat.le_trans h.1 k.1,fun j aw ao=>by rw [k.2 j aw (by have:=h.1;omega),h.2 j aw ao]⟩
theorem XL {b:rQ} {order:List Int} {qp:Int} {v:List qn} (h:Kn b order qp=some v) {m lo:Nat} {H:List ar} (bD:lo≤m) (bG:HR b m H) :
  ∃ H' c,(c=.shared∨c=.uniq 3∨c=.own 3)∧HR b m H'∧H6 m H H'∧Sem Try.prog (.fn 48) [rH b m,.av (order.map h0) order.length .shared,h0 qp] H lo (.av (v.flatMap qm) v.length c) H':=by
 unfold Kn at h;obtain ⟨aI,h⟩:=rL h;obtain ⟨r,ai,h⟩:=p9 h;have er:m<H.length:=by obtain ⟨_,_,ab,_⟩:=bG;exact (sa.1 ab).1
 obtain ⟨dD,o,aaH⟩:=XP ai (m:=m) (lo:=lo) (H:=H) (by omega);obtain ⟨aS,bj⟩:=r;have dD:aS=[]:=dD;subst dD
 classical
 obtain ⟨Hs,gL,Lk⟩:=Nl (fun i rq HW=>HR b m rq→(HR b m HW∧H6 m rq HW∧ba lo rq HW)∧(∀ q,(i:Int).tmod 2=qp→Ih b order qp [(i:Int)]=some q→Sem Try.prog (.fn 53) [rH b m,.av (order.map h0) order.length .shared,h0 qp,.av [h0 (i:Int)] 1 (.uniq 1)] rq lo (.tuple [.av (q.1.flatMap qm) q.1.length .shared,B q.2]) HW)∧((i:Int).tmod 2≠qp→HW=rq)) (H++[o]) (fun i rq=>by
  by_cases aP:HR b m rq
  ·by_cases hm:(i:Int).tmod 2=qp
   ·cases a':Ih b order qp [(i:Int)] with
    | none=>exact ⟨rq,fun _=>⟨⟨aP,H6.refl _ _,ba.refl _ _⟩,(fun q _ h=>by cases h),fun h=>absurd hm h⟩⟩
    | some q =>
      obtain ⟨H',f1,f2,f3⟩:=XQ a' bD aP;exact ⟨H',fun _=>⟨⟨f1,f2,f3.1⟩,(fun fW _ h=>by obtain rfl:=Option.some.inj h;exact f3),fun h=>absurd hm h⟩⟩
   ·exact ⟨rq,fun _=>⟨⟨aP,H6.refl _ _,ba.refl _ _⟩,fun q h _=>absurd h hm,fun _=>rfl⟩⟩
  ·exact ⟨rq,fun h=>absurd h aP⟩)
 have c1:∀ i,HR b m (Hs i)∧H6 m H (Hs i)∧ba lo H (Hs i):=fun i=>by
  induction i with
  | zero=>rw [gL];exact ⟨bG.more _,⟨by simp,fun j _ aw=>by rw [sg aw]⟩,ba.append _ _ _⟩
  | succ i a8 =>
    obtain ⟨⟨aA,aG,aT⟩,_,_⟩:=Lk i a8.1;exact ⟨aA,a8.2.1.trans aG,a8.2.2.trans aT⟩
 have start:∀ (Q:cQ→List I→List ar→Prop) (B_:gE),QX=B_→(bj=true→∀ T,rF (H++[o]) T [.tmp 6]=some [.av [] 0 (.uniq 3)]→Q .ret T (H++[o]))→(bj=false→∀ Jl,dQ Try.prog Kt 48 lo none B_ (qa 84 [(0,rH b m),(1,.av (order.map h0) order.length .shared),(2,h0 qp),(6,.av [] 0 (.uniq 3)),(7,Jl),(9,.av [] 0 (.uniq 1)),(23,.bool false)]) (H++[o]) Q) →
   dQ Try.prog Kt 48 lo none NN (qa 84 [(0,rH b m),(1,.av (order.map h0) order.length .shared),(2,h0 qp)]) H Q:=by
  intro Q B_ abd ab ae;unfold NN V6;rw [abd];conv=>whnf
  refine ⟨_,_,re aaH,?_⟩;conv=>whnf
  cases bj with
  | true =>
    (conv=>whnf);exact ab rfl _ rfl
  | false =>
    (conv=>whnf);exact ae rfl _
 cases bj with
 | true =>
   rw [if_pos rfl] at h;obtain rfl:=Option.some.inj h;refine ⟨H++[o],.uniq 3,.inr (.inl rfl),bG.more _,⟨by simp,fun j _ aw=>by rw [sg aw]⟩,?_⟩;refine ri eG Qk rfl (ba.append _ _ _) fun Q bp=>?_;refine start Q _ rfl (fun _ T b0=>?_) (fun h=>by cases h);exact bp _ _ _ ⟨.inr rfl,lJ.refl _,by rw [b0];rfl⟩
 | false =>
   rw [if_neg (by simp)] at h;obtain ⟨⟨k,res⟩,ak,h⟩:=p9 h;have pC:∀ (Q:cQ→List I→List ar→Prop),
     (∀ q T,res=.inl q→rF (Hs k) T [.tmp 6]=some [.av (q.flatMap qm) q.length .shared]→Q .ret T (Hs k)) →
     (∀ ad,res=.inr ad→∃ bo,I1 b order ad []=some bo∧∀ T,rF (Hs k) T [.tmp 6]=some [.av (bo.flatMap qm) bo.length (.uniq 3)]→Q .ret T (Hs k)) →
     dQ Try.prog Kt 48 lo none NN (qa 84 [(0,rH b m),(1,.av (order.map h0) order.length .shared),(2,h0 qp)]) H Q:=by
    intro Q ab ae;refine start Q _ rfl (fun h=>by cases h) fun _ Jl=>?_;unfold QX;obtain ⟨a9,ca⟩:∃ c,NQ=c:=⟨_,rfl⟩;obtain ⟨nw,I_⟩:∃ c,QW=c:=⟨_,rfl⟩;rw [ca,I_];(conv=>whnf);subst ca;rw [←gL];refine abO (b:=b) (m:=m) (lo:=lo) ak aI (Hs:=Hs) (fun i q hm a'=>(Lk i (c1 i).1).2.1 q hm a') (fun i hm=>(Lk i (c1 i).1).2.2 hm) (by exact rfl) (fun q T a' b0=>?_) (fun ad Xa Xb Xc a' xf=>?_)
    ·(conv=>whnf);exact ab q T a' b0
    ·obtain ⟨bo,aq,ai⟩:=ae ad a';(conv=>whnf);subst I_;unfold QW;obtain ⟨a7,cf⟩:∃ c,NP=c:=⟨_,rfl⟩;rw [cf];(conv=>whnf);subst cf;refine adw (b:=b) (m:=m) (lo:=lo) aq (by omega) (by exact rfl) fun Xe Xf Xg Xh=>?_;(conv=>whnf);exact ai _ rfl
   have Ln:=c1 k;cases res with
   | inl l =>
     obtain rfl:=Option.some.inj h;refine ⟨Hs k,.shared,.inl rfl,Ln.1,Ln.2.1,?_⟩;refine ri eG Qk rfl Ln.2.2 fun Q bp=>?_;refine pC Q (fun q T a' b0=>?_) (fun ad a'=>by cases a');injection a' with a';subst a';exact bp _ _ _ ⟨.inr rfl,lJ.refl _,by rw [b0];rfl⟩
   | inr ad =>
     refine ⟨Hs k,.uniq 3,.inr (.inl rfl),Ln.1,Ln.2.1,?_⟩;refine ri eG Qk rfl Ln.2.2 fun Q bp=>?_;refine pC Q (fun q T a' b0=>by cases a') (fun bh a'=>⟨v,?_,fun T b0=>?_⟩)
     ·injection a' with a';subst a';exact h
     ·exact bp _ _ _ ⟨.inr rfl,lJ.refl _,by rw [b0];rfl⟩
end Go.Proofs.Ytkoioidpbbbaiaa.Ab


namespace Go.Proofs.Ytkoioidpbbbaiaa.Ab
open Go
noncomputable def aeh:gE :=
 p2 [p3 19 3, qw 20 19 0 .lss] (.cond (.nd 20) (qG [p0 21 [.cv (.str (ByteArray.mk (Array.mk [108, 101, 110, 32, 111, 117, 116, 32, 111, 102, 32, 114, 97, 110, 103, 101])))] (.other (Oper.mk (some 21) (Op.makeInterface 9 (Operand.const (Value.string (ByteArray.mk (Array.mk [108, 101, 110, 32, 111, 117, 116, 32, 111, 102, 32, 114, 97, 110, 103, 101]))))) 20 "slices.go:496" (Array.mk []) none) 0), ⟨none, [.Bu 21], none, none, .other (Oper.mk none (Op.panic (Operand.tmp 21)) 0 "slices.go:496" (Array.mk [Edge.mk 0 Ground.data]) none) 0⟩]) .skip)
noncomputable def aei:gE :=
 p2 [p1 15 3,p1 16 5,qU 17 16,qo 18 15 17 .add,p1 3 18] aeh
noncomputable def aej:gE :=
 .block 1 (p2 [p0 13 [.nd 9,.nd 11] (.kZ 1),qf 14 13,p1 5 14] aei)
noncomputable def aek:gE :=
 .ow false [p1 31 6,p1 32 8,p0 33 [.jq 31,.jq 32] (.app 3 24),p1 6 33]
noncomputable def ael:gE :=
 .block 3 (p2 [p0 29 [.nd 25,.nd 27] (.kZ 1),qf 30 29,p1 8 30] aek)
noncomputable def aem:gE :=
 .seq (p2 [p1 25 0,p0 26 [.nd 25] .zL,qc 27 0] (.block 2 (.loop (some (p8 false [6,1,18,3,8])) (p2 [p0 28 [.nd 27,.nd 26] (.bin .lss)] (.seq (.cond (.nd 28) .skip (.exit 2)) (.seq ael (qG [qT 34 27 1,p1 27 34]))))))) (p2 [p1 35 6,p1 2 35] .ret)
noncomputable def aen:gE :=
 .seq (p2 [p3 9 0,p0 10 [.nd 9] .zL,qc 11 0] (.block 0 (.loop (some (p8 false [0,1,2,1,5,3,24])) (p2 [p0 12 [.nd 11,.nd 10] (.bin .lss)] (.seq (.cond (.nd 12) .skip (.exit 0)) (.seq aej (qG [qT 22 11 1,p1 11 22]))))))) (p2 [p1 23 3,p0 24 [.cv (.func 67 [] []),.cv (.av [] 0 .full),.nd 23] (.call 0),p1 6 24] aem)
noncomputable def V5:gE :=
 p2 [p0 2 [.cv (.av [] 0 .full)] (.nil 3)] (p2 [qc 3 0] aen)
theorem acf:ql Go.Proofs.Try.prog SA 47=some (V5,36,[.tmp 2]):=by kernel_rfl
end Go.Proofs.Ytkoioidpbbbaiaa.Ab


namespace Go.Proofs.Ytkoioidpbbbaiaa.Ab
open Go
set_option maxRecDepth 20000
set_option maxHeartbeats 4000000
noncomputable def N8 (k:Nat) (args:List I):Option I:=match ga Go.Proofs.Try.prog jD (Od []) 300 (.fn k) args [] 0 with
 | some (r,H2)=>match bM H2 0 H2.length 0 8 r with
   | some v=>match cr 8 v with
     | true=>some v
     | false=>none
   | none=>none
 | none=>none
theorem Wz {k:Nat} {args:List I} {v:I} (h:N8 k args=some v):np Go.Proofs.Try.prog k args v:=by
 unfold N8 at h;split at h
 ·rename_i r H2 ak;split at h
  ·rename_i u aP;split at h
   ·rename_i aB;cases h;have ah:=(Cc eG jD (W2 (l:=[]) (by simp)) (UZ SX) 300).Hb ak;refine ⟨⟨ba.refl _ _,ah.2.1,fun B aa J S w xs ag aI ad=>CallsIn.mono (ah.2.2 B aa J S w xs ag aI ad) fun e w' he=>?_⟩,aB⟩;cases e with
    | returned x=>exact xH ag (fun id aE=>by simp at aE) aP he
    | panicked c=>exact he.elim
    | outgrown=>exact he.elim
   ·cases h
  ·cases h
 ·cases h
def Nz:I→Bool
 | .av [] 0 (.uniq 3)=>true
 | _=>false
theorem T5 {v:I} (h:Nz v=true):v=.av [] 0 (.uniq 3):=by
 unfold Nz at h;split at h
 ·rfl
 ·cases h
theorem aau:((List.range 20).all fun n=>match N8 67 [.av [] 0 .full,.int .i64 ((n+1:Nat):Int)] with | some v=>Nz v | none=>false)=true:=by kernel_rfl
theorem aav {n:Nat} (h:n<20):qu 67 [.av [] 0 .full,h0 ((n+1:Nat):Int)] (.av [] 0 (.uniq 3)):=by
 have:=List.all_eq_true.1 aau n (List.mem_range.2 h);split at this
 ·rename_i v ad;rw [T5 this] at ad;exact Wz ad
 ·cases this
theorem Z7:(match N8 47 [.av [.av [] 0 .shared,.av [] 0 .shared] 2 (.uniq 1)] with | some v=>Nz v | none=>false)=true:=by kernel_rfl
theorem Z5:qu 47 [.av [.av [] 0 .shared,.av [] 0 .shared] 2 (.uniq 1)] (.av [] 0 (.uniq 3)):=by
 have:=Z7;split at this
 ·rename_i v ad;rw [T5 this] at ad;exact Wz ad
 ·cases this
abbrev LE (l:List qn):I:=.av (l.flatMap qm) l.length .shared
theorem Z6 {l1 l2:List qn} (aI:l1.length+l2.length≤20) {H:List ar} {lo:Nat}:Sem Try.prog (.fn 47) [.av [LE l1,LE l2] 2 (.uniq 1)] H lo (.av ((l1++l2).flatMap qm) (l1++l2).length (.uniq 3)) H:=by
 by_cases aQ:l1.length+l2.length=0
 ·obtain rfl:=sO.1 (show l1.length=0 by omega);obtain rfl:=sO.1 (show l2.length=0 by omega);have:=WE (H:=H) (by rfl) Z5;exact ⟨ba.refl _ _,this.2⟩
 obtain ⟨k,al⟩:∃ k,l1.length+l2.length=k+1:=⟨l1.length+l2.length-1,by omega⟩;refine ri eG acf rfl (ba.refl _ _) fun Q bp=>?_;unfold V5;conv=>whnf
 have bI:IntKind.i64.wrap (0+(l1.length:Int))=(l1.length:Int):=by rw [Hj _ (by omega) (by omega)];omega
 have bX:IntKind.i64.wrap ((l1.length:Int)+(l2.length:Int))=((l1.length+l2.length:Nat):Int):=by rw [Hj _ (by omega) (by omega)];omega
 refine .intro (fun m T H'=>(m=2∧T=qa 36 [(0,.av [LE l1,LE l2] 2 (.own 1)),(3,h0 0),(9,.av [LE l1,LE l2] 2 .shared),(10,h0 2),(11,h0 0)]∧H'=H)∨(m=1∧T=qa 36 [(0,.av [LE l1,LE l2] 2 (.own 1)),(3,h0 l1.length),(9,.av [LE l1,LE l2] 2 .shared),(10,h0 2),(11,h0 1)]∧H'=H)∨(m=0∧T=qa 36 [(0,.av [LE l1,LE l2] 2 (.own 1)),(3,h0 ((l1.length+l2.length:Nat):Int)),(9,.av [LE l1,LE l2] 2 .shared),(10,h0 2),(11,h0 2)]∧H'=H)) 2 (.inl ⟨rfl,rfl,rfl⟩) ?_;rintro m T H' (⟨rfl,rfl,rfl⟩ | ⟨rfl,rfl,rfl⟩ | ⟨rfl,rfl,rfl⟩)
 ·conv=>whnf
  refine ⟨by decide,?_⟩;conv=>whnf
  rw [bI,decide_eq_false (show ¬ ((l1.length:Int)<0) by omega)];conv=>whnf
  exact ⟨1,by decide,.inr (.inl ⟨rfl,rfl,rfl⟩)⟩
 ·conv=>whnf
  refine ⟨by decide,?_⟩;conv=>whnf
  rw [bX,decide_eq_false (show ¬ (((l1.length+l2.length:Nat):Int)<0) by omega)];conv=>whnf
  exact ⟨0,by decide,.inr (.inr ⟨rfl,rfl,rfl⟩)⟩
 ·conv=>whnf
  rw [al];refine ⟨_,_,Mj (p5 rfl (p5 rfl rfl)) (aav (n:=k) (by omega)) _ _,?_⟩;conv=>whnf
  have bm:(l1.flatMap qm).length=l1.length*3:=Ii qm 3 (fun _=>rfl) l1;have cw:(l2.flatMap qm).length=l2.length*3:=Ii qm 3 (fun _=>rfl) l2;refine .intro (fun m T H2=>(m=2∧T=qa 36 [(6,.av [] 0 (.uniq 3)),(25,.av [LE l1,LE l2] 2 (.own 1)),(26,h0 2),(27,h0 0)]∧H2=H')∨(m=1∧T=qa 36 [(6,.av (l1.flatMap qm) l1.length (.uniq 3)),(25,.av [LE l1,LE l2] 2 (.own 1)),(26,h0 2),(27,h0 1)]∧H2=H')∨(m=0∧T=qa 36 [(6,.av ((l1++l2).flatMap qm) (l1++l2).length (.uniq 3)),(25,.av [LE l1,LE l2] 2 (.own 1)),(26,h0 2),(27,h0 2)]∧H2=H')) 2 (.inl ⟨rfl,rfl,rfl⟩) ?_;rintro m T H2 (⟨rfl,rfl,rfl⟩ | ⟨rfl,rfl,rfl⟩ | ⟨rfl,rfl,rfl⟩)
  ·(conv=>whnf);refine ⟨by decide,?_⟩;(conv=>whnf);refine ⟨bm,by omega,rfl,by omega,?_⟩;(conv=>whnf);refine ⟨1,by decide,.inr (.inl ⟨rfl,?_,rfl⟩)⟩;rw [sB];rfl
  ·(conv=>whnf);refine ⟨by decide,?_⟩;(conv=>whnf);refine ⟨cw,by omega,rfl,by omega,?_⟩;(conv=>whnf);refine ⟨0,by decide,.inr (.inr ⟨rfl,?_,rfl⟩)⟩;rw [ui,sy];rfl
  ·(conv=>whnf);exact bp _ _ _ ⟨.inr rfl,lJ.refl _,rfl⟩

noncomputable def Ym:gE :=
 p2 [p0 2 [.jq 0] .box,p0 3 [.jq 1] .box,qc 4 0] (p2 [qx 5 2 0,qf 6 5,qx 7 3 0,qf 8 7,qo 9 6 8 .sub,p1 4 9] .ret)
theorem ac1:ql Try.prog SC 50=some (Ym,10,[.tmp 4]):=by kernel_rfl
def XM (x:(Int×(Int×Int))) (y:(Int×(Int×Int))):Option Int :=
 some (w (x.1-y.1))
theorem agM {x:(Int×(Int×Int))} {y:(Int×(Int×Int))} {v:Int} (h:XM x y=some v):qu 50 [(.agg [(h0 x.1),(h0 x.2.1),(h0 x.2.2)]),(.agg [(h0 y.1),(h0 y.2.1),(h0 y.2.2)])] (h0 v):=by
 refine qH eG ac1 rfl rfl fun Q bp=>?_;have jK:qJ [.tmp 4] Q (fun v=>(h0 v)) v:=fun T H bE=>bp _ T H bE;unfold XM at h;unfold Ym;conv=>whnf
 exact qg h jK rfl rfl
end Go.Proofs.Ytkoioidpbbbaiaa.Ab


namespace Go.Proofs.Ytkoioidpbbbaiaa.Ab
open Go
noncomputable def aep:gE :=
 .ow false [p1 7 0,p3 8 4,p1 9 4,p0 10 [.Bu 9] (.conv .u64),p0 11 [.cv (.func 70 [] []),.nd 10] (.call 3),p1 12 1,p0 13 [.cv (.func 69 [] []),.jq 7,.cv (.int .i64 0),.jq 8,.jq 11,.jq 12] (.call 1)]
noncomputable def QY:gE :=
 p2 [p3 5 0,qU 6 5,p1 4 6] aep
theorem Uz:ql Go.Proofs.Try.prog SB 49=some (QY,14,[]):=by kernel_rfl
noncomputable def MJ:gE :=
 p2 [p1 26 0,p1 27 1,p1 28 2,p1 29 4,p0 30 [.cv (.func 78 [] []),.jq 26,.jq 27,.jq 28,.jq 29] (.call 1)] .ret
noncomputable def aeD:gE :=
 p2 [p1 33 0,p1 34 1,p1 35 2,p1 36 4,p0 37 [.cv (.func 79 [] []),.jq 33,.jq 34,.jq 35,.jq 36] (.call 1)] .ret
noncomputable def aeE:gE :=
 p2 [p3 40 0,p3 41 1,p3 42 2,p3 43 4,p0 44 [.cv (.func 80 [] []),.jq 40,.jq 41,.jq 42,.jq 43] (.call 1)] (qG [p1 45 3,qw 46 45 1 .sub,p1 3 46])
noncomputable def aeF:gE :=
 p2 [p3 62 2,qw 63 62 1 .sub,p1 64 13,p3 65 1,qo 66 64 65 .sub,qo 67 63 66 .sub,p1 13 67] (qG [qc 14 1])
noncomputable def aeG:gE :=
 p2 [p3 57 0,p3 58 1,p3 59 2,p3 60 4,p0 61 [.cv (.func 82 [] []),.jq 57,.jq 58,.jq 59,.jq 60] (.call 1)] aeF
noncomputable def aeH:gE :=
 p2 [p3 76 0,p3 77 1,p3 78 2,p3 79 4,p0 80 [.cv (.func 83 [] []),.jq 76,.jq 77,.jq 78,.jq 79] (.call 1)] (.cond (.nd 80) .ret .skip)
noncomputable def aeI:gE :=
 p2 [p3 98 0,p1 99 1,p3 100 2,p1 101 13,p3 102 4,p0 103 [.cv (.func 84 [] []),.jq 98,.jq 99,.jq 100,.jq 101,.jq 102] (.call 1),p1 15 103] (p2 [p1 104 15,p1 1 104] (.exit 1))
noncomputable def aeJ:gE :=
 p2 [p3 129 0,p1 130 1,p3 131 16,p3 132 3,p3 133 4,p0 134 [.cv (.func 69 [] []),.jq 129,.jq 130,.jq 131,.jq 132,.jq 133] (.call 1)] (qG [p1 135 16,qT 136 135 1,p1 1 136])
noncomputable def aeK:gE :=
 p2 [p1 126 18,p1 127 20,qo 128 126 127 .geq,p1 10 128] aeJ
noncomputable def aev:gE :=
 p2 [p3 140 0,p3 141 16,qT 142 141 1,p1 143 2,p3 144 3,p3 145 4,p0 146 [.cv (.func 69 [] []),.jq 140,.jq 142,.jq 143,.jq 144,.jq 145] (.call 1)] (qG [p1 147 16,p1 2 147])
noncomputable def aew:gE :=
 p2 [p1 137 19,p1 138 20,qo 139 137 138 .geq,p1 10 139] aev
noncomputable def aex:gE :=
 p2 [p1 121 12,qw 122 121 8 .quo,p1 20 122] (p2 [p3 123 18,p3 124 19,qo 125 123 124 .lss] (.cond (.nd 125) aeK aew))
noncomputable def aey:gE :=
 p2 [p3 115 16,p3 116 1,qo 117 115 116 .sub,p3 118 2,p3 119 16,qo 120 118 119 .sub,p1 18 117,p1 19 120] aex
noncomputable def aez:gE :=
 p2 [p3 106 0,p3 107 1,p3 108 2,p1 109 13,p3 110 4,p0 111 [.cv (.func 85 [] []),.jq 106,.jq 107,.jq 108,.jq 109,.jq 110] (.call 1),p1 105 111,qL 112 105 0,p0 113 [.Bu 105] (.ext 1),p1 16 112,p1 17 113] (p2 [p1 114 17,p1 11 114] aey)
noncomputable def aeA:gE :=
 .seq (.seq (q_ [p3 81 1,qw 82 81 0 .gtr,p1 83 82,cl 84 [.nd 4] 83 true .mV,cl 85 [.nd 0] 83 true .mV,cl 86 [.nd 1] 83 true .mV,cl 87 [.Bu 86,.cv (.int .i64 1)] 83 true (.bin .sub),cl 88 [.Bu 85,.Bu 87] 83 true (.kZ 3),cl 89 [.Bu 88] 83 true (.zG (.str 3)),cl 90 [.nd 0] 83 true .mV,cl 91 [.nd 13] 83 true .mV,cl 92 [.Bu 90,.Bu 91] 83 true (.kZ 3),cl 93 [.Bu 92] 83 true (.zG (.str 3)),cl 94 [.nd 84,.nd 89,.nd 93] 83 true (.call 6),cl 95 [.Bu 94,.cv (.int .i64 0)] 83 true (.bin .lss),cl 96 [.Bu 95] 83 true (.un .not),p0 97 [.nd 83,.Bu 96,.cv (.bool false)] .pick]) (.cond (.nd 97) aeI .skip)) aez
noncomputable def aeB:gE :=
 .seq (p2 [p3 68 10,p1 69 68,cl 70 [.nd 11] 69 true .mV,p0 71 [.Bu 69,.Bu 70,.cv (.bool false)] .pick,p1 72 71,cl 73 [.jq 14] 72 true .mV,cl 74 [.Bu 73,.cv (.int .i64 1)] 72 true (.bin .eql),p0 75 [.Bu 72,.Bu 74,.cv (.bool false)] .pick] (.cond (.nd 75) aeH .skip)) aeA
noncomputable def aeC:gE :=
 p2 [p3 48 0,p3 49 1,p3 50 2,p3 51 4,p0 52 [.cv (.func 81 [] []),.jq 48,.jq 49,.jq 50,.jq 51] (.call 1),p1 47 52,qL 53 47 0,p0 54 [.Bu 47] (.ext 1),p1 13 53,p1 14 54] (.seq (p2 [p3 55 14,qw 56 55 2 .eql] (.cond (.nd 56) aeG .skip)) aeB)
noncomputable def Q8:gE :=
 .seq (p2 [p3 31 3,qw 32 31 0 .eql] (.cond (.nd 32) aeD .skip)) (.seq (p2 [p3 38 10,p0 39 [.Bu 38] (.un .not)] (.cond (.nd 39) aeE .skip)) aeC)
noncomputable def MK:gE :=
 .block 1 (p2 [p3 21 2,p3 22 1,qo 23 21 22 .sub,p1 12 23] (.seq (p2 [p3 24 12,qw 25 24 12 .leq] (.cond (.nd 25) MJ .skip)) Q8))
noncomputable def Q7:gE :=
 p2 [p0 10 [.cv (.bool true)] .mV] (p2 [p0 11 [.cv (.bool true)] .mV] (.block 0 (.loop (some (p8 false [0,5,5,2,136])) MK)))
theorem UC:ql Go.Proofs.Try.prog SN 69=some (Q7,148,[]):=by kernel_rfl
noncomputable def aeO:gE :=
 .block 3 (q_ [p3 37 0,p3 38 9,p3 39 0,p3 40 9,qw 41 40 1 .sub,p3 42 0,p3 43 9,qw 44 43 1 .sub,q5 45 42 44 3,p0 46 [.Bu 45] (.zG (.str 3)),p3 47 0,p3 48 9,q5 49 47 48 3,p0 50 [.Bu 49] (.zG (.str 3)),q5 51 37 38 3,⟨none,[.jq 51,.jq 46],none,none,.st 3⟩,q5 52 39 41 3,⟨none,[.jq 52,.jq 50],none,none,.st 3⟩])
noncomputable def aeP:gE :=
 .seq (.seq (q_ [p3 18 9,p3 19 1,qo 20 18 19 .gtr,p1 21 20,cl 22 [.nd 3] 21 true .mV,cl 23 [.nd 0] 21 true .mV,cl 24 [.nd 9] 21 true .mV,cl 25 [.Bu 23,.Bu 24] 21 true (.kZ 3),cl 26 [.Bu 25] 21 true (.zG (.str 3)),cl 27 [.nd 0] 21 true .mV,cl 28 [.nd 9] 21 true .mV,cl 29 [.Bu 28,.cv (.int .i64 1)] 21 true (.bin .sub),cl 30 [.Bu 27,.Bu 29] 21 true (.kZ 3),cl 31 [.Bu 30] 21 true (.zG (.str 3)),cl 32 [.nd 22,.nd 26,.nd 31] 21 true (.call 6),cl 33 [.Bu 32,.cv (.int .i64 0)] 21 true (.bin .lss),p0 34 [.nd 21,.Bu 33,.cv (.bool false)] .pick]) (.cond (.nd 34) .skip (.exit 2))) (.seq aeO (qG [p1 35 9,qw 36 35 1 .sub,p1 9 36]))
noncomputable def aeQ:gE :=
 .block 1 (p2 [p3 17 8,p1 9 17] (.block 2 (.loop (some (p8 false [0,4,4,2,43])) aeP)))
noncomputable def aeR:gE :=
 .seq (p2 [p3 12 8,p3 13 2,qo 14 12 13 .lss] (.cond (.nd 14) .skip (.exit 0))) (.seq aeQ (qG [p1 15 8,qT 16 15 1,p1 8 16]))
noncomputable def Rl:gE :=
 p2 [p3 10 1,qT 11 10 1,p1 8 11] (.block 0 (.loop (some (p8 false [0,4,4,1,44])) aeR))
theorem UE:ql Go.Proofs.Try.prog SU 78=some (Rl,53,[]):=by kernel_rfl
end Go.Proofs.Ytkoioidpbbbaiaa.Ab


namespace Go.Proofs.Ytkoioidpbbbaiaa.Ab
open Go
set_option maxRecDepth 20000
set_option maxHeartbeats 4000000
def qN (S:List qn) (j:Nat):qn:=ix S (j:Int)
def JS (S:List qn) (j:Nat):List qn:=(S.set (j+1) (qN S j)).set j (qN S (j+1))
def Mv (x y:qn):Bool:=decide (w (x.1-y.1)<0)
def H3:Nat→List qn→List qn
 | 0,S=>S
 | j+1,S=>if Mv (qN S (j+1)) (qN S j)=true then H3 j (JS S j) else S
def Iv:Nat→Nat→List qn→List qn
 | 0,_,S=>S
 | m+1,i,S=>Iv m (i+1) (H3 i S)
def rR (S:List qn):List qn:=Iv (S.length-1) 1 S
theorem W1 (S:List qn) (j:Nat):(JS S j).length=S.length:=by simp [JS]
theorem T0:∀ (j:Nat) (S:List qn),(H3 j S).length=S.length
 | 0,S=>rfl
 | j+1,S=>by
   unfold H3;split
   ·rw [T0 j,W1]
   ·rfl
theorem WI (S:List qn) (i:Nat) (c:qn) (h:i<S.length):(((S.flatMap qm).set (i*3) (h0 c.1)).set (i*3+1) (h0 c.2.1)).set (i*3+2) (h0 c.2.2)=(S.set i c).flatMap qm:=by
 induction S generalizing i with
 | nil=>exact absurd h (by simp)
 | cons s S a8 =>
   cases i with
   | zero=>rfl
   | succ i =>
     have:=a8 i (by simpa using h);show (((h0 s.1::h0 s.2.1::h0 s.2.2::S.flatMap qm).set ((i+1)*3) (h0 c.1)).set ((i+1)*3+1) (h0 c.2.1)).set ((i+1)*3+2) (h0 c.2.2)=h0 s.1::h0 s.2.1::h0 s.2.2::(S.set i c).flatMap qm;rw [←this,show (i+1)*3=i*3+1+1+1 by omega];rfl
abbrev Ir (S:List qn):ar:=.cells (S.flatMap qm)
theorem abJ {H:List ar} {id lo n:Nat} (bD:lo≤id) {S:List qn} (aI:S.length=n) (zc:n≤100) (ag:H[id]?=some (Ir S)) :
  Sem Try.prog (.fn 78) [.ref id 0 n none 3,h0 0,h0 n,.func 50 [] []] H lo (.tuple []) (H.set id (Ir (rR S))):=by
 have aE:=(sa.1 ag).1;refine ri eG UE rfl ⟨by simp,fun j ab ae=>by rw [sd (by omega)]⟩ fun Q bp=>?_;have CJ:Nat.ble lo id=true:=tn bD;have gs:∀ c:ar,(H.set id c)[id]?=some c:=fun c=>by rw [sk aE]
 have JG:∀ c e:ar,(H.set id c).set id e=H.set id e:=fun c e=>List.set_set ..;unfold Rl;conv=>whnf
 refine .intro (fun m T H'=>∃ (i:Nat) (S':List qn),1≤i∧(i≤n∨i=1)∧m=n-i∧S'.length=n∧Iv (n-i) i S'=rR S∧T=qa 53 [(0,.ref id 0 n none 3),(1,h0 0),(2,h0 n),(3,.func 50 [] []),(8,h0 i)]∧H'=H.set id (Ir S')) (n-1) ⟨1,S,sc _,.inr rfl,rfl,aI,by rw [←aI];rfl,rfl,?_⟩ ?_
 ·obtain ⟨ab,ae⟩:=sa.1 ag;rw [←ae,List.set_getElem_self]
 rintro m T H' ⟨i,S',abn,abo,rfl,pn,he,rfl,rfl⟩;have Te:i<n→IntKind.i64.wrap ((i:Int)+1)=((i+1:Nat):Int):=fun _=>by rw [Hj _ (by omega) (by omega)];omega
 conv=>whnf
 refine Hm (fun aR=>?_) (fun aR=>?_)
 ·have HB:i<n:=by omega
  conv=>whnf
  refine .intro (fun j T H'=>∃ bL:List qn,j≤i∧bL.length=n∧H3 j bL=H3 i S'∧T=qa 53 [(0,.ref id 0 n none 3),(1,h0 0),(2,h0 n),(3,.func 50 [] []),(8,h0 i),(9,h0 j)]∧H'=H.set id (Ir bL)) i ⟨S',sc _,pn,rfl,rfl,rfl⟩ ?_;rintro j T H' ⟨bL,aw,PF,KE,rfl,rfl⟩;have pF:(bL.flatMap qm).length=bL.length*3:=Ii qm 3 (fun _=>rfl) bL;conv=>whnf
  cases j with
  | zero =>
    (conv=>whnf);refine ⟨n-(i+1),by omega,i+1,bL,by omega,by omega,rfl,PF,?_,by rw [Te HB];rfl,rfl⟩;rw [←he,show n-i=(n-(i+1))+1 by omega];show _=Iv (n-(i+1)) (i+1) (H3 i S');rw [←KE];rfl
  | succ y =>
    (have hw:IntKind.i64.wrap (((y+1:Nat):Int)-1)=(y:Int):=by rw [Hj _ (by omega) (by omega)];omega);rw [decide_eq_true (show (0:Int)<((y+1:Nat):Int) by omega)];(conv=>whnf);refine ⟨by omega,?_⟩;(conv=>whnf);refine Ex (gs _) ?_;(have gM:0≤((y+1:Nat):Int)∧((y+1:Nat):Int)<(bL.length:Int):=by omega);(have iS:0≤(y:Int)∧(y:Int)<(bL.length:Int):=by omega);(conv=>whnf);refine N7 qm 3 HV bL ((y+1:Nat):Int) gM rfl ?_;(conv=>whnf);refine JQ qm 3 HV bL ((y+1:Nat):Int) gM 1 rfl ?_;(conv=>whnf);refine JQ qm 3 HV bL ((y+1:Nat):Int) gM 2 rfl ?_;(conv=>whnf);rw [hw];refine ⟨by omega,?_⟩;(conv=>whnf);refine Ex (gs _) ?_;(conv=>whnf);refine N7 qm 3 HV bL (y:Int) iS rfl ?_;(conv=>whnf);refine JQ qm 3 HV bL (y:Int) iS 1 rfl ?_;(conv=>whnf);refine JQ qm 3 HV bL (y:Int) iS 2 rfl ?_;(conv=>whnf);refine ⟨p5 (HU (p5 rfl (p5 rfl (p5 rfl rfl)))) (p5 (HU (p5 rfl (p5 rfl (p5 rfl rfl)))) rfl),[.agg [h0 (qN bL (y+1)).1,h0 (qN bL (y+1)).2.1,h0 (qN bL (y+1)).2.2],.agg [h0 (qN bL y).1,h0 (qN bL y).2.1,h0 (qN bL y).2.2]],rfl,h0 (w ((qN bL (y+1)).1-(qN bL y).1)),rfl,agM rfl,Hi,?_⟩;(conv=>whnf);have mw:decide (w ((qN bL (y+1)).1-(qN bL y).1)<0)=Mv (qN bL (y+1)) (qN bL y):=rfl;rw [mw];have h':H3 (y+1) bL=if Mv (qN bL (y+1)) (qN bL y)=true then H3 y (JS bL y) else bL:=rfl;cases ak:Mv (qN bL (y+1)) (qN bL y) with
    | false =>
      rw [ak,if_neg (by decide)] at h';(conv=>whnf);refine ⟨n-(i+1),by omega,i+1,bL,by omega,by omega,rfl,PF,?_,by rw [Te HB];rfl,rfl⟩;rw [←he,show n-i=(n-(i+1))+1 by omega];show _=Iv (n-(i+1)) (i+1) (H3 i S');rw [←KE,h']
    | true =>
      rw [ak,if_pos rfl] at h';(conv=>whnf);rw [hw];refine ⟨by omega,?_⟩;(conv=>whnf);refine Ex (gs _) ?_;(conv=>whnf);refine N7 qm 3 HV bL (y:Int) iS rfl ?_;(conv=>whnf);refine JQ qm 3 HV bL (y:Int) iS 1 rfl ?_;(conv=>whnf);refine JQ qm 3 HV bL (y:Int) iS 2 rfl ?_;(conv=>whnf);refine ⟨by omega,?_⟩;(conv=>whnf);refine Ex (gs _) ?_;(conv=>whnf);refine N7 qm 3 HV bL ((y+1:Nat):Int) gM rfl ?_;(conv=>whnf);refine JQ qm 3 HV bL ((y+1:Nat):Int) gM 1 rfl ?_;(conv=>whnf);refine JQ qm 3 HV bL ((y+1:Nat):Int) gM 2 rfl ?_;(conv=>whnf);refine ⟨by omega,?_⟩;(conv=>whnf);rw [CJ];refine Ex (gs _) ?_;(conv=>whnf);rw [show 0+((y+1:Nat):Int).toNat*3=(y+1)*3 by omega];refine Gp (by omega) ?_;(conv=>whnf);refine Gp (by rw [s6];omega) ?_;(conv=>whnf);refine Gp (by rw [s6,s6];omega) ?_;(conv=>whnf);have e1:=WI bL (y+1) (qN bL y) (by omega);obtain ⟨jz,J6⟩:∃ jz,jz=bL.set (y+1) (qN bL y):=⟨_,rfl⟩;(have JJ:jz.length=n:=by rw [J6,s6];exact PF);rw [←J6] at e1;have ahv:(jz.flatMap qm).length=jz.length*3:=Ii qm 3 (fun _=>rfl) jz;erw [e1,JG];refine ⟨by omega,?_⟩;(conv=>whnf);rw [CJ];refine Ex (gs _) ?_;(conv=>whnf);rw [show 0+(y:Int).toNat*3=y*3 by omega];refine Gp (by omega) ?_;(conv=>whnf);refine Gp (by rw [s6];omega) ?_;(conv=>whnf);refine Gp (by rw [s6,s6];omega) ?_;(conv=>whnf);have b':=WI jz y (qN bL (y+1)) (by omega);erw [b',JG];(conv=>whnf);rw [hw];refine ⟨y,by omega,jz.set y (qN bL (y+1)),by omega,by rw [s6];exact JJ,?_,rfl,rfl⟩;rw [←KE,h',J6];rfl
 ·have bk:n-i=0:=by omega
  rw [bk] at he;have he:S'=rR S:=he;subst he;conv=>whnf
  exact bp _ _ _ ⟨.inl rfl,lJ.refl _,rfl⟩
theorem adC {H:List ar} {id lo n:Nat} (bD:lo≤id) {S:List qn} {Jc:Int} (aI:S.length=n) (zc:n≤12) (ag:H[id]?=some (Ir S)) :
  Sem Try.prog (.fn 69) [.ref id 0 n none 3,h0 0,h0 n,h0 Jc,.func 50 [] []] H lo (.tuple []) (H.set id (Ir (rR S))):=by
 refine ri eG UC rfl ⟨by simp,fun j ab ae=>by rw [sd (by omega)]⟩ fun Q bp=>?_;unfold Q7;obtain ⟨Pn,I9⟩:∃ c,MK=c:=⟨_,rfl⟩;rw [I9];conv=>whnf
 refine .intro (fun m T H'=>T=qa 148 [(0,.ref id 0 n none 3),(1,h0 0),(2,h0 n),(3,h0 Jc),(4,.func 50 [] []),(10,B true),(11,B true)]∧H'=H) 0 ⟨rfl,rfl⟩ ?_;rintro m T H' ⟨rfl,rfl⟩;subst I9;unfold MK;obtain ⟨a7,cf⟩:∃ c,MJ=c:=⟨_,rfl⟩;obtain ⟨Pm,Kz⟩:∃ c,Q8=c:=⟨_,rfl⟩;rw [cf,Kz];conv=>whnf
 rw [show IntKind.i64.wrap ((n:Int)-0)=(n:Int) by rw [Hj _ (by omega) (by omega)];omega,decide_eq_true (show (n:Int)≤12 by omega)];conv=>whnf
 subst cf;unfold MJ;conv=>whnf
 refine ⟨_,_,re (abJ bD aI (by omega) ag),?_⟩;conv=>whnf
 exact bp _ _ _ ⟨.inr rfl,lJ.refl _,rfl⟩
theorem aff {H:List ar} {id lo n:Nat} (bD:lo≤id) {S:List qn} (aI:S.length=n) (zc:n≤12) (ag:H[id]?=some (Ir S)) :
  Sem Try.prog (.fn 49) [.ref id 0 n none 3,.func 50 [] []] H lo (.tuple []) (H.set id (Ir (rR S))):=by
 refine ri eG Uz rfl ⟨by simp,fun j ab ae=>by rw [sd (by omega)]⟩ fun Q bp=>?_;unfold QY;conv=>whnf
 rw [show IntKind.u64.wrap (n:Int)=(n:Int) by rw [Xr];omega];refine ⟨by first | rfl | simp only [tA,t_,LA,LJ,LB,LD,LC,LF,LL,LK,JO,LG,LH,LI,tu,tX],_,Ni n zc,?_⟩
 conv=>whnf
 refine ⟨_,_,re (adC bD aI zc ag),?_⟩;conv=>whnf
 exact bp _ _ _ ⟨.inl rfl,lJ.refl _,rfl⟩
section
variable {H:List ar} {lo:Nat}
theorem abK:Sem Try.prog (.fn 78) [.av [] 0 .shared,h0 0,h0 0,.func 50 [] []] H lo (.tuple []) H:=by
 refine ri eG UE rfl (ba.refl _ _) fun Q bp=>?_;unfold Rl;conv=>whnf
 refine .intro (fun m T H'=>T=qa 53 [(0,.av [] 0 .shared),(1,h0 0),(2,h0 0),(3,.func 50 [] []),(8,h0 1)]∧H=H') 0 ⟨rfl,rfl⟩ ?_;rintro m T H' ⟨rfl,rfl⟩;conv=>whnf
 exact bp _ _ _ ⟨.inl rfl,lJ.refl _,rfl⟩
theorem adD {Jc:Int}:Sem Try.prog (.fn 69) [.av [] 0 .shared,h0 0,h0 0,h0 Jc,.func 50 [] []] H lo (.tuple []) H:=by
 refine ri eG UC rfl (ba.refl _ _) fun Q bp=>?_;unfold Q7;obtain ⟨Pn,I9⟩:∃ c,MK=c:=⟨_,rfl⟩;rw [I9];conv=>whnf
 refine .intro (fun m T H'=>T=qa 148 [(0,.av [] 0 .shared),(1,h0 0),(2,h0 0),(3,h0 Jc),(4,.func 50 [] []),(10,B true),(11,B true)]∧H'=H) 0 ⟨rfl,rfl⟩ ?_;rintro m T H' ⟨rfl,rfl⟩;subst I9;unfold MK;obtain ⟨a7,cf⟩:∃ c,MJ=c:=⟨_,rfl⟩;obtain ⟨Pm,Kz⟩:∃ c,Q8=c:=⟨_,rfl⟩;rw [cf,Kz];conv=>whnf
 subst cf;unfold MJ;conv=>whnf
 refine ⟨_,_,re abK,?_⟩;conv=>whnf
 exact bp _ _ _ ⟨.inr rfl,lJ.refl _,rfl⟩
theorem afg:Sem Try.prog (.fn 49) [.av [] 0 .shared,.func 50 [] []] H lo (.tuple []) H:=by
 refine ri eG Uz rfl (ba.refl _ _) fun Q bp=>?_;unfold QY;conv=>whnf
 refine ⟨by first | rfl | simp only [tA,t_,LA,LJ,LB,LD,LC,LF,LL,LK,JO,LG,LH,LI,tu,tX],_,Ni 0 (by decide),?_⟩
 conv=>whnf
 refine ⟨_,_,re adD,?_⟩;conv=>whnf
 exact bp _ _ _ ⟨.inl rfl,lJ.refl _,rfl⟩
end

abbrev Ld (p:p_) (p':List (List Int)):List I:=[(.agg [(.av (p.1.flatMap p7) p.1.length .shared),(h0 p.2.1),(h0 p.2.2)]),(.av (p'.map oY) p'.length (.uniq 1))]
theorem agB {eK:(List Int)} {rC:Unit→Option ((Option (((List (Int×Int))×(Int×Int))×Unit))×Int)} {s2:Int} {p:((List (Int×Int))×(Int×Int))} {p':(List (List Int))} {s1:Int} {v:((Option (((List (Int×Int))×(Int×Int))×Unit))×Int)} {Q:cQ→List I→List ar→Prop}   (jK:∀ (e:Int) (T:List I),v=(none,e)→rF [rv p] T [.tmp 4,.tmp 5]=some [.eI,h0 e]→Q .ret T [rv p]) (JI:∀ (qe:List I),rC ()=some v→rm 48 [(2,(.ptr 0 0)),(8,(.av ((ix p' s1).map h0) (ix p' s1).length .shared)),(17,(.av (p'.map oY) p'.length (.own 1))),(18,(h0 (p'.length:Int))),(19,(h0 s1))] qe→Q (.exit 2) qe [ar.cells [(.av (p.1.flatMap p7) p.1.length .shared),(h0 p.2.1),(h0 p.2.2)]]) {T:List I} (b0:eZ [false,false,true,false,false,false,false,false,true,false,false,false,false,false,false,false,false,true,true,true,false,false,false,false,false,false,true,true,true,false,false,false,false,false,false,false,false,false,false,false,false,false,false,false,false,false,false,false] T=qa 48 [(2,(.ptr 0 0)),(8,(.av ((ix p' s1).map h0) (ix p' s1).length .shared)),(17,(.av (p'.map oY) p'.length (.own 1))),(18,(h0 (p'.length:Int))),(19,(h0 s1)),(26,(.av (eK.map h0) eK.length .shared)),(27,(h0 (eK.length:Int))),(28,(h0 s2))]) (h:Iq eK rC qk s2=some v) :
  dQ Try.prog J1 36 0 none JB T [ar.cells [(.av (p.1.flatMap p7) p.1.length .shared),(h0 p.2.1),(h0 p.2.2)]] Q:=by
 unfold JB;skip;refine wp_loop b0 ?_;refine .intro (fun m T H=>∃ (s2:Int),T=qa 48 [(2,(.ptr 0 0)),(8,(.av ((ix p' s1).map h0) (ix p' s1).length .shared)),(17,(.av (p'.map oY) p'.length (.own 1))),(18,(h0 (p'.length:Int))),(19,(h0 s1)),(26,(.av (eK.map h0) eK.length .shared)),(27,(h0 (eK.length:Int))),(28,(h0 s2))]∧H=[ar.cells [(.av (p.1.flatMap p7) p.1.length .shared),(h0 p.2.1),(h0 p.2.2)]]∧Iq eK rC m s2=some v) qk ⟨s2,rfl,rfl,h⟩ ?_;clear h b0;rintro m T H ⟨s2,rfl,rfl,h⟩;cases m
 ·exact rT h
 rename_i m;rw [Iq.eq_2] at h;conv=>whnf
 refine bs h (fun qX h=>?_) fun qX h=>?_
 ·rw [qX];conv=>whnf
  refine qV h id fun Hr h=>?_;rw [rb h0 eK s2 Hr];conv=>whnf
  refine bs h (fun rN h=>?_) fun rN h=>?_
  ·rw [rN];(conv=>whnf);obtain rfl:=Option.some.inj h;exact jK _ _ rfl rfl
  ·rw [rN];(conv=>whnf);exact ⟨m,sG m,(w (s2+(1:Int))),rfl,rfl,h⟩
 ·rw [qX];conv=>whnf
  exact JI  _ h ⟨rfl,rfl⟩
theorem XD {p:((List (Int×Int))×(Int×Int))} {p':(List (List Int))} {qd:Unit→Option ((Option (((List (Int×Int))×(Int×Int))×Unit))×Int)} {s1:Int} {v:((Option (((List (Int×Int))×(Int×Int))×Unit))×Int)} {Q:cQ→List I→List ar→Prop}   (jK:∀ (e:Int) (T:List I),v=(none,e)→rF [rv p] T [.tmp 4,.tmp 5]=some [.eI,h0 e]→Q .ret T [rv p]) (rn:∀ (qe:List I),qd ()=some v→rm 48 [(2,(.ptr 0 0))] qe→Q (.exit 0) qe [ar.cells [(.av (p.1.flatMap p7) p.1.length .shared),(h0 p.2.1),(h0 p.2.2)]]) {T:List I} (b0:eZ [false,false,true,false,false,false,false,false,false,false,false,false,false,false,false,false,false,true,true,true,false,false,false,false,false,false,false,false,false,false,false,false,false,false,false,false,false,false,false,false,false,false,false,false,false,false,false,false] T=qa 48 [(2,(.ptr 0 0)),(17,(.av (p'.map oY) p'.length (.own 1))),(18,(h0 (p'.length:Int))),(19,(h0 s1))]) (h:Hw p p' qd qk s1=some v) :
  dQ Try.prog J1 36 0 none I4 T [ar.cells [(.av (p.1.flatMap p7) p.1.length .shared),(h0 p.2.1),(h0 p.2.2)]] Q:=by
 unfold I4;obtain ⟨HY,qF⟩:∃ c,JB=c:=⟨_,rfl⟩;rw [qF];refine wp_loop b0 ?_;refine .intro (fun m T H=>∃ (s1:Int),T=qa 48 [(2,(.ptr 0 0)),(17,(.av (p'.map oY) p'.length (.own 1))),(18,(h0 (p'.length:Int))),(19,(h0 s1))]∧H=[ar.cells [(.av (p.1.flatMap p7) p.1.length .shared),(h0 p.2.1),(h0 p.2.2)]]∧Hw p p' qd m s1=some v) qk ⟨s1,rfl,rfl,h⟩ ?_;clear h b0;rintro m T H ⟨s1,rfl,rfl,h⟩;cases m
 ·exact rT h
 rename_i m;rw [Hw.eq_2] at h;conv=>whnf
 refine bs h (fun qs h=>?_) fun qs h=>?_
 ·rw [qs];conv=>whnf
  refine qV h id fun qP h=>?_;rw [rb oY p' s1 qP];conv=>whnf
  obtain ⟨bj,rj,h⟩:=p9 h;refine ⟨qi.pl,_,RO rj,?_⟩;conv=>whnf
  obtain ⟨eK,rU,h⟩:=p9 h;refine ⟨(p5 (IM rfl (p5 (Ic (p5 (rA (fun _=>rfl) _ _ _) rfl)) rfl)) rfl),_,RN  rU,?_⟩;conv=>whnf
  subst qF;refine agB ?_ ?_ (by exact rfl) h
  ·exact fun e T bE ai=>jK e T bE ai
  ·intro  qe h qA;obtain ⟨rG,rfl⟩:=qA.ex;(conv=>whnf);refine bs h (fun Hq h=>?_) fun Hq h=>?_
   ·rw [Hq];(conv=>whnf);obtain rfl:=Option.some.inj h;exact jK _ _ rfl rfl
   ·rw [Hq];(conv=>whnf);exact ⟨m,sG m,(w (s1+(1:Int))),rfl,rfl,h⟩
 ·rw [qs];conv=>whnf
  exact rn  _ h ⟨rfl,rfl⟩
theorem agx {p:p_} {p':List (List Int)} {e:Int} (h:rD p p'=some (none,e)):Sem Try.prog (.fn 36) (Ld p p') [] 0 (.tuple [.eI,h0 e]) [rv p]:=by
 refine ri eG Mw rfl (Ix (sD _)) fun Q bp=>?_;have jK:∀ (cV:Int) (T:List I),((none,e):Option (p_×Unit)×Int)=(none,cV)→rF [rv p] T [.tmp 4,.tmp 5]=some [.eI,h0 cV]→Q .ret T [rv p]:=fun cV T he ai=>by
  obtain rfl:=(Prod.mk.inj he).2;exact bp _ _ _ ⟨.inr rfl,lJ.refl _,by rw [ai];rfl⟩
 unfold rD at h;unfold Mb;obtain ⟨Kx,rM⟩:∃ c,I4=c:=⟨_,rfl⟩;rw [rM];conv=>whnf
 obtain ⟨aS,gM,h⟩:=p9 h;refine ⟨qi.pl,_,M7 gM,?_⟩;conv=>whnf
 refine bs h (fun gN h=>?_) fun gN h=>?_
 ·rw [gN];conv=>whnf
  obtain rfl:aS=e:=(Prod.mk.inj (Option.some.inj h)).2;exact jK _ _ rfl rfl
 ·rw [gN];conv=>whnf
  subst rM;refine XD ?_ ?_ (by exact rfl) h
  ·exact fun e T bE ai=>jK e T bE ai
  ·intro  qe h qA;exact absurd (Prod.mk.inj (Option.some.inj h)).1 (by simp)
theorem agC {p:p_} {p':List (List Int)} {t:p_×Unit} {e:Int} (h:rD p p'=some (some t,e)):t=(p,())∧e=0∧Sem Try.prog (.fn 36) (Ld p p') [] 0 (.tuple [.ptr 2 0,h0 0]) [rv p,.map [] 0,.cells [(.av (p.1.flatMap p7) p.1.length .shared),(h0 p.2.1),(h0 p.2.2),.map 1]]:=by
 have ad:t=(p,())∧e=0:=by
  have aX:=h;unfold rD at aX;obtain ⟨aS,gM,aX⟩:=p9 aX;split at aX
  ·cases aX
  ·exact Uf aX
 obtain ⟨rfl,rfl⟩:=ad;refine ⟨rfl,rfl,?_⟩;refine ri eG Mw rfl (Ix (sD _)) fun Q bp=>?_;unfold rD at h;unfold Mb;obtain ⟨Kx,rM⟩:∃ c,I4=c:=⟨_,rfl⟩;rw [rM];conv=>whnf
 obtain ⟨aS,gM,h⟩:=p9 h;refine ⟨qi.pl,_,M7 gM,?_⟩;conv=>whnf
 refine bs h (fun gN h=>?_) fun gN h=>?_
 ·exact absurd (Prod.mk.inj (Option.some.inj h)).1 (by simp)
 ·rw [gN];conv=>whnf
  subst rM;refine XD ?_ ?_ (by exact rfl) h
  ·exact fun e T bE ai=>absurd (Prod.mk.inj bE).1 (by simp)
  ·intro  qe h qA;obtain ⟨rG,rfl⟩:=qA.ex;(conv=>whnf);exact bp _ _ _ ⟨.inr rfl,lJ.refl _,rfl⟩
section
variable {p:p_} {p':List (List Int)}
theorem ZK {e:Int} {lo:Nat} (h:rD p p'=some (none,e)):oW Try.prog 8 lo (.fn 36) (Ld p p') [] (.tuple [.eI,h0 e]) [] :=
 ⟨_,EC (agx h),by
  show (k_ _ _ _ _ _ _ (.fn 36) (Ld p p') [] 0).bind _=_
  rw [EB];rfl⟩
theorem ZM {t:p_×Unit} {e:Int} {lo:Nat} (h:rD p p'=some (some t,e)):oW Try.prog 8 lo (.fn 36) (Ld p p') [] (.tuple [.bS [(.av (p.1.flatMap p7) p.1.length .shared),(h0 p.2.1),(h0 p.2.2),.map 0],h0 0]) [.map [] 0] :=
 ⟨_,EC (agC h).2.2,by
  show (k_ _ _ _ _ _ _ (.fn 36) (Ld p p') [] 0).bind _=_;rw [EB];have e1:ea (bM [rv p,.map [] 0,.cells [(.av (p.1.flatMap p7) p.1.length .shared),(h0 p.2.1),(h0 p.2.2),.map 1]] 0 1 0 6) [(.av (p.1.flatMap p7) p.1.length .shared),(h0 p.2.1),(h0 p.2.2),.map 1]=some [(.av (p.1.flatMap p7) p.1.length .shared),(h0 p.2.1),(h0 p.2.2),.map 0] :=
   rk (yY (Hv (fun _=>p5 rfl (p5 rfl rfl)) _ _ _)) (rk (yY rfl) (rk (yY rfl) (rk rfl Iy)))
  have b':bM [rv p,.map [] 0,.cells [(.av (p.1.flatMap p7) p.1.length .shared),(h0 p.2.1),(h0 p.2.2),.map 1]] 0 1 0 8 (.tuple [.ptr 2 0,h0 0])=some (.tuple [.bS [(.av (p.1.flatMap p7) p.1.length .shared),(h0 p.2.1),(h0 p.2.2),.map 0],h0 0]) :=
   Mk (rk (show (ea (bM [rv p,.map [] 0,.cells [(.av (p.1.flatMap p7) p.1.length .shared),(h0 p.2.1),(h0 p.2.2),.map 1]] 0 1 0 6) [(.av (p.1.flatMap p7) p.1.length .shared),(h0 p.2.1),(h0 p.2.2),.map 1]).map I.bS=_ by rw [e1];rfl) (rk rfl Iy))
  show (match mapM (bM [rv p,.map [] 0,.cells [(.av (p.1.flatMap p7) p.1.length .shared),(h0 p.2.1),(h0 p.2.2),.map 1]] 0 1 0 8) [],bM [rv p,.map [] 0,.cells [(.av (p.1.flatMap p7) p.1.length .shared),(h0 p.2.1),(h0 p.2.2),.map 1]] 0 1 0 8 (.tuple [.ptr 2 0,h0 0]) with | some es',some v=>some (v,[]++[ar.map es' 0]) | _,_=>none)=_
  rw [b'];rfl⟩
end
end Go.Proofs.Ytkoioidpbbbaiaa.Ab


namespace Go.Proofs.Ytkoioidpbbbaiaa.Ab
open Go
noncomputable def QN:gE :=
 p2 [p3 33 9, p1 34 8, p0 35 [.jq 33, .jq 34] (.other (Oper.mk (some 35) (Op.call (Call.mk (Callee.builtin Builtin.copy) (Array.mk [Operand.tmp 33, Operand.tmp 34]) (Array.mk [43, 43]))) 3 "curl.go:142" (Array.mk [Edge.mk 0 Ground.data, Edge.mk 1 Ground.data]) none) 0)] (p2 [p1 36 9, p1 4 36, qc 5 0] .ret)
noncomputable def ME:gE :=
 p2 [p3 30 8,qU 31 30,p0 32 [.nd 31,.Bu 31] (.z3 [.int .i64 0,.int .i64 0,.int .i64 0] 3 24),p1 9 32] QN
noncomputable def KL:gE :=
 p2 [p3 28 8,p0 29 [.cv (.func 49 [] []),.jq 28,.cv (.func 50 [] [])] (.call 1)] ME
noncomputable def QO:gE :=
 p2 [p3 20 6,p3 21 1,p0 22 [.cv (.func 48 [] []),.jq 20,.jq 21,.cv (.int .i64 0)] (.call 1),p1 23 6,p1 24 1,p0 25 [.cv (.func 48 [] []),.jq 23,.jq 24,.cv (.int .i64 1)] (.call 1),p0 26 [.Bu 22,.Bu 25] (.yD 2 1 [.av [] 0 .full] [0,1]),p0 27 [.cv (.func 47 [] []),.jq 26] (.call 1),⟨some 8,[.jq 27],none,some 27,.Bs⟩] KL
noncomputable def VT:gE :=
 .seq (p2 [p3 17 7,qw 18 17 0 .neq] (.cond (.nd 18) (p2 [p1 19 7,p0 4 [.cv (.av [] 0 .full)] (.nil 3),p1 5 19] .ret) .skip)) QO
noncomputable def VU:gE :=
 p2 [p0 11 [.Bu 2] (.zG (.str 3)),p3 12 1,p0 13 [.Bu 12] (.yD 1 1 [.av [] 0 .full] [0]),p0 14 [.cv (.func 36 [] []),.jq 11,.jq 13] (.call 8),p1 10 14,qL 15 10 0,p0 16 [.Bu 10] (.ext 1),p1 6 15,p1 7 16] VT
noncomputable def VS:gE :=
 p2 [p0 2 [.jq 0] .yA,p0 4 [.cv (.av [] 0 .full)] (.nil 3),qc 5 0] VU
theorem ab8:ql Go.Proofs.Try.prog Nf 22=some (VS,37,[.tmp 4,.tmp 5]):=by kernel_rfl
end Go.Proofs.Ytkoioidpbbbaiaa.Ab


namespace Go.Proofs.Ytkoioidpbbbaiaa.Ab
open Go
set_option maxRecDepth 20000
set_option maxHeartbeats 4000000
def KW (p:p_) (order:List Int):Option (List qn×Int) :=
 (rD p [order]).bind fun r=>match r with
 | (none,q)=>if decide (q≠0)=true then some ([],q) else none
 | (some b,_)=>(Kn b order 0).bind fun l1=>(Kn b order 1).bind fun l2=>qy (l1.length+l2.length≤12) <| some (rR (l1++l2),0)
theorem aap (b:rQ):HR b 0 [.map [] 0]:=⟨[],0,rfl,fun e he=>absurd he (by simp)⟩
theorem T2:∀ (m i:Nat) (S:List qn),(Iv m i S).length=S.length
 | 0,_,_=>rfl
 | m+1,i,S=>by unfold Iv;rw [T2 m,T0]
theorem WR (S:List qn):(rR S).length=S.length:=T2 _ _ _
theorem aeT (n:Nat) {a b c:I}:(e_ n [a,b,c]).length=n*3:=by
 induction n with
 | zero=>rfl
 | succ n a8=>show ([a,b,c]++e_ n [a,b,c]).length=_;rw [sy,a8];simp;omega
theorem Ww {S:List qn} {H:List ar} {id n:Nat} {cap:Option Nat} (ag:H[id]?=some (Ir S)) (aI:S.length=n):rowOf H (.ref id 0 n cap 3)=some (S.flatMap qm):=by
 have ao:(S.flatMap qm).length=S.length*3:=Ii qm 3 (fun _=>rfl) S;simp only [rowOf,ag,sB,tq];rw [if_pos (by omega),tg (by omega),Qm (Xn (f:=qm) (fun _=>MV rfl (MV rfl (MV rfl Xo))) S)]
theorem afb {vs cs:List I} (h:vs.length=cs.length):setCells 0 vs cs=vs:=by
 apply List.ext_getElem?;intro j;rw [na _ _ _ _ (by omega)];by_cases aw:j<vs.length
 ·rw [if_pos ⟨by omega,by omega⟩];simp
 ·rw [if_neg (by omega),uQ (by omega),uQ (by omega)]
theorem Z8 {P:Program} {lo a b n:Nat} {H:List ar} {S:List qn} {cells:List I} {cap:Option Nat} {e:TypeId} {ts:Array TypeId} (e1:(ts[0]?).bind P.underlying=some (.slice e)) (b':bF P e=some 3) (bD:lo≤a)
  (af:H[b]?=some (Ir S)) (aI:S.length=n) (cu:H[a]?=some (.cells cells)) (ak:cells.length=n*3):j' P lo ts H [.ref a 0 n (some n) 3,.ref b 0 n cap 3]=some (.int .i64 (n:Int),H.set a (Ir S)):=by
 have ao:(S.flatMap qm).length=S.length*3:=Ii qm 3 (fun _=>rfl) S;have cI:=Ww (cap:=cap) af aI;unfold j';simp only [e1,b',lenOf,cI,fS,cu,if_pos bD];rw [if_pos ⟨trivial,by omega⟩,if_pos (by omega),Nat.min_self,tg (by omega),afb (by omega)];rfl
theorem Ts {S:List qn} {H:List ar} {id n d:Nat} {cap:Option Nat} (aE:id<H.length) (ag:H[id]?=some (Ir S)) (aI:S.length=n):bM H 0 H.length 0 (d+2) (.ref id 0 n cap 3)=some (.av (S.flatMap qm) n (e3 cap n)):=by
 show (if id<0 then some (I.ref id 0 n cap 3) else if id=H.length then some (.ref 0 0 n cap 3) else match rowOf H (.ref id 0 n cap 3) with | some row=>(ea (bM H 0 H.length 0 (d+1)) row).map fun cs=>.av cs n (e3 cap n) | none=>none)=_;rw [if_neg (by omega),if_neg (by omega),Ww ag aI];have l3:ea (bM H 0 H.length 0 (d+1)) (S.flatMap qm)=some (S.flatMap qm):=zW fun u hu=>by
  obtain ⟨x,_,aj⟩:=List.mem_flatMap.1 hu;simp only [qm,sA,tS,or_false] at aj;rcases aj with rfl | rfl | rfl <;> rfl
 simp only [l3,Option.map_some]
theorem aft {H2:List ar} {L:List qn} (fq:L.length≤12) {Rx:I} {Q:cQ→List I→List ar→Prop}
  (bp:∀ T H,Hl [.tmp 4,.tmp 5] (.tuple [.av ((rR L).flatMap qm) (rR L).length .shared,h0 0]) .ret T H→Q .ret T H) :
  dQ Try.prog Nf 22 0 none KL (qa 37 [(4,.av [] 0 (.uniq 3)),(5,h0 0),(7,h0 0),(8,.ref H2.length 0 L.length none 3),(18,Rx),(27,.ref H2.length 0 L.length none 3)]) (H2++[Ir L]) Q:=by
 have DH:(rR L).length=L.length:=WR L;unfold KL;obtain ⟨a9,ca⟩:∃ c,ME=c:=⟨_,rfl⟩;rw [ca];conv=>whnf
 refine ⟨_,_,re (aff (sD _) rfl fq (IJ _ _)),?_⟩;rw [HQ];conv=>whnf
 subst ca;unfold ME QN;conv=>whnf
 refine ⟨by omega,sU _,by omega,?_⟩;conv=>whnf
 rw [tw];refine ⟨_,_,fun C=>(U3 rfl).trans (Z8 (e:=54) (S:=rR L) (by kernel_rfl) (by kernel_rfl) (sD _) (by exact TI (IJ _ _)) DH (IJ _ _) (aeT _)),?_⟩;conv=>whnf
 rw [HQ];refine bp _ _ ⟨.inr rfl,[.ref (H2++[Ir (rR L)]).length 0 L.length (some L.length) 3,h0 0],rfl,_,Mk (rk (Ts (S:=rR L) (by simp) (IJ _ _) DH) (rk (yY rfl) Iy)),?_⟩;have e1:e3 (some L.length) L.length=.full:=by simp [e3]
 rw [e1,DH];rfl
theorem Z9 {P:Program} {lo a:Nat} {H:List ar} {cap:Option Nat} {c:hE} {e:TypeId} {ts:Array TypeId} (e1:(ts[0]?).bind P.underlying=some (.slice e)) (b':bF P e=some 3) (bD:lo≤a) (cu:H[a]?=some (.cells [])):j' P lo ts H [.ref a 0 0 cap 3,.av [] 0 c]=some (.int .i64 0,H.set a (.cells [])):=by
 unfold j';simp only [e1,b',lenOf,rowOf,fS,cu,if_pos bD];rfl
theorem afu {H2:List ar} {Rx:I} {Q:cQ→List I→List ar→Prop}
  (bp:∀ T H,Hl [.tmp 4,.tmp 5] (.tuple [.av (([]:List qn).flatMap qm) ([]:List qn).length .shared,h0 0]) .ret T H→Q .ret T H) :
  dQ Try.prog Nf 22 0 none KL (qa 37 [(4,.av [] 0 (.uniq 3)),(5,h0 0),(7,h0 0),(8,.av [] 0 (.uniq 3)),(18,Rx),(27,.av [] 0 .shared)]) H2 Q:=by
 unfold KL;obtain ⟨a9,ca⟩:∃ c,ME=c:=⟨_,rfl⟩;rw [ca];conv=>whnf
 refine ⟨_,_,re afg,?_⟩;conv=>whnf
 subst ca;unfold ME QN;conv=>whnf
 refine ⟨by omega,sU _,by omega,?_⟩;conv=>whnf
 refine ⟨_,_,fun C=>(U3 rfl).trans (Z9 (e:=54) (a:=H2.length) (by kernel_rfl) (by kernel_rfl) (sD _) (IJ _ _)),?_⟩;conv=>whnf
 rw [HQ];refine bp _ _ ⟨.inr rfl,[.ref H2.length 0 0 (some 0) 3,h0 0],rfl,_,Mk (rk (Ts (S:=[]) (by simp) (IJ _ _) rfl) (rk (yY rfl) Iy)),rfl⟩
theorem Xv {p:p_} {order:List Int} {v:List qn×Int} (h:KW p order=some v):qu 22 [.agg [.av (p.1.flatMap p7) p.1.length .shared,h0 p.2.1,h0 p.2.2],.av (order.map h0) order.length .shared] (.tuple [.av (v.1.flatMap qm) v.1.length .shared,h0 v.2]):=by
 unfold KW at h;obtain ⟨⟨aS,bj⟩,ai,h⟩:=p9 h;refine qH eG ab8 rfl (Jf (p5 (Hv (fun _=>p5 rfl (p5 rfl (p5 rfl rfl))) _ _ _) (p5 rfl rfl))) fun Q bp=>?_;have jK:∀ T H,Hl [.tmp 4,.tmp 5] (.tuple [.av (v.1.flatMap qm) v.1.length .shared,h0 v.2]) .ret T H→Q .ret T H:=fun T H bE=>bp _ T H bE;unfold VS VU VT;obtain ⟨bt,eS⟩:∃ c,QO=c:=⟨_,rfl⟩;rw [eS];conv=>whnf
 refine ⟨rfl,?_⟩;conv=>whnf
 rcases aS with _ | b
 ·refine ⟨_,_,ZK ai,?_⟩;conv=>whnf
  refine bs h (fun af h=>?_) fun af h=>?_
  ·rw [af];(conv=>whnf);obtain rfl:=Option.some.inj h;exact jK _ _ (Ie rfl rfl)
  ·cases h
 ·obtain ⟨rfl,rfl,_⟩:=MY ai;refine ⟨_,_,ZM ai,?_⟩;obtain ⟨l1,ab,h⟩:=p9 h;obtain ⟨l2,ae,h⟩:=p9 h;obtain ⟨aI,h⟩:=rL h;obtain rfl:=Option.some.inj h;obtain ⟨H1,aJ,Db,f1,e1,s1⟩:=XL ab (m:=0) (lo:=0) (sc 0) (aap (p,()));obtain ⟨H2,aN,pP,f2,b',s2⟩:=XL ae (m:=0) (lo:=0) (sc 0) f1;have bn:=Z6 (l1:=l1) (l2:=l2) (H:=H2) (lo:=0) (by omega);subst eS;unfold QO;by_cases he:(l1++l2).length≠0
  ·rcases Db with rfl | rfl | rfl <;> rcases pP with rfl | rfl | rfl
   all_goals
    obtain ⟨a9,ca⟩:∃ c,KL=c:=⟨_,rfl⟩;rw [ca];(conv=>whnf);refine ⟨_,_,re s1,?_⟩;(conv=>whnf);refine ⟨_,_,re s2,?_⟩;(conv=>whnf);refine ⟨_,_,re bn,?_⟩;(conv=>whnf);refine .inl ⟨he,?_⟩;(conv=>whnf);subst ca;exact aft (H2:=H2) (L:=l1++l2) (by simp;omega) jK
  ·(have ahu:l1.length+l2.length=0:=by simp at he;simp [he]);obtain rfl:=sO.1 (show l1.length=0 by omega);obtain rfl:=sO.1 (show l2.length=0 by omega);rcases Db with rfl | rfl | rfl <;> rcases pP with rfl | rfl | rfl
   all_goals
    obtain ⟨a9,ca⟩:∃ c,KL=c:=⟨_,rfl⟩;rw [ca];(conv=>whnf);refine ⟨_,_,re s1,?_⟩;(conv=>whnf);refine ⟨_,_,re s2,?_⟩;(conv=>whnf);refine ⟨_,_,re bn,?_⟩;(conv=>whnf);refine .inr ⟨rfl,?_⟩;(conv=>whnf);subst ca;exact afu (H2:=H2) jK
end Go.Proofs.Ytkoioidpbbbaiaa.Ab


namespace Go.Proofs.Ytkoioidpbbbaiaa.Ab
open Go
set_option maxRecDepth 20000
set_option maxHeartbeats 1000000
theorem TA (S:List qn) (j k:Nat) (c:qn) (aw:j<S.length):qN (S.set j c) k=if k=j then c else qN S k:=by
 unfold qN ix;rw [tw,sw,tE,sw];by_cases e:j=k
 ·subst e;simp [aw]
 ·rw [if_neg e,if_neg (Ne.symm e)]
theorem aat {S:List qn} {j:Nat} (aw:j+1<S.length) (k:Nat):qN (JS S j) k=if k=j then qN S (j+1) else if k=j+1 then qN S j else qN S k:=by
 unfold JS;rw [TA _ _ _ _ (by simp;omega),TA _ _ _ _ aw]
theorem afr {S:List qn} {j:Nat} (aw:j+1<S.length):(JS S j).Perm S:=by
 have:=Sort.perm_set_set S (j+1) j aw (by omega);unfold JS;have e1:qN S j=S[j]:=rI (by omega);have b':qN S (j+1)=S[j+1]:=rI aw;rw [e1,b'];exact this
theorem T1:∀ (j:Nat) (S:List qn),j<S.length→(∀ c∈S,0≤c.1∧c.1≤1000)→(∀ a b,a<b→b<j→(qN S a).1≤(qN S b).1) →
  (H3 j S).Perm S∧(∀ k,j<k→qN (H3 j S) k=qN S k)∧(∀ a b,a<b→b≤j→(qN (H3 j S) a).1≤(qN (H3 j S) b).1)∧∀ a,a≤j→∃ b,b≤j∧qN (H3 j S) a=qN S b
 | 0,S,_,_,_=>⟨.refl _,fun _ _=>rfl,fun a b ab ae=>by omega,fun a cu=>⟨a,cu,rfl⟩⟩
 | j+1,S,aw,ak,ah=>by
   have hm:∀ k,k<S.length→0≤(qN S k).1∧(qN S k).1≤1000:=fun k al=>ak _ (Jb (by omega));have da:=hm j (by omega);have db:=hm (j+1) aw;unfold H3 Mv;rw [qO (by omega)];by_cases aR:(qN S (j+1)).1-(qN S j).1<0
   ·rw [if_pos (decide_eq_true aR)];have aO:=aat aw;have aB:=afr aw
    obtain ⟨i1,i2,i3,i4⟩:=T1 j (JS S j) (by rw [W1];omega) (fun c h=>ak c (aB.mem_iff.1 h)) (fun a b ab ae=>by
     rw [aO,aO,if_neg (by omega),if_neg (by omega),if_neg (by omega),if_neg (by omega)]
     exact ah a b ab (by omega))
    refine ⟨i1.trans aB,fun k al=>?_,fun a b ab ae=>?_,fun a cu=>?_⟩
    ·rw [i2 k (by omega),aO,if_neg (by omega),if_neg (by omega)]
    ·by_cases e:b=j+1
     ·subst e;rw [i2 (j+1) (by omega),aO (j+1),if_neg (by omega),if_pos rfl];obtain ⟨c,aF,a_⟩:=i4 a (by omega);rw [a_,aO c];by_cases b':c=j
      ·rw [if_pos b'];omega
      ·rw [if_neg b',if_neg (by omega)];exact ah c j (by omega) (by omega)
     ·exact i3 a b ab (by omega)
    ·by_cases e:a=j+1
     ·subst e;rw [i2 (j+1) (by omega),aO (j+1),if_neg (by omega),if_pos rfl];exact ⟨j,by omega,rfl⟩
     ·obtain ⟨c,aF,a_⟩:=i4 a (by omega);rw [a_,aO c];by_cases b':c=j
      ·rw [if_pos b'];exact ⟨j+1,by omega,rfl⟩
      ·rw [if_neg b',if_neg (by omega)];exact ⟨c,by omega,rfl⟩
   ·rw [if_neg (by simpa using aR)];refine ⟨.refl _,fun _ _=>rfl,fun a b ab ae=>?_,fun a cu=>⟨a,cu,rfl⟩⟩;by_cases e:b=j+1
    ·subst e;by_cases b':a=j
     ·subst b';omega
     ·have:=ah a j (by omega) (by omega);omega
    ·exact ah a b ab (by omega)
theorem T3:∀ (m i:Nat) (S:List qn),i+m=S.length→(∀ c∈S,0≤c.1∧c.1≤1000)→(∀ a b,a<b→b<i→(qN S a).1≤(qN S b).1) →
  (Iv m i S).Perm S∧∀ a b,a<b→b<S.length→(qN (Iv m i S) a).1≤(qN (Iv m i S) b).1
 | 0,i,S,h,_,ah=>⟨.refl _,fun a b ab ae=>ah a b ab (by omega)⟩
 | m+1,i,S,h,ak,ah=>by
   obtain ⟨i1,_,i3,_⟩:=T1 i S (by omega) ak ah;have ao:=i1.length_eq;obtain ⟨dE,dt⟩:=T3 m (i+1) (H3 i S) (by omega) (fun c h=>ak c (i1.mem_iff.1 h)) (fun a b ab ae=>i3 a b ab (by omega));unfold Iv;exact ⟨dE.trans i1,fun a b ab ae=>dt a b ab (by omega)⟩
theorem afh {S:List qn} (ak:∀ c∈S,0≤c.1∧c.1≤1000):(rR S).Perm S∧(rR S).Pairwise fun a b=>a.1≤b.1:=by
 unfold rR;by_cases aQ:S.length=0
 ·obtain rfl:=sO.1 aQ;exact ⟨.refl _,.nil⟩
 ·obtain ⟨ab,ae⟩:=T3 (S.length-1) 1 S (by omega) ak (fun a b ab ae=>by omega);refine ⟨ab,List.pairwise_iff_getElem.2 fun i j hi aw h_=>?_⟩;have:=ae i j h_ (by rw [←ab.length_eq];exact aw);have e1:∀ k (al:k<(Iv (S.length-1) 1 S).length),qN (Iv (S.length-1) 1 S) k=(Iv (S.length-1) 1 S)[k]:=fun k al=>rI al;rw [e1 i hi,e1 j aw] at this;exact this
theorem U2 {n:Int}:∀ {l:List qn} {m:Int},l.Pairwise (fun a b=>a.1<b.1)→(∀ c∈l,m≤c.1∧c.1<n∧qK c.2)→Hu n l m
 | [],_,_,_=>trivial
 | c::r,m,aB,ak=>by
   obtain ⟨ab,ae⟩:=List.pairwise_cons.1 aB;have aF:=ak c (by simp)
   exact ⟨aF.1,aF.2.1,aF.2.2,U2 ae fun dU aX=>by
    have:=ab dU aX;have a_:=ak dU (by simp [aX])
    exact ⟨by omega,a_.2⟩⟩
theorem U1 {n:Int}:∀ {l:List qn} {m:Int},Hu n l m→∀ c∈l,m≤c.1
 | [],_,_,c,ak=>absurd ak (by simp)
 | c::r,m,h,dU,ak=>by
   rcases sA.1 ak with rfl | aX
   ·exact h.1
   ·have:=U1 h.2.2.2 dU aX;have:=h.1;omega
theorem T6 {α:Type} [Inhabited α] {S:List α} {j k:Int} {c:α} (aw:0≤j∧j<(S.length:Int)) (al:0≤k):ix (S.set j.toNat c) k=if k=j then c else ix S k:=by
 unfold ix;rw [sw,tE,sw];by_cases e:k=j
 ·subst e;rw [if_pos rfl,if_pos rfl,if_pos (by omega)];rfl
 ·rw [if_neg (by omega),if_neg e]
theorem Rp {n:Int}:∀ {l:List qn} {S:List qv} {m:Int},Hu n l m→0≤m→(S.length:Int)=n→∀ {j:Int},0≤j→(∀ c∈l,c.1≠j)→ix (rO l S) j=ix S j
 | [],_,_,_,_,_,_,_,_=>rfl
 | c::r,S,m,h,hm,cp,j,aw,ak=>by
   have ab:=h.1;have ae:=h.2.1;unfold rO;rw [Rp h.2.2.2 (by omega) (by simpa using cp) aw fun dU aX=>ak dU (by simp [aX]),T6 (by omega) aw,if_neg fun e=>ak c (by simp) e.symm]
theorem WG {n:Int}:∀ {l:List qn} {S:List qv} {m:Int},Hu n l m→0≤m→(S.length:Int)=n→∀ {c:qn},c∈l→ix (rO l S) c.1=c.2
 | [],_,_,_,_,_,_,ak=>absurd ak (by simp)
 | c::r,S,m,h,hm,cp,dU,ak=>by
   have ab:=h.1;have ae:=h.2.1;unfold rO;rcases sA.1 ak with rfl | aX
   ·rw [Rp h.2.2.2 (by omega) (by simpa using cp) (by omega) fun a9 ae=>by have:=U1 h.2.2.2 a9 ae;omega,T6 (by omega) (by omega),if_pos rfl]
   ·exact WG h.2.2.2 (by omega) (by simpa using cp) aX
section
variable {p:p_} {o:List Int}
def IK (n a:Nat):Nat→List Int
 | 0=>[]
 | i+1=>if i % 2=a∧0<qB n i then IK n a i++[(i:Int)] else IK n a i
theorem Pq (h:q3 p) (k:qq p.1.length o) {a:Nat}:∀ (m i:Nat),i≤o.length→o.length-i=m→(∀ j,j<i→j % 2=a→¬ I7 p o a j) →
  (∃ (j:Nat) (s:qv),I8 (p,()) o (a:Int) ((qh o.length).drop i) i (IK o.length a i)=some (j+1,.inl [(ix o (j:Int),s)])∧j<o.length∧j % 2=a∧qK s∧IZ p o a j s) ∨
  (I8 (p,()) o (a:Int) ((qh o.length).drop i) i (IK o.length a i)=some (o.length,.inr (IK o.length a o.length))∧∀ j,j<o.length→j % 2=a→¬ I7 p o a j)
 | 0,i,hi,hm,ft=>by
   (obtain rfl:i=o.length:=by omega);refine .inr ⟨?_,ft⟩;rw [ve (by rw [Kd];omega)];rfl
 | m+1,i,hi,hm,ft=>by
   (have aR:i<o.length:=by omega);have e1:(qh o.length).drop i=(i:Int)::(qh o.length).drop (i+1):=by
    rw [s7 (by rw [Kd];omega)];congr 1;rw [←rI,Qf aR]
   rw [e1,I8,MT];by_cases a':i % 2=a
   ·rw [if_neg (by omega)];rcases XN h k (a:=a) aR with ⟨s,ab,ae,aF⟩ | ⟨ab,ae⟩
    ·refine .inl ⟨i,s,?_,aR,a',ae,aF⟩;rw [ab,sb,if_pos rfl]
    ·rw [ab,sb,if_neg (by decide),OD (b:=(p,())) (qq.len h k) k.1.symm aR,sb];have b':(if 0<qB o.length i then IK o.length a i++[(i:Int)] else IK o.length a i)=IK o.length a (i+1):=by
      rw [IK];by_cases aB:0<qB o.length i
      ·rw [if_pos aB,if_pos ⟨a',aB⟩]
      ·rw [if_neg aB,if_neg fun k=>aB k.2]
     rw [b'];refine Pq h k m (i+1) (by omega) (by omega) fun j aw Nw=>?_;by_cases e:j=i
     ·subst e;exact ae
     ·exact ft j (by omega) Nw
   ·rw [if_pos (by omega)];(have b':IK o.length a (i+1)=IK o.length a i:=by rw [IK,if_neg fun k=>a' k.1]);rw [←b'];refine Pq h k m (i+1) (by omega) (by omega) fun j aw Nw=>?_;by_cases e:j=i
    ·subst e;exact absurd Nw a'
    ·exact ft j (by omega) Nw
structure YB (p:p_) (o:List Int) (a:Nat) (l:List qn):Prop where
 len:l.length=Ho p o a
 own:∀ c∈l,qK c.2∧∃ i:Nat,i<o.length∧i % 2=a∧c.1=ix o (i:Int)
 UW:(l.map (·.1)).Nodup
 flat:∀ S':List qv,(∀ i:Nat,i<o.length→i % 2=a→(∀ c∈l,c.1=ix o (i:Int)→qt S' o i=c.2)∧((∀ c∈l,c.1≠ix o (i:Int))→qt S' o i=qt p.1 o i))→∀ d,d=p.2.1∨d=p.2.2→rB S' o a (qR d)=0
theorem KI {o:List Int} (h:o.Nodup) {i j:Nat} (hi:i<o.length) (aw:j<o.length) (e:ix o (i:Int)=ix o (j:Int)):i=j:=by
 rw [rI hi,rI aw] at e;exact (List.getElem_inj h).1 e
theorem adn (S:List qv) (o:List Int) {a i:Nat} (f:qv→Int) (hi:i<o.length) (cu:i % 2=a):rB S o a f=qD S o a [(i:Int)] f+qB o.length i*f (qt S o i):=by
 unfold rB qD;have key:∀ m,qQ m (fun j=>if j % 2=a then qB o.length j*f (qt S o j) else 0)=qQ m (fun j=>if j % 2=a∧(j:Int) ∉ [(i:Int)] then qB o.length j*f (qt S o j) else 0)+if i<m then qB o.length i*f (qt S o i) else 0:=by
  intro m
  induction m with
  | zero=>simp [qQ]
  | succ m a8 =>
    simp only [qQ];rw [a8];by_cases e:m=i
    ·subst e;rw [if_neg (show ¬ m<m by omega),if_pos cu,if_neg (by simp),if_pos (show m<m+1 by omega)]
    ·have dB:(m % 2=a∧(m:Int) ∉ [(i:Int)])↔m % 2=a:=⟨fun h=>h.1,fun h=>⟨h,by simp;omega⟩⟩;(have l3:i<m+1↔i<m:=by omega);simp only [dB,l3];omega
 rw [key,if_pos hi]
theorem adj {S S':List qv} {o:List Int} {a i:Nat} {f:qv→Int} (h:∀ j,j<o.length→j % 2=a→j≠i→qt S' o j=qt S o j):qD S' o a [(i:Int)] f=qD S o a [(i:Int)] f:=by
 unfold qD;refine MS fun j aw=>?_;by_cases a':j % 2=a∧(j:Int) ∉ [(i:Int)]
 ·rw [if_pos a',if_pos a',h j aw a'.1 fun e=>a'.2 (by rw [e];simp)]
 ·rw [if_neg a',if_neg a']
theorem adl {S S':List qv} {o:List Int} {a:Nat} {f:qv→Int} (h:∀ j,j<o.length→j % 2=a→qt S' o j=qt S o j):rB S' o a f=rB S o a f:=by
 unfold rB;refine MS fun j aw=>?_;by_cases a':j % 2=a
 ·rw [if_pos a',if_pos a',h j aw a']
 ·rw [if_neg a',if_neg a']
theorem adi {S:List qv} {o:List Int} {f:qv→Int} (aI:o.length=7):rB S o 0 f=-3*f (qt S o 0)-f (qt S o 2)+f (qt S o 4)+3*f (qt S o 6):=by
 unfold rB;rw [aI];simp [qQ,qB];omega
theorem Lu {S:List qv} {o:List Int} {f:qv→Int} (aI:o.length=3):rB S o 1 f=0:=by
 unfold rB;rw [aI];simp [qQ,qB]
theorem UN {S:List qv} {o:List Int} {a i:Nat} {f:qv→Int} (h:(o.length=3∧a=0∧i=2)∨(o.length=5∧a=0∧i=4)∨(o.length=5∧a=1∧i=3)∨(o.length=7∧a=1∧i=5)) :
  qD S o a [(i:Int)] f+qB o.length i*f (qt S o (o.length-1-i))=0:=by
 rcases h with ⟨aI,rfl,rfl⟩ | ⟨aI,rfl,rfl⟩ | ⟨aI,rfl,rfl⟩ | ⟨aI,rfl,rfl⟩
 ·unfold qD;rw [aI];simp [qQ,qB];try omega
 ·unfold qD;rw [aI];simp [qQ,qB];try omega
 ·unfold qD;rw [aI];simp [qQ,qB];try omega
 ·unfold qD;rw [aI];simp [qQ,qB];try omega
theorem Qn (h:q3 p) (k:qq p.1.length o) {a i:Nat} (hi:(o.length=3∧a=0∧i=2)∨(o.length=5∧a=0∧i=4)∨(o.length=5∧a=1∧i=3)∨(o.length=7∧a=1∧i=5)):i<o.length∧i % 2=a∧I7 p o a i :=
 ⟨by omega,by omega,Nj.2 ⟨_,Io h.s (rZ k) (i:=o.length-1-i) (by omega),UN hi,UN hi⟩⟩
theorem XK (h:q3 p) (k:qq p.1.length o) {a:Nat} (cu:a<2):∃ l,Kn (p,()) o (a:Int)=some l∧YB p o a l:=by
 have abw:=qq.Ur h k;have aI:=h.n;rw [←k.1] at aI;unfold Kn;rw [qE (by omega),XO h k,sb];by_cases aP:HA p o a
 ·rw [if_pos (decide_eq_true aP)];refine ⟨[],rfl,⟨by unfold Ho;rw [if_pos aP];rfl,fun c ak=>absurd ak (by simp),by simp,fun S' pn d a1=>?_⟩⟩;rw [adl fun j aw a'=>(pn j aw a').2 (by simp)];rcases a1 with rfl | rfl
  ·exact aP.1
  ·exact aP.2
 ·rw [if_neg (by simpa using aP)];rcases Pq h k (a:=a) o.length 0 (by omega) rfl (fun j aw=>absurd aw (by omega)) with ⟨i,s,ab,ae,aF,a_,bP⟩ | ⟨ab,ae⟩
  ·have iR:I8 (p,()) o (a:Int) (qh o.length) 0 []=_:=ab;rw [iR,sb];refine ⟨_,rfl,⟨?_,?_,by simp,?_⟩⟩
   ·unfold Ho;rw [if_neg aP,if_pos ⟨i,ae,aF,Nj.2 ⟨s,a_,bP⟩⟩];rfl
   ·intro c ak;obtain rfl:=sS.1 ak;exact ⟨a_,i,ae,aF,rfl⟩
   ·intro S' pn d a1
    rw [adn S' o _ ae aF,(pn i ae aF).1 (ix o (i:Int),s) (by simp) rfl,adj fun j aw a' bJ=>(pn j aw a').2 fun c ak=>by
     obtain rfl:=sS.1 ak
     exact fun e=>bJ (KI k.2.1 ae aw e).symm]
    rcases a1 with rfl | rfl
    ·exact bP.1
    ·exact bP.2
  ·have iR:I8 (p,()) o (a:Int) (qh o.length) 0 []=_:=ab;rw [iR,sb];simp only;have cO:o.length=7∧a=0:=by
    by_cases e:o.length=7∧a=0
    ·exact e
    ·exfalso;have ft:∀ i,¬ ((o.length=3∧a=0∧i=2)∨(o.length=5∧a=0∧i=4)∨(o.length=5∧a=1∧i=3)∨(o.length=7∧a=1∧i=5)):=fun i hi=>by
      obtain ⟨aJ,aN,cb⟩:=Qn h k hi;exact ae i aJ aN cb
     rcases (show a=0∨a=1 by omega) with rfl | rfl <;> rcases aI with aI | aI | aI
     ·exact ft 2 (.inl ⟨aI,rfl,rfl⟩)
     ·exact ft 4 (.inr (.inl ⟨aI,rfl,rfl⟩))
     ·exact e ⟨aI,rfl⟩
     ·exact aP ⟨Lu aI,Lu aI⟩
     ·exact ft 3 (.inr (.inr (.inl ⟨aI,rfl,rfl⟩)))
     ·exact ft 5 (.inr (.inr (.inr ⟨aI,rfl,rfl⟩)))
   obtain ⟨cO,rfl⟩:=cO;have jK:=rZ k;(have ad:IK o.length 0 o.length=[4,6]:=by rw [cO];decide);(have ahy:p.1.length=7:=by rw [←k.1];exact cO);have w6:I1 (p,()) o [4,6] []=some [(ix o ((4:Nat):Int),qt p.1 o 2),(ix o ((6:Nat):Int),qt p.1 o 0)]:=by
    have hT:=jK 0 (by omega);have bj:=jK 2 (by omega);(have afJ:w (w (((7:Nat):Int)-1)-4)=((2:Nat):Int):=by rw [qO (n:=((7:Nat):Int)-1) (by omega),qO (by omega)];omega);(have w0:w (w (((7:Nat):Int)-1)-6)=((0:Nat):Int):=by rw [qO (n:=((7:Nat):Int)-1) (by omega),qO (by omega)];omega);have s1:∀ out,I1 (p,()) o [4,6] out=I1 (p,()) o [6] (out++[(ix o ((4:Nat):Int),qt p.1 o 2)]):=fun out=>by
     rw [I1,cO,qE (by omega),afJ,qE (by omega),qE bj];rfl
    have s2:∀ out,I1 (p,()) o [6] out=some (out++[(ix o ((6:Nat):Int),qt p.1 o 0)]):=fun out=>by
     rw [I1.eq_2,cO,qE (by omega),w0,qE (by omega),qE hT];rfl
    rw [s1,s2];rfl
   rw [ad,w6];have abB:ix o ((4:Nat):Int)≠ix o ((6:Nat):Int):=fun e=>absurd (KI k.2.1 (by omega) (by omega) e) (by decide);refine ⟨_,rfl,⟨?_,?_,?_,?_⟩⟩
   ·unfold Ho;rw [if_neg aP,if_neg (by rintro ⟨i,aJ,aN,cb⟩;exact ae i aJ aN cb)];rfl
   ·intro c ak;rcases sA.1 ak with rfl | ak
    ·exact ⟨Io h.s jK (by omega),4,by omega,rfl,rfl⟩
    ·obtain rfl:=sS.1 ak;exact ⟨Io h.s jK (by omega),6,by omega,rfl,rfl⟩
   ·simp only [sE,uB,List.nodup_cons,sS,tS,not_false_eq_true,List.nodup_nil,and_true];exact abB
   ·intro S' pn d _;rw [adi cO];rw [(pn 4 (by omega) rfl).1 (ix o ((4:Nat):Int),qt p.1 o 2) (by simp) rfl,(pn 6 (by omega) rfl).1 (ix o ((6:Nat):Int),qt p.1 o 0) (by simp) rfl];have ft:∀ j:Nat,j<7→j≠4→j≠6→∀ c∈[(ix o ((4:Nat):Int),qt p.1 o 2),(ix o ((6:Nat):Int),qt p.1 o 0)],c.1≠ix o (j:Int):=by
     intro j aw a_ bQ c ak e;rcases sA.1 ak with rfl | ak
     ·exact a_ (KI k.2.1 (by omega) (by omega) e).symm
     ·obtain rfl:=sS.1 ak;exact bQ (KI k.2.1 (by omega) (by omega) e).symm
    rw [(pn 0 (by omega) rfl).2 (ft 0 (by omega) (by omega) (by omega)),(pn 2 (by omega) rfl).2 (ft 2 (by omega) (by omega) (by omega))];simp only;omega
theorem Ta {q:p_} {o:List Int}:qZ q o=0↔HA q o 0∧HA q o 1:=by
 unfold qZ IG HA;generalize q6 q o 0 q.2.1=a;generalize q6 q o 0 q.2.2=b;generalize q6 q o 1 q.2.1=c;generalize q6 q o 1 q.2.2=d;omega
theorem RC (aB:p.1.length≤1000) (ao:o.length≤12):∃ l,KW p o=some (if rK p o=0 then (l,0) else ([],rK p o))∧(rK p o=0→l.length=Ho p o 0+Ho p o 1∧Hu p.1.length l 0∧qZ (rO l p.1,p.2) o=0):=by
 unfold KW;rw [OA aB ao,sb];by_cases rV:rK p o=0
 ·rw [if_pos rV];obtain ⟨h,k⟩:=KJ.1 rV;obtain ⟨cy,gb,g9⟩:=XK h k (a:=0) (by omega);obtain ⟨l1,e1,a7⟩:=XK h k (a:=1) (by omega);have aad:Kn (p,()) o 0=some cy:=gb;have aae:Kn (p,()) o 1=some l1:=e1;have de:=Tf p o 0;have bm:=Tf p o 1;have ahB:=g9.len;have b7:=a7.len;have JJ:=h.len;simp only;rw [aad,sb,aae,sb,qE (by omega)];refine ⟨rR (cy++l1),by rw [if_pos rV],fun _=>?_⟩;have nS:∀ c∈cy++l1,qK c.2∧0≤c.1∧c.1<(p.1.length:Int):=by
   intro c ak;rcases th.1 ak with ak | ak
   ·obtain ⟨aJ,i,aN,_,hq⟩:=g9.own c ak;rw [hq];exact ⟨aJ,rZ k i aN⟩
   ·obtain ⟨aJ,i,aN,_,hq⟩:=a7.own c ak;rw [hq];exact ⟨aJ,rZ k i aN⟩
  obtain ⟨s1,s2⟩:=afh (S:=cy++l1) fun c ak=>by have:=nS c ak;omega
  have abi:∀ c∈cy,∀ dU∈l1,c.1≠dU.1:=by
   intro c ak dU JH e;obtain ⟨_,i,aN,cb,hq⟩:=g9.own c ak;obtain ⟨_,j,db,j5,k6⟩:=a7.own dU JH;have:=KI k.2.1 aN db (by rw [←hq,←k6];exact e);omega
  have jW:((rR (cy++l1)).map (·.1)).Nodup:=by
   refine ((s1.map (·.1)).nodup_iff).2 ?_;rw [sP,List.nodup_append];refine ⟨g9.UW,a7.UW,fun x aj y aY e=>?_⟩;obtain ⟨c,ak,rfl⟩:=sC.1 aj;obtain ⟨dU,JH,rfl⟩:=sC.1 aY;exact abi c ak dU JH e
  have Qc:Hu p.1.length (rR (cy++l1)) 0:=by
   (refine U2 ?_ fun c ak=>by have:=nS c (s1.mem_iff.1 ak);exact ⟨this.2.1,this.2.2,this.1⟩);have abA:=List.pairwise_map.1 jW;exact (s2.and abA).imp fun h=>by omega
  refine ⟨by rw [WR,sy];omega,Qc,?_⟩;rw [Ta];have w6:∀ i:Nat,i<o.length→(∀ c∈rR (cy++l1),c.1≠ix o (i:Int))→qt (rO (rR (cy++l1)) p.1) o i=qt p.1 o i:=fun i hi ak =>
   Rp Qc (sU _) rfl (rZ k i hi).1 ak
  have hg:∀ i:Nat,∀ c∈rR (cy++l1),c.1=ix o (i:Int)→qt (rO (rR (cy++l1)) p.1) o i=c.2:=fun i c ak e=>by
   have:=WG Qc (sU _) (S:=p.1) rfl ak;rw [e] at this;exact this
  have f0:=g9.flat (rO (rR (cy++l1)) p.1) fun i hi a'=>⟨fun c ak=>hg i c (s1.mem_iff.2 (th.2 (.inl ak))),fun ft=>w6 i hi fun c ak=>by
   rcases th.1 (s1.mem_iff.1 ak) with ak | ak
   ·exact ft c ak
   ·obtain ⟨_,j,db,j5,k6⟩:=a7.own c ak;intro e;have:=KI k.2.1 db hi (by rw [←k6];exact e)
    omega⟩
  have f1:=a7.flat (rO (rR (cy++l1)) p.1) fun i hi a'=>⟨fun c ak=>hg i c (s1.mem_iff.2 (th.2 (.inr ak))),fun ft=>w6 i hi fun c ak=>by
   rcases th.1 (s1.mem_iff.1 ak) with ak | ak
   ·obtain ⟨_,j,db,j5,k6⟩:=g9.own c ak;intro e;have:=KI k.2.1 db hi (by rw [←k6];exact e);omega
   ·exact ft c ak⟩
  exact ⟨⟨f0 _ (.inl rfl),f0 _ (.inr rfl)⟩,f1 _ (.inl rfl),f1 _ (.inr rfl)⟩
 ·rw [if_neg rV];simp only;rw [if_pos (by simpa using rV)];exact ⟨[],by rw [if_neg rV],fun h=>absurd h rV⟩
end
end Go.Proofs.Ytkoioidpbbbaiaa.Ab


namespace Go.Proofs.Ytkoioidpbbbaiaa.Ab
open Go
set_option maxRecDepth 20000
set_option maxHeartbeats 4000000

end Go.Proofs.Ytkoioidpbbbaiaa.Ab


namespace Go.Proofs.Ytkoioidpbbbaiaa.Ab
open Go
set_option maxRecDepth 20000
set_option maxHeartbeats 1000000
theorem afA (n:Nat):(qh n).length=n:=by simp [qh]
section
variable {o:List Int}
end
end Go.Proofs.Ytkoioidpbbbaiaa.Ab


namespace Go.Proofs.Ytkoioidpbbbaiaa.Ab
open Go
set_option maxRecDepth 20000
set_option maxHeartbeats 4000000
noncomputable def Wn:gE :=
 .ow false [p0 7 [.jq 18] .mV]
theorem aco:ey Try.prog Jr (q8 Try.prog 20 0) 0=some Wn:=by kernel_rfl
noncomputable def Wr:gE :=
 .block 1 (.seq (.ow false [p0 19 [.Bu 4] (.zG .one),p0 20 [.jq 7] .mV,p0 21 [.cv (.func 41 [] []),.nd 19,.nd 20] (.call 3),p0 22 [.Bu 21,.cv (.int .i64 0)] (.bin .eql)]) (.cond (.nd 22) (.ow false [p0 23 [.nd 6] (.zG .one),p0 24 [.Bu 23,.cv (.int .i64 1)] (.bin .add),⟨none,[.jq 6,.jq 24],none,none,.st 1⟩]) .skip))
theorem acs:ey Try.prog Jr (q9 Try.prog 20 0) 0=some Wr:=by kernel_rfl
def JF (b:p_×Unit) (s:Int) (o:List Int):Option Int:=(JU b o).bind fun c=>some (if decide (c=0)=true then w (s+1) else s)
def L1 (p:p_):Option (Int×Int) :=
 (rD p []).bind fun r=>match r with
 | (none,q)=>if decide (q≠0)=true then some (0,q) else none
 | (some b,q)=>if decide (q≠0)=true then some (0,q) else
   qy (0<b.1.1.length∧b.1.1.length≤7) <|
   (Ij (JF b) (qW b.1.1.length (qh b.1.1.length)) 0).bind fun n=>some (n,0)
theorem aeW {b:p_×Unit} {o:List Int} {g9:ar} {s t:Int} (ah:JF b s o=some t) {yi fA gv Gj rJ HI u8 HJ HF HG HH LN LO LP u16 LQ LR LS LU LV LW IQ LX LY:I} (he:o≠[]) (Y:List ar) :
  ∃ Z,Sem Try.prog (.yield [g9,ar.cells [lq b],ar.cells [h0 s]].length) [rX o] (([g9,ar.cells [lq b],ar.cells [h0 s]]++[ar.loop .ready none 20 [yi,fA,gv,Gj,.ptr 1 0,rJ,.ptr 2 0,HI,u8,HJ,HF,HG,HH,LN,LO,LP,u16,LQ,LR,LS,LU,LV,LW,IQ,LX,LY] [18] (q8 Try.prog 20 0) (q9 Try.prog 20 0) Jr])++Y) 0 (.bool true) (([g9,ar.cells [lq b],ar.cells [h0 t]]++[ar.loop .ready none 20 [yi,fA,gv,Gj,.ptr 1 0,rJ,.ptr 2 0,HI,u8,HJ,HF,HG,HH,LN,LO,LP,u16,LQ,LR,LS,LU,LV,LW,IQ,LX,LY] [18] (q8 Try.prog 20 0) (q9 Try.prog 20 0) Jr])++(Y++Z)):=by
 refine ⟨[],?_⟩;rw [sM];obtain ⟨gb,e,rfl⟩:=List.exists_cons_of_ne_nil he;unfold JF at ah;obtain ⟨c,ak,ah⟩:=p9 ah;obtain rfl:=Option.some.inj ah;refine N9 eG aco acs (Iu _ _ _) rfl (Ix (by simp)) ?_;unfold Wn;conv=>whnf
 refine ⟨rfl,Iu _ _ _,?_⟩;rw [Jj];unfold Wr;conv=>whnf
 refine ⟨p5 (H4 b) (p5 (rA (fun _=>rfl) _ _ _) rfl),_,adO (M0 ak),?_⟩;conv=>whnf
 cases a1:decide (c=0)
 ·conv=>whnf
  show _∧(([g9,ar.cells [lq b],ar.cells [h0 s]]++[ar.loop .busy none 20 [yi,fA,gv,Gj,.ptr 1 0,rJ,.ptr 2 0,HI,u8,HJ,HF,HG,HH,LN,LO,LP,u16,LQ,LR,LS,LU,LV,LW,IQ,LX,LY] [18] (q8 Try.prog 20 0) (q9 Try.prog 20 0) Jr])++Y)[[g9,ar.cells [lq b],ar.cells [h0 s]].length]?=_∧lJ ((([g9,ar.cells [lq b],ar.cells [h0 s]]++[ar.loop .busy none 20 [yi,fA,gv,Gj,.ptr 1 0,rJ,.ptr 2 0,HI,u8,HJ,HF,HG,HH,LN,LO,LP,u16,LQ,LR,LS,LU,LV,LW,IQ,LX,LY] [18] (q8 Try.prog 20 0) (q9 Try.prog 20 0) Jr])++Y).set [g9,ar.cells [lq b],ar.cells [h0 s]].length _) _;exact ⟨rfl,Iu _ _ _,by rw [Jj];exact lJ.refl _⟩
 ·conv=>whnf
  show _∧(([g9,ar.cells [lq b],ar.cells [h0 (w (s+1))]]++[ar.loop .busy none 20 [yi,fA,gv,Gj,.ptr 1 0,rJ,.ptr 2 0,HI,u8,HJ,HF,HG,HH,LN,LO,LP,u16,LQ,LR,LS,LU,LV,LW,IQ,LX,LY] [18] (q8 Try.prog 20 0) (q9 Try.prog 20 0) Jr])++Y)[[g9,ar.cells [lq b],ar.cells [h0 (w (s+1))]].length]?=_∧lJ ((([g9,ar.cells [lq b],ar.cells [h0 (w (s+1))]]++[ar.loop .busy none 20 [yi,fA,gv,Gj,.ptr 1 0,rJ,.ptr 2 0,HI,u8,HJ,HF,HG,HH,LN,LO,LP,u16,LQ,LR,LS,LU,LV,LW,IQ,LX,LY] [18] (q8 Try.prog 20 0) (q9 Try.prog 20 0) Jr])++Y).set [g9,ar.cells [lq b],ar.cells [h0 (w (s+1))]].length _) _;exact ⟨rfl,Iu _ _ _,by rw [Jj];exact lJ.refl _⟩
theorem aga {p:p_} {v:Int×Int} (h:L1 p=some v):qu 20 [.agg [.av (p.1.flatMap p7) p.1.length .shared,h0 p.2.1,h0 p.2.2]] (.tuple [h0 v.1,h0 v.2]):=by
 unfold L1 at h;obtain ⟨⟨aS,bj⟩,ai,h⟩:=p9 h;refine qH eG ab6 rfl (Jf (p5 rfl (p5 rfl rfl))) fun Q bp=>?_;have jK:∀ T H,Hl [.tmp 2,.tmp 3] (.tuple [h0 v.1,h0 v.2]) .ret T H→Q .ret T H:=fun T H bE=>bp _ T H bE;unfold VJ VL VK;obtain ⟨a7,cf⟩:∃ c,QI=c:=⟨_,rfl⟩;rw [cf];conv=>whnf
 refine ⟨qi.pl,_,L7 ai,?_⟩;rcases aS with _ | b
 ·conv=>whnf
  refine bs h (fun af h=>?_) fun af h=>?_
  ·rw [af];(conv=>whnf);obtain rfl:=Option.some.inj h;exact jK _ _ (Ie rfl rfl)
  ·cases h
 ·conv=>whnf
  refine bs h (fun af h=>?_) fun af h=>?_
  ·rw [af];(conv=>whnf);obtain rfl:=Option.some.inj h;exact jK _ _ (Ie rfl rfl)
  ·rw [af];(conv=>whnf);subst cf;unfold QI;obtain ⟨⟨Dj,Lo⟩,h⟩:=rL h;obtain ⟨n,ao,h⟩:=p9 h;obtain rfl:=Option.some.inj h;obtain ⟨F,Mr,KB,bG⟩:=Ns ao;obtain ⟨a9,ca⟩:∃ c,gE.AO (.nd 17) [18] (q8 Try.prog 20 0) (q9 Try.prog 20 0)=c:=⟨_,rfl⟩;rw [ca];(conv=>whnf);refine ⟨p5 (H4 b) rfl,_,RG (b:=b) (v:=()) rfl,?_⟩;(conv=>whnf);subst ca;have px:[I.bS [lq b]].all (cr 7)=true:=p5 (Ic (p5 (H4 b) rfl)) rfl;refine Wv (f:=rX) (WB (b:=b) Lo Dj) (fun i=>[ar.cells [.av (p.1.flatMap p7) p.1.length .shared,h0 p.2.1,h0 p.2.2],ar.cells [lq b],ar.cells [h0 (F i)]]) (by exact rfl) (by rw [Mr];exact rfl) (fun _=>rfl) ?_ (rl:=none) (by exact rfl) (Hn:=[ar.cells [.av (p.1.flatMap p7) p.1.length .shared,h0 p.2.1,h0 p.2.2],ar.cells [lq b],ar.cells [h0 n]]) (by rw [KB]) ?_
   ·intro i hi Y;exact aeW (bG i hi) (Qj Dj _ (tQ hi)) Y
   ·intro qz;(conv=>whnf);exact jK _ _ (Ie rfl rfl)

noncomputable def X2:gE :=
 p2 [p0 1 [.jq 0] .box,qc 2 0,qc 3 0] (p2 [p0 7 [.nd 1] (.zG (.str 3)),p0 8 [.cv (.func 33 [] []),.nd 7] (.call 3),p1 6 8,qL 9 6 0,p0 10 [.Bu 6] (.ext 1),p1 4 9,p1 5 10] (.seq (p2 [p3 11 5,qw 12 11 0 .neq] (.cond (.nd 12) (p2 [p1 13 5,qc 2 0,p1 3 13] .ret) .skip)) (p2 [p0 14 [.Bu 1] (.zG (.str 3)),p1 15 4,p0 16 [.cv (.func 14 [] []),.nd 14,.nd 15] (.call 3),qL 17 16 0,p0 18 [.Bu 16] (.ext 1),p1 2 17,p1 3 18] .ret)))
theorem acF:ql Try.prog Sp 32=some (X2,19,[.tmp 2,.tmp 3]):=by kernel_rfl
def L0 (p:(qj×(Int×Int))):Option (Int×Int) :=
 (KV p).bind fun aS =>
 if (decide (aS.2≠(0:Int)))=true then
  some ((0:Int),aS.2)
 else
  (Jn p aS.1).bind fun bj =>
  some (bj.1,bj.2)
theorem af9 {p:(qj×(Int×Int))} {v:(Int×Int)} (h:L0 p=some v):qu 32 [(.agg [(.av (p.1.flatMap p7) p.1.length .shared),(h0 p.2.1),(h0 p.2.2)])] (.tuple [(h0 v.1),(h0 v.2)]):=by
 refine qH eG acF rfl (Jf (p5 rfl (p5 rfl rfl))) fun Q bp=>?_;have jK:qJ [.tmp 2,.tmp 3] Q (fun v=>(.tuple [(h0 v.1),(h0 v.2)])) v:=fun T H bE=>bp _ T H bE;unfold L0 at h;unfold X2;conv=>whnf
 obtain ⟨aS,gM,h⟩:=p9 h;refine ⟨qi.pl,_,Xt gM,?_⟩;conv=>whnf
 refine bs h (fun gN h=>?_) fun gN h=>?_
 ·rw [gN];conv=>whnf
  exact qg h jK rfl rfl
 ·rw [gN];conv=>whnf
  obtain ⟨bj,qs,h⟩:=p9 h;refine ⟨qi.pl,_,Ow qs,?_⟩;conv=>whnf
  exact qg h jK rfl rfl

end Go.Proofs.Ytkoioidpbbbaiaa.Ab


namespace Go.Proofs.Ytkoioidpbbbaiaa.Ab
open Go
set_option maxRecDepth 20000
set_option maxHeartbeats 4000000

end Go.Proofs.Ytkoioidpbbbaiaa.Ab


namespace Go.Proofs.Ytkoioidpbbbaiaa.Ab
open Go
set_option maxRecDepth 20000
set_option maxHeartbeats 1000000
def rr (p:p_):List (List Int):=qW p.1.length (qh p.1.length)
theorem Lt {p:p_} {o:List Int}:o∈rr p↔qq p.1.length o:=adt.symm
theorem O6 {p:p_} (h:q3 p):(rr p).length≤100000:=Uv h.len.2
theorem YK {p:p_}:(rr p)[0]?=some (qh p.1.length):=Uu _ _ (afA _)
theorem all_cons {p:p_}:∃ r,rr p=qh p.1.length::r:=by
 have:=YK (p:=p);cases h:rr p with
 | nil=>rw [h] at this;cases this
 | cons a r=>rw [h] at this;exact ⟨r,by rw [Option.some.inj this]⟩
def Hz (p:p_) (b o:List Int):List Int:=if qZ p o<qZ p b then o else b
def Lg (p:p_):List Int:=((rr p).drop 1).foldl (Hz p) (qh p.1.length)
def Py (p:p_):Nat:=((rr p).filter fun o=>decide (qZ p o=0)).length
section
variable {p:p_}
theorem afw {α:Type} {l:List α} {j:Nat} (aw:j<l.length):l.take (j+1)=l.take j++[l[j]]:=vd aw
theorem Zx:(rr p).foldl (Hz p) (qh p.1.length)=Lg p:=by
 unfold Lg;obtain ⟨r,ai⟩:=all_cons (p:=p);rw [ai];show List.foldl _ (Hz p _ _) r=_;rw [show Hz p (qh p.1.length) (qh p.1.length)=qh p.1.length by unfold Hz;split <;> rfl];rfl
theorem W8 (n:Nat):qq n (qh n):=Lw.2 (.refl _)
theorem agF (h:q3 p) {x y:List Int} (aj:qq p.1.length x) (aY:qq p.1.length y):Kk (p,()) x y=some (decide (qZ p x<qZ p y)):=by
 unfold Kk;rw [MZ h aj,sb,MZ h aY,sb]
theorem Qg (h:q3 p):∀ (m j:Nat) (b:List Int),1+j≤(rr p).length→(rr p).length-(1+j)<m→b=(((rr p).drop 1).take j).foldl (Hz p) (qh p.1.length)→qq p.1.length b →
  Kj (rr p) (Kk (p,())) (fun z=>some z) m b (j:Int)=some (Lg p)
 | 0,_,_,_,h,_,_=>absurd h (by omega)
 | m+1,j,b,aw,hm,af,bT=>by
   have aby:=O6 h;rw [Kj];have e1:((1:Int)).toNat=1:=rfl;rw [e1];(have el:((rr p).drop 1).length=(rr p).length-1:=by simp);by_cases aR:j<((rr p).drop 1).length
   ·rw [if_pos (decide_eq_true (by omega)),qE (by omega),rI aR];have kM:((rr p).drop 1)[j]∈rr p:=List.mem_of_mem_drop (tQ aR);have al:=Lt.1 kM;rw [agF h al bT,sb,Iz j (by omega)];have bw:Hz p b ((rr p).drop 1)[j]=(((rr p).drop 1).take (j+1)).foldl (Hz p) (qh p.1.length):=by
     rw [afw aR,List.foldl_append,←af];rfl
    by_cases ak:qZ p ((rr p).drop 1)[j]<qZ p b
    ·rw [if_pos (decide_eq_true ak)];refine Qg h m (j+1) _ (by omega) (by omega) ?_ al;rw [←bw];unfold Hz;rw [if_pos ak]
    ·rw [if_neg (by simpa using ak)];refine Qg h m (j+1) _ (by omega) (by omega) ?_ bT;rw [←bw];unfold Hz;rw [if_neg ak]
   ·rw [if_neg (by simpa using by omega)];rw [tg (by omega)] at af;rw [af];rfl
theorem Xs (aB:p.1.length≤1000):KV p=some (if rh p=0 then (Lg p,0) else ([],rh p)):=by
 unfold KV;rw [RF aB,sb];by_cases h:rh p=0
 ·rw [if_pos h,if_pos h];have ad:=JE.1 h;have ao:=ad.len;simp only;rw [if_neg (by decide),qE (show 0<p.1.length∧p.1.length≤7 by omega)];show (M1 (rr p) (Kk (p,()))).bind _=_;obtain ⟨r,ai⟩:=all_cons (p:=p);have aQ:0<(rr p).length:=by rw [ai];simp
  unfold M1;rw [qE (by omega),qE (by omega)];have gb:ix (rr p) (0:Int)=qh p.1.length:=by rw [ai];rfl
  rw [gb];have:=Qg ad qk 0 (qh p.1.length) (by omega) (IH (by have:=O6 ad;omega)) rfl (W8 _);rw [show ((0:Nat):Int)=0 from rfl] at this;rw [this,sb]
 ·rw [if_neg h,if_neg h];simp only;rw [if_pos (decide_eq_true h)]
theorem Z1 (q:List Int→Bool) (l:List (List Int)):(l.filter q).length≤l.length:=List.length_filter_le _ _
theorem Tq (h:q3 p):∀ (l r:List (List Int)),rr p=r++l→Ij (JF (p,())) l ((r.filter fun o=>decide (qZ p o=0)).length:Int)=some ((Py p:Int))
 | [],r,e=>by rw [sM] at e;subst e;rfl
 | o::l,r,e=>by
   have aby:=O6 h;have al:qq p.1.length o:=Lt.1 (by rw [e];simp);(have hlen:r.length+(l.length+1)=(rr p).length:=by rw [e];simp);have jN:=Z1 (fun o=>decide (qZ p o=0)) r;have a8:=Tq h l (r++[o]) (by rw [e];simp);rw [List.filter_append,sy] at a8;show (JF (p,()) _ o).bind (Ij (JF (p,())) l)=_;unfold JF;rw [MZ h al,sb,sb];by_cases ak:qZ p o=0
   ·rw [if_pos (decide_eq_true ak),Iz _ (by omega)];rw [show ([o].filter fun o=>decide (qZ p o=0)).length=1 by simp [ak]] at a8;exact a8
   ·rw [if_neg (by simpa using ak)];rw [show ([o].filter fun o=>decide (qZ p o=0)).length=0 by simp [ak]] at a8;exact a8
theorem af_ (aB:p.1.length≤1000):L1 p=some (if rh p=0 then ((Py p:Int),0) else (0,rh p)):=by
 unfold L1;rw [RF aB,sb];by_cases h:rh p=0
 ·rw [if_pos h,if_pos h];have ad:=JE.1 h;have ao:=ad.len;simp only;rw [if_neg (by decide),qE (show 0<p.1.length∧p.1.length≤7 by omega)];have:=Tq ad (rr p) [] rfl;show (Ij (JF (p,())) (rr p) 0).bind _=_;have this:Ij (JF (p,())) (rr p) 0=some ((Py p:Int)):=this;rw [this,sb]
 ·rw [if_neg h,if_neg h];simp only;rw [if_pos (decide_eq_true h)]
theorem Zy (p:p_) (E:List (List Int)):∀ (b:List Int),(E.foldl (Hz p) b=b∨E.foldl (Hz p) b∈E)∧qZ p (E.foldl (Hz p) b)≤qZ p b∧∀ o∈E,qZ p (E.foldl (Hz p) b)≤qZ p o:=by
 induction E with
 | nil=>intro b;exact ⟨.inl rfl,sU _,by simp⟩
 | cons a E a8 =>
   intro b;obtain ⟨ab,ae,aF⟩:=a8 (Hz p b a);have af:(Hz p b a=b∨Hz p b a=a)∧qZ p (Hz p b a)≤qZ p b∧qZ p (Hz p b a)≤qZ p a:=by
    unfold Hz;split
    ·exact ⟨.inr rfl,by omega,by omega⟩
    ·exact ⟨.inl rfl,by omega,by omega⟩
   rw [List.foldl_cons];refine ⟨?_,by omega,fun o aq=>?_⟩
   ·rcases ab with ab | ab
    ·rcases af.1 with e | e
     ·left;rw [ab,e]
     ·right;rw [ab,e];simp
    ·right;simp [ab]
   ·rcases sA.1 aq with rfl | aq
    ·omega
    ·exact aF o aq
theorem Zz (p:p_):qq p.1.length (Lg p):=by
 rw [←Zx];obtain ⟨ab,_,_⟩:=Zy p (rr p) (qh p.1.length);rcases ab with ab | ab
 ·rw [ab];exact W8 _
 ·exact Lt.1 ab
theorem af8 (aB:p.1.length≤1000):L0 p=some (if rh p=0 then (qZ p (Lg p),0) else (0,rh p)):=by
 unfold L0;rw [Xs aB,sb];by_cases h:rh p=0
 ·rw [if_pos h,if_pos h];have ad:=JE.1 h;have af:=Zz p;simp only;rw [if_neg (by simp),Ov aB (by rw [af.1];have:=ad.len;omega),if_pos (KJ.2 ⟨ad,af⟩)];rfl
 ·rw [if_neg h,if_neg h];simp only;rw [if_pos (decide_eq_true h)]
end
end Go.Proofs.Ytkoioidpbbbaiaa.Ab
