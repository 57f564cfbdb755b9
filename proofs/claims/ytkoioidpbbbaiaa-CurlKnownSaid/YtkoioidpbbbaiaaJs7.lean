
import Derived.Test.YtkoioidpbbbaiaaJs5
import Derived.Test.YtkoioidpbbbaiaaJs6
import Derived.KernelRfl
import Derived.Test.YtkoioidpbbbaiaaProg
set_option linter.unusedSimpArgs false
set_option linter.unusedVariables false
set_option linter.unusedSectionVars false

open Bool renaming and_eq_true→sn,and_self→tS,and_true→tp,eq_iff_iff→vt
open Int renaming le_refl→sS,toNat_natCast→tH
open List renaming all_cons→tt,all_nil→tV,append_assoc→sw,append_nil→sM,drop_eq_getElem_cons→s7,drop_of_length_le→uW,drop_zero→tj,flatMap_append→uc,getD_eq_getElem?_getD→sv,getElem?_append→sm,getElem?_append_left→sf,getElem?_eq_none→uJ,getElem?_eq_some_iff→r_,getElem?_set→tz,getElem?_set_ne→sc,getElem?_set_self→si,getElem_mem→tK,length_append→sB,length_eq_zero_iff→sO,length_set→sY,map_append→sT,map_cons→sD,map_nil→uw,mem_append→tc,mem_cons→sx,mem_filter→td,mem_map→sA,mem_map_of_mem→ta,mem_of_getElem?→su,mem_singleton→sQ,not_mem_nil→tM,take_of_length_le→tb,take_succ_eq_append_getElem→uV
open Nat renaming ble_eq_true_of_le→th,le_refl→sb,lt_succ_self→sG,zero_add→sy,zero_le→sC
open Option renaming bind_some→sa
namespace Go.Proofs.Ytkoioidpbbbaiaa.Ab
open Go
set_option maxRecDepth 20000
set_option maxHeartbeats 4000000
noncomputable def X5:gE :=
 p2 [p0 2 [.jq 0] .box,p' 4 0,p' 5 0] (p2 [p0 9 [.Bs 2] (.zE (.str 3)),p3 10 1,p0 11 [.Bs 10] (.yB 1 1 [.av [] 0 .full] [0]),p0 12 [.cv (.func 36 [] []),.nc 9,.nc 11] (.call 3),p1 8 12,qo 13 8 0,p0 14 [.Bs 8] (.ext 1),p1 6 13,p1 7 14] (.seq (p2 [p3 15 7,qu 16 15 0 .neq] (.cond (.nc 16) (p2 [p1 17 7,p' 4 0,p1 5 17] .ret) .skip)) (p2 [p1 18 6,p1 19 1,p0 20 [.cv (.func 41 [] []),.nc 18,.nc 19] (.call 3),p1 4 20,p' 5 0] .ret)))
theorem acu:qj Try.prog SE 14=some (X5,21,[.tmp 4,.tmp 5]):=by kernel_rfl
def Im (p:(qg×(Int×Int))) (order:qk):Option (Int×Int) :=
 (rz p [order]).bind fun aS =>
 match aS with
 | (none,q1) =>
   if (decide (q1≠(0:Int)))=true then
    some ((0:Int),q1)
   else
    none
 | (some bU,q1) =>
   if (decide (q1≠(0:Int)))=true then
    some ((0:Int),q1)
   else
    (JY (bU.1,()) order).bind fun bj =>
    some (bj,(0:Int))
theorem Mv {p:(qg×(Int×Int))} {order:qk} {v:(Int×Int)} (h:Im p order=some v):qt 14 [(.agg [(.av (p.1.flatMap p7) p.1.length .shared),(h0 p.2.1),(h0 p.2.2)]),(.av (order.map h0) order.length .shared)] (.tuple [(h0 v.1),(h0 v.2)]):=by
 refine qD eG acu rfl (IL (p4 rfl (p4 rfl rfl))) fun Q bp=>?_;have jJ:qC [.tmp 4,.tmp 5] Q (fun v=>(.tuple [(h0 v.1),(h0 v.2)])) v:=fun T H bE=>bp _ T H bE;unfold Im at h;unfold X5;conv=>whnf
 obtain ⟨aS,gM,h⟩:=p8 h;rcases aS with ⟨_ | bU,q1⟩
 ·refine ⟨(p4 (HS (p4 (Hu (fun _=>(p4 rfl (p4 rfl rfl))) _ _ _) (p4 rfl (p4 rfl rfl)))) (p4 (OE (p4 (rE (fun _=>rfl) _ _ _) rfl)) rfl)),_,Mx gM,?_⟩;conv=>whnf
  refine bs h (fun gN h=>?_) fun gN h=>?_
  ·rw [gN];(conv=>whnf);exact p9 h jJ rfl rfl
  ·rw [gN];(conv=>whnf);exact Hr h
 ·refine ⟨(p4 (HS (p4 (Hu (fun _=>(p4 rfl (p4 rfl rfl))) _ _ _) (p4 rfl (p4 rfl rfl)))) (p4 (OE (p4 (rE (fun _=>rfl) _ _ _) rfl)) rfl)),_,Mx gM,?_⟩;conv=>whnf
  refine bs h (fun qp h=>?_) fun qp h=>?_
  ·rw [qp];(conv=>whnf);exact p9 h jJ rfl rfl
  ·rw [qp];(conv=>whnf);obtain ⟨bj,qE,h⟩:=p8 h;refine ⟨qd.pl,_,NS qE,?_⟩;(conv=>whnf);exact p9 h jJ rfl rfl

noncomputable def X6:gE :=
 p2 [p0 3 [.jq 0] .box,p' 6 0,p' 7 0,p' 8 0] (p2 [p0 13 [.nc 3] (.zE (.str 3)),p3 14 1,p0 15 [.Bs 14] (.yB 1 1 [.av [] 0 .full] [0]),p0 16 [.cv (.func 36 [] []),.nc 13,.nc 15] (.call 3),p1 12 16,qo 17 12 0,p0 18 [.Bs 12] (.ext 1),p1 9 17,p1 10 18] (.seq (.block 0 (p2 [p3 20 10,qu 21 20 0 .neq,p1 19 21] (.cond (.nc 19) (p2 [p1 22 10,p' 6 0,p' 7 0,p1 8 22] .ret) (p2 [p0 24 [.nc 3] (.yM 1),qv 25 24 0,qf 26 25,qv 27 3 1,qv 28 27 1,qf 29 28,p3 30 2,p0 31 [.Bs 30] (.yB 1 1 [.int .i64 0] [0]),p0 32 [.cv (.func 37 [] []),.nc 26,.nc 29,.nc 31] (.call 3),p0 33 [.Bs 32] (.un .not),p1 23 33] (.cond (.nc 23) (p2 [p' 6 0,p' 7 0,p' 8 3] .ret) .skip))))) (p2 [p1 34 9,p1 35 1,p1 36 2,p0 37 [.cv (.func 38 [] []),.nc 34,.nc 35,.nc 36] (.call 3),p0 11 [] (.alloc [.int .i64 0,.int .i64 0]),⟨none,[.nc 11,.jq 37],none,none,.st 2⟩] (.seq (qT [p0 38 [.nc 11,.cv (.int .i64 0)] (.zu 2 1),qf 39 38,p0 40 [.nc 11,.cv (.int .i64 1)] (.zu 2 1),qf 41 40,p1 6 39,p1 7 41,p' 8 0]) .ret))))
theorem acv:qj Try.prog SC 12=some (X6,42,[.tmp 6,.tmp 7,.tmp 8]):=by kernel_rfl
def IA (p:(qg×(Int×Int))) (order:qk) (qL:Int):Option (Int×Int×Int) :=
 (rz p [order]).bind fun aS =>
 match aS with
 | (none,q1) =>
   if (decide (q1≠(0:Int)))=true then
    some ((0:Int),(0:Int),q1)
   else
    (IB p.2.1 p.2.2 [qL]).bind fun bj =>
    if bj=true then
     none
    else
     some ((0:Int),(0:Int),(3:Int))
 | (some bU,q1) =>
   if (decide (q1≠(0:Int)))=true then
    some ((0:Int),(0:Int),q1)
   else
    (IB p.2.1 p.2.2 [qL]).bind fun eK =>
    if eK=true then
     (Ls (bU.1,()) order qL).bind fun Hv =>
     some (Hv.1,Hv.2,(0:Int))
    else
     some ((0:Int),(0:Int),(3:Int))
theorem NL {p:(qg×(Int×Int))} {order:qk} {qL:Int} {v:(Int×Int×Int)} (h:IA p order qL=some v):qt 12 [(.agg [(.av (p.1.flatMap p7) p.1.length .shared),(h0 p.2.1),(h0 p.2.2)]),(.av (order.map h0) order.length .shared),(h0 qL)] (.tuple [(h0 v.1),(h0 v.2.1),(h0 v.2.2)]):=by
 refine qD eG acv rfl (IL (p4 rfl (p4 rfl (p4 rfl rfl)))) fun Q bp=>?_;have jJ:qC [.tmp 6,.tmp 7,.tmp 8] Q (fun v=>(.tuple [(h0 v.1),(h0 v.2.1),(h0 v.2.2)])) v:=fun T H bE=>bp _ T H bE;unfold IA at h;unfold X6;conv=>whnf
 obtain ⟨aS,gM,h⟩:=p8 h;rcases aS with ⟨_ | bU,q1⟩
 ·refine ⟨(p4 (HS (p4 (Hu (fun _=>(p4 rfl (p4 rfl rfl))) _ _ _) (p4 rfl (p4 rfl rfl)))) (p4 (OE (p4 (rE (fun _=>rfl) _ _ _) rfl)) rfl)),_,Mx gM,?_⟩;conv=>whnf
  refine bs h (fun gN h=>?_) fun gN h=>?_
  ·rw [gN];(conv=>whnf);exact p9 h jJ rfl rfl
  ·rw [gN];(conv=>whnf);obtain ⟨bj,qp,h⟩:=p8 h;refine ⟨(p4 rfl (p4 rfl (p4 rfl rfl))),_,Kr qp,?_⟩;(conv=>whnf);cases bj
   ·(conv=>whnf);replace h:=Ho rfl h;exact p9 h jJ rfl rfl
   ·(conv=>whnf);replace h:=Hp rfl h;exact Hr h
 ·refine ⟨(p4 (HS (p4 (Hu (fun _=>(p4 rfl (p4 rfl rfl))) _ _ _) (p4 rfl (p4 rfl rfl)))) (p4 (OE (p4 (rE (fun _=>rfl) _ _ _) rfl)) rfl)),_,Mx gM,?_⟩;conv=>whnf
  refine bs h (fun qE h=>?_) fun qE h=>?_
  ·rw [qE];(conv=>whnf);exact p9 h jJ rfl rfl
  ·rw [qE];(conv=>whnf);obtain ⟨eK,qX,h⟩:=p8 h;refine ⟨(p4 rfl (p4 rfl (p4 rfl rfl))),_,Kr qX,?_⟩;(conv=>whnf);cases eK
   ·(conv=>whnf);replace h:=Ho rfl h;exact p9 h jJ rfl rfl
   ·(conv=>whnf);replace h:=Hp rfl h;obtain ⟨Hv,rG,h⟩:=p8 h;refine ⟨qd.pl,_,R9 rG,?_⟩;(conv=>whnf);refine ⟨by decide,?_⟩;(conv=>whnf);refine ⟨by decide,?_⟩;(conv=>whnf);exact p9 h jJ rfl rfl

noncomputable def Py:gE :=
 .loop (some (p_ false [1,2,2,2,29])) (.seq (p2 [p3 12 6,p0 13 [.nc 2] (.yM 1),qv 14 13 1,qf 15 14,qs 16 12 15 .leq] (.cond (.nc 16) .skip (.exit 0))) (.seq (.block 1 (.seq (qT [p0 19 [.nc 2] (.zE (.str 3)),p3 20 1,p3 21 6,p0 22 [.cv (.func 40 [] []),.nc 19,.nc 20,.nc 21,.cv (.int .i64 0)] (.call 3),p0 23 [.nc 2] (.zE (.str 3)),p3 24 1,p3 25 6,p0 26 [.cv (.func 40 [] []),.nc 23,.nc 24,.nc 25,.cv (.int .i64 1)] (.call 3),p1 7 22,p1 8 26]) (qM [p1 27 5,p3 28 7,p1 29 7,p0 30 [.Bs 29] (.un .neg),p3 31 8,p1 32 8,p0 33 [.Bs 32] (.un .neg),p0 34 [.jq 27,.jq 28,.jq 30,.jq 31,.jq 33] .max,p1 5 34]))) (qM [p1 17 6,qU 18 17 1,p1 6 18])))
noncomputable def Yb:gE :=
 p2 [p0 2 [.jq 0] .box,p' 4 0] (p2 [p' 5 0] (.seq (p2 [p0 9 [.nc 2] (.yM 1),qv 10 9 0,qf 11 10,p1 6 11] (.block 0 Py)) (p2 [p1 35 5,p1 4 35] .ret)))
theorem acC:qj Try.prog PY 42=some (Yb,36,[.tmp 4]):=by kernel_rfl
def Lm (p:(qg×(Int×Int))) (order:qk) (qe:Int→Option Int):Nat→Int→Int→Option Int
 | 0,_,_=>none
 | m+1,s1,s2 =>
   if (decide (s2≤p.2.2))=true then
    (Jr p order s2 (0:Int)).bind fun aS =>
    (Jr p order s2 (1:Int)).bind fun bj =>
    Lm p order qe m (max (max (max (max s1 aS) (w (-aS))) bj) (w (-bj))) (w (s2+(1:Int)))
   else
    qe s1
def Ll (p:(qg×(Int×Int))) (order:qk):Option Int :=
 Lm p order (fun yn =>
   some yn) qn (0:Int) p.2.1
theorem af1 {p:(qg×(Int×Int))} {order:qk} {qe:Int→Option Int} {s1:Int} {s2:Int} {v:Int} {Q:H6}   (ry:∀ (yn:Int) (bx:ar) (qh:List I),qe yn=some v→rO 36 [(5,(h0 yn))] qh→Q (.exit 0) qh [bx]) {T:List I} (b0:eZ (p_ false [1,2,2,2,29]) T=qb 36 [(1,(q3 order .shared)),(2,(.ptr 0 0)),(5,(h0 s1)),(6,(h0 s2))]) (h:Lm p order qe qn s1 s2=some v) :
  dQ Try.prog PY 42 0 none Py T [ar.cells [(q9 p.1 .shared),(h0 p.2.1),(h0 p.2.2)]] Q:=by
 unfold Py;refine wp_loop b0 ?_;refine .intro (fun m T H=>∃ (s1 s2:Int),T=qb 36 [(1,(q3 order .shared)),(2,(.ptr 0 0)),(5,(h0 s1)),(6,(h0 s2))]∧H=[ar.cells [(q9 p.1 .shared),(h0 p.2.1),(h0 p.2.2)]]∧Lm p order qe m s1 s2=some v) qn ⟨s1,s2,rfl,rfl,h⟩ ?_;clear h b0;rintro m T H ⟨s1,s2,rfl,rfl,h⟩;cases m
 ·exact Hr h
 rename_i m;rw [Lm.eq_2] at h;conv=>whnf
 refine bs h (fun gM h=>?_) fun gM h=>?_
 ·rw [gM];conv=>whnf
  obtain ⟨aS,gN,h⟩:=p8 h;refine ⟨qd.pl,_,Pm gN,q',?_⟩;conv=>whnf
  obtain ⟨bj,qp,h⟩:=p8 h;refine ⟨qd.pl,_,Pm qp,(PQ (fun _ e=>by simp at e) q'),?_⟩;conv=>whnf
  exact ⟨m,sG m,(max (max (max (max s1 aS) (w (-aS))) bj) (w (-bj))),(w (s2+(1:Int))),rfl,rfl,h⟩
 ·rw [gM];conv=>whnf
  exact ry _ _ _ h ⟨rfl,rfl⟩
theorem Xz {p:(qg×(Int×Int))} {order:qk} {v:Int} (h:Ll p order=some v):qt 42 [(.agg [(.av (p.1.flatMap p7) p.1.length .shared),(h0 p.2.1),(h0 p.2.2)]),(.av (order.map h0) order.length .shared)] (h0 v):=by
 refine qD eG acC rfl rfl fun Q bp=>?_;have jJ:qC [.tmp 4] Q (fun v=>(h0 v)) v:=fun T H bE=>bp _ T H bE;unfold Ll at h;unfold Yb;obtain ⟨H9,qG⟩:∃ c,Py=c:=⟨_,rfl⟩;rw [qG];conv=>whnf
 subst qG;refine af1 ?_ (by exact rfl) h;intro yn bx qh h qK;obtain ⟨rT,rfl⟩:=qK.ex;conv=>whnf
 exact p9 h jJ rfl rfl

end Go.Proofs.Ytkoioidpbbbaiaa.Ab


namespace Go.Proofs.Ytkoioidpbbbaiaa.Ab
open Go
set_option maxRecDepth 20000
set_option maxHeartbeats 1000000
abbrev q_ (p:qc) (o:List Int) (a:Nat) (d:Int):Int:=rH p.1 o a (qZ d)
def IF (p:qc) (o:List Int) (d:Int):Int:=max (max (q_ p o 0 d) (-(q_ p o 0 d))) (max (q_ p o 1 d) (-(q_ p o 1 d)))
def q5 (p:qc) (o:List Int):Int:=max (IF p o p.2.1) (IF p o p.2.2)
theorem aae (p:qc) (o:List Int) (d:Int):0≤IF p o d:=by unfold IF;omega
theorem Z6 (p:qc) (o:List Int):0≤q5 p o:=by have:=aae p o p.2.1;unfold q5;omega
theorem rv.len {p:qc} (h:rv p):3≤p.1.length∧p.1.length≤7:=by have:=h.n;omega
theorem qx.len {p:qc} {o:List Int} (h:rv p) (k:qx p.1.length o):o.length≤10:=by have:=h.len;have:=k.1;omega
theorem LS {p:qc} {o:List Int} {a:Nat} {d:Int} (h:rv p) (k:qx p.1.length o) (a1:0≤d∧d≤50):-60000≤q_ p o a d∧q_ p o a d≤60000 :=
 ac3 (B:=600) (qx.len h k) (by omega) fun i hi=>LC (IM h.s (HD k) hi) a1
theorem Tq (p:qc) (o:List Int) (a:Nat) {lo d hi:Int} (ab:lo≤d) (ae:d≤hi):(q_ p o a lo≤q_ p o a d∧q_ p o a d≤q_ p o a hi)∨(q_ p o a hi≤q_ p o a d∧q_ p o a d≤q_ p o a lo):=by
 simp only [q_,ac5];generalize rH p.1 o a Prod.snd=B;rcases Int.le_total 0 B with h | h
 ·have:=Int.mul_le_mul_of_nonneg_left ab h;have:=Int.mul_le_mul_of_nonneg_left ae h;omega
 ·have:=Int.mul_le_mul_of_nonpos_left h ab;have:=Int.mul_le_mul_of_nonpos_left h ae;omega
theorem aad {p:qc} {o:List Int} {lo d hi:Int} (ab:lo≤d) (ae:d≤hi):IF p o d≤max (IF p o lo) (IF p o hi):=by
 have a:=Tq p o 0 ab ae;have b:=Tq p o 1 ab ae;unfold IF;omega
theorem acX (a b c d:Int):max (max (max (max (max (max (max (max 0 a) (-a)) b) (-b)) c) (-c)) d) (-d)=max (max (max a (-a)) (max b (-b))) (max (max c (-c)) (max d (-d))):=by
 rw [show max (max 0 a) (-a)=max a (-a) by omega];simp only [Int.max_assoc]
section
variable {p:qc} {o:List Int}
theorem NR (h:rv p) (k:qx p.1.length o):JY (p,()) o=some (q5 p o):=by
 have hle:=h.le;have bD:=h.lo;have GO:=h.hi;unfold JY;have fL:=qx.len h k;rw [R8 (b:=(p,())) h.s (HD k) fL k.1.symm (show 0≤p.2.1∧p.2.1≤50 by omega),sa,R8 (b:=(p,())) h.s (HD k) fL k.1.symm (show 0≤p.2.2∧p.2.2≤50 by omega),sa];have aA:=LS (a:=0) h k (show 0≤p.2.1∧p.2.1≤50 by omega);have aG:=LS (a:=1) h k (show 0≤p.2.1∧p.2.1≤50 by omega);have aT:=LS (a:=0) h k (show 0≤p.2.2∧p.2.2≤50 by omega);have br:=LS (a:=1) h k (show 0≤p.2.2∧p.2.2≤50 by omega);simp only;rw [qO (n := -(q_ p o 0 p.2.1)) (by omega),qO (n := -(q_ p o 1 p.2.1)) (by omega),qO (n := -(q_ p o 0 p.2.2)) (by omega),qO (n := -(q_ p o 1 p.2.2)) (by omega)];exact congrArg some (acX _ _ _ _)
theorem Pn (h:rv p) (k:qx p.1.length o) {d:Int} (a1:0≤d∧d≤50) {a:Nat}:Jr p o d (a:Int)=some (q_ p o a d):=agi h.s (HD k) (qx.len h k) a1
theorem aan {n:Nat} (h:n≤1000000):n<qn:=I8 h
theorem Uy (h:rv p) (k:qx p.1.length o):∀ (m i:Nat) (s:Int),p.2.1+i≤p.2.2+1→(p.2.2+1-(p.2.1+i)).toNat<m→0≤s→s≤q5 p o→(0<i→IF p o p.2.1≤s)→(p.2.1+i=p.2.2+1→IF p o p.2.2≤s) →
  Lm p o (fun z=>some z) m s (p.2.1+i)=some (q5 p o)
 | 0,_,_,_,h,_,_,_,_=>absurd h (by omega)
 | m+1,i,s,hi,hm,aQ,ab,ae,aF=>by
   have hle:=h.le;have bD:=h.lo;have GO:=h.hi;rw [Lm];by_cases aR:p.2.1+i≤p.2.2
   ·rw [if_pos (decide_eq_true aR)];rw [show (0:Int)=((0:Nat):Int) from rfl,Pn h k (d:=p.2.1+i) (by omega),sa];rw [show (1:Int)=((1:Nat):Int) from rfl,Pn h k (d:=p.2.1+i) (by omega),sa];have aA:=LS (a:=0) h k (show 0≤p.2.1+i∧p.2.1+i≤50 by omega);have aG:=LS (a:=1) h k (show 0≤p.2.1+i∧p.2.1+i≤50 by omega);rw [qO (n := -(q_ p o 0 (p.2.1+i))) (by omega),qO (n := -(q_ p o 1 (p.2.1+i))) (by omega),qO (by omega)];(have e:max (max (max (max s (q_ p o 0 (p.2.1+i))) (-(q_ p o 0 (p.2.1+i)))) (q_ p o 1 (p.2.1+i))) (-(q_ p o 1 (p.2.1+i)))=max s (IF p o (p.2.1+i)):=by unfold IF;simp only [Int.max_assoc]);have b:=aad (p:=p) (o:=o) (lo:=p.2.1) (d:=p.2.1+i) (hi:=p.2.2) (by omega) aR;rw [e,show p.2.1+(i:Int)+((1:Nat):Int)=p.2.1+((i+1:Nat):Int) by omega];refine Uy h k m (i+1) _ (by omega) (by omega) (by omega) (by unfold q5 at *;omega) (fun _=>?_) (fun he=>?_)
    ·by_cases gb:i=0
     ·subst gb;simp only [Int.natCast_zero,Int.add_zero];omega
     ·have:=ae (by omega);omega
    ·rw [show p.2.1+(i:Int)=p.2.2 by omega];omega
   ·rw [if_neg (by simpa using by omega)];have:=ae (by omega);have:=aF (by omega);congr 1;unfold q5 at *;omega
theorem Xy (h:rv p) (k:qx p.1.length o):Ll p o=some (q5 p o):=by
 have hle:=h.le;have bD:=h.lo;have GO:=h.hi;unfold Ll;have:=Uy h k qn 0 0 (by omega) (aan (by omega)) (by omega) (Z6 p o) (fun h=>absurd h (by omega)) (fun h=>by omega);simpa using this
theorem Lk (aB:p.1.length≤1000) (ao:o.length≤12):Im p o=some (if ru p o=0 then (q5 p o,0) else (0,ru p o)):=by
 unfold Im;rw [Pl aB ao,sa];by_cases h:ru p o=0
 ·rw [if_pos h,if_pos h];obtain ⟨ab,ae⟩:=Kd.1 h;simp only;rw [if_neg (by decide),NR ab ae];rfl
 ·rw [if_neg h,if_neg h];simp only;rw [if_pos (decide_eq_true h)]
theorem Mw (aB:p.1.length≤1000) (ao:o.length≤12) (d:Int):IA p o d=some (if ru p o=0 then (if p.2.1≤d∧d≤p.2.2 then (q_ p o 0 d,q_ p o 1 d,0) else (0,0,3)) else (0,0,ru p o)):=by
 unfold IA;rw [Pl aB ao,sa];by_cases h:ru p o=0
 ·rw [if_pos h,if_pos h];obtain ⟨ab,ae⟩:=Kd.1 h;have hle:=ab.le;have bD:=ab.lo;have GO:=ab.hi;simp only;rw [if_neg (by decide),My,sa];by_cases a1:p.2.1≤d∧d≤p.2.2
  ·rw [if_pos (by simp [a1.1,a1.2]),if_pos a1,R8 (b:=(p,())) ab.s (HD ae) (qx.len ab ae) ae.1.symm (by omega)];rfl
  ·rw [if_neg (by simpa using a1),if_neg a1]
 ·rw [if_neg h,if_neg h];simp only;rw [if_pos (decide_eq_true h)]
end
end Go.Proofs.Ytkoioidpbbbaiaa.Ab


namespace Go.Proofs.Ytkoioidpbbbaiaa.Ab
open Go
noncomputable def OM:gE :=
 .seq (qT [p0 37 [.nc 10] (.zE (.str 2)), p0 38 [] (.build [.int .i64 0, .int .i64 0] []), p0 39 [.Bs 37, .Bs 38] (.other (Oper.mk (some 39) (Op.binOp .eql 102 (Operand.tmp 37) (Operand.tmp 38) 102) 4 "press.go:129" (Array.mk [Edge.mk 0 Ground.data, Edge.mk 1 Ground.data]) none) 0), p1 40 39, cl 41 [.jq 11] 40 false .mU, cl 42 [.jq 41] 40 false .mU, cl 43 [.nc 10] 42 true (.yM 0), cl 44 [.Bs 43] 42 true (.zE .one), cl 45 [.nc 10] 42 true (.yM 1), cl 46 [.Bs 45] 42 true (.zE .one), cl 47 [.jq 0] 42 true .mU, cl 48 [.Bs 47] 42 true .z4, cl 49 [.Bs 48] 42 true (.yM 0), cl 50 [.Bs 49] 42 true (.yM 1), cl 51 [.Bs 50] 42 true (.yM 0), cl 52 [.Bs 51] 42 true (.zE .one), cl 53 [.Bs 46, .Bs 52] 42 true (.bin .mul), cl 54 [.Bs 44, .Bs 53] 42 true (.bin .add), cl 55 [.Bs 54, .cv (.int .i64 0)] 42 true (.bin .eql), cl 56 [.nc 42, .Bs 55, .cv (.bool false)] 40 false .pick, p0 57 [.nc 40, .cv (.bool true), .Bs 56] .pick, p0 8 [.cv (.av [] 0 .full)] (.nil 3), p1 9 57]) .ret
noncomputable def Rr:gE :=
 .ov false [p3 80 0,p0 81 [.Bs 80] .z4,qv 82 81 3,qf 83 82,p3 84 0,p3 85 3,p0 86 [.Bs 85,.cv (.int .i64 0)] (.kY 1),qf 87 86,p0 88 [.cv (.func 68 [] []),.jq 84,.jq 87] (.call 9),p3 89 12,⟨none,[.Bs 83,.Bs 88,.Bs 89],none,none,.zR (.int .i64)⟩]
noncomputable def OO:gE :=
 p2 [p3 73 0,p3 74 0,p3 75 3,p0 76 [.Bs 75,.cv (.int .i64 0)] (.kY 1),qf 77 76,p0 78 [.cv (.func 68 [] []),.jq 74,.jq 77] (.call 9),p0 79 [.cv (.func 71 [] []),.nc 73,.nc 78] (.call 2),p1 12 79] Rr
noncomputable def Rs:gE :=
 .ov true [p0 98 [.nc 10] (.yM 0),qf 99 98,p0 100 [.Bs 99] (.un .neg),p0 101 [.nc 10] (.yM 1),qf 102 101,p1 103 0,p0 104 [.Bs 103] .z4,qv 105 104 0,qv 106 105 1,qv 107 106 0,qf 108 107,qs 109 102 108 .mul,qs 110 100 109 .sub,p0 111 [.Bs 110,.cv (.int .i64 0)] (.build [.int .i64 0,.int .i64 0] [(0,1),(1,1)]),⟨none,[.nc 14,.jq 111],none,none,.st 2⟩]
noncomputable def Wa:gE :=
 .seq (qT [p1 120 1,p1 121 3,p0 122 [.Bs 121,.cv (.int .i64 0)] (.kY 1),qf 123 122,rn 124 120 123 1,qf 125 124,p0 126 [.Bs 15] (.zE (.str 2)),p0 127 [.Bs 125,.Bs 126] (.build [.int .i64 0,.int .i64 0,.int .i64 0] [(0,1),(1,2)]),p0 128 [.Bs 127] (.yB 1 3 [.int .i64 0,.int .i64 0,.int .i64 0] [0]),p1 8 128,p0 9 [.cv (.bool true)] .mU]) .ret
noncomputable def OP:gE :=
 .seq (p2 [p1 118 13,p0 119 [.Bs 118] (.un .not)] (.cond (.nc 119) (p2 [p0 8 [.cv (.av [] 0 .full)] (.nil 3),p0 9 [.cv (.bool false)] .mU] .ret) .skip)) Wa
noncomputable def OQ:gE :=
 p2 [p1 113 12,p0 114 [.Bs 14] (.zE (.str 2)),p0 115 [.Bs 113,.Bs 114] (.zQ (.str 2) true (some (.agg [.int .i64 0,.int .i64 0]))),p1 112 115,qo 116 112 0,p0 117 [.Bs 112] (.ext 1),p0 15 [] (.alloc [.int .i64 0,.int .i64 0]),⟨none,[.nc 15,.jq 116],none,none,.st 2⟩,p1 13 117] OP
noncomputable def Np:gE :=
 p2 [p0 90 [.nc 10] (.yM 0),qf 91 90,p0 92 [.Bs 91] (.un .neg),p0 93 [.nc 10] (.yM 1),qf 94 93,p0 95 [.Bs 94] (.un .neg),p0 96 [.Bs 92,.Bs 95] (.build [.int .i64 0,.int .i64 0] [(0,1),(1,1)]),p0 14 [] (.alloc [.int .i64 0,.int .i64 0]),⟨none,[.nc 14,.jq 96],none,none,.st 2⟩] (.seq (p2 [p1 97 11] (.cond (.nc 97) Rs .skip)) OQ)
noncomputable def Mg:gE :=
 p2 [p3 59 0,p0 60 [.Bs 59] .z4,qv 61 60 3,qf 62 61,p3 63 0,p3 64 3,p0 65 [.Bs 64,.cv (.int .i64 0)] (.kY 1),qf 66 65,p0 67 [.cv (.func 68 [] []),.jq 63,.jq 66] (.call 9),p0 68 [.Bs 62,.Bs 67] (.zQ (.int .i64) true (some .a0)),p1 58 68,qo 69 58 0,qo 70 58 1,p1 12 69,p1 13 70] (.seq (p2 [p1 71 13,p0 72 [.Bs 71] (.un .not)] (.cond (.nc 72) OO .skip)) Np)
noncomputable def Nn:gE :=
 .seq (qT [p3 21 0,p0 22 [.Bs 21] .z4,qv 23 22 0,qv 24 23 1,qv 25 24 0,qf 26 25,p3 27 0,p0 28 [.Bs 27] .z4,qv 29 28 0,qv 30 29 1,qv 31 30 1,qf 32 31,qs 33 26 32 .eql,p1 11 33]) (.seq (p2 [p3 34 3,qW 35 34,qu 36 35 0 .eql] (.cond (.nc 36) OM .skip)) Mg)
noncomputable def Rq:gE :=
 p2 [p3 16 0,p3 17 1,p1 18 2,p3 19 3,p0 20 [.cv (.func 62 [] []),.jq 16,.jq 17,.jq 18,.jq 19] (.call 9),p0 10 [] (.alloc [.int .i64 0,.int .i64 0]),⟨none,[.nc 10,.jq 20],none,none,.st 2⟩] Nn
noncomputable def OL:gE :=
 p2 [p0 8 [.cv (.av [] 0 .full)] (.nil 3),p0 9 [.cv (.bool false)] .mU] Rq
theorem QV:qj Go.Proofs.Try.prog LB 53=some (OL,129,[.tmp 8,.tmp 9]):=by kernel_rfl
end Go.Proofs.Ytkoioidpbbbaiaa.Ab


namespace Go.Proofs.Ytkoioidpbbbaiaa.Ab
open Go
set_option maxRecDepth 20000
set_option maxHeartbeats 4000000
abbrev rP:=((List (Int×Int))×(Int×Int))×Unit
abbrev rF (b:rP) (m:Nat):I:=.bS [.av (b.1.1.flatMap p7) b.1.1.length .shared,h0 b.1.2.1,h0 b.1.2.2,.map m]
def HP (b:rP) (m:Nat) (H:List ar):Prop:=∃ (es:List (Nat×I×I)) (ID:Nat),H[m]?=some (.map es ID) ∧
 ∀ e∈es,∃ (x:Int) (id c:Nat) (A:qY),e.2.1=h0 x∧e.2.2=.map id∧id≠m∧H[id]?=some (.map (q2 A) c)∧MB b x=some A
theorem HP.more {b:rP} {m:Nat} {H:List ar} (h:HP b m H) (Z:List ar):HP b m (H++Z):=by
 obtain ⟨es,ID,ab,ae⟩:=h;refine ⟨es,ID,by rw [sf (r_.1 ab).1];exact ab,fun e he=>?_⟩;obtain ⟨x,id,c,A,aA,aG,aT,br,bg⟩:=ae e he;exact ⟨x,id,c,A,aA,aG,aT,by rw [sf (r_.1 br).1];exact br,bg⟩
theorem TC {x:Int}:∀ {es:List (Nat×I×I)} {n:Nat},(∀ e∈es,∃ y:Int,e.2.1=h0 y)→(∃ i e,fH (h0 x) es n=some (some (n+i))∧es[i]?=some e∧e.2.1=h0 x)∨fH (h0 x) es n=some none
 | [],n,_=>.inr rfl
 | (i,k,v)::es,n,h=>by
   obtain ⟨y,aY⟩:=h (i,k,v) (by simp);simp only at aY;subst aY;have he:gK (h0 x) (h0 y)=some (decide (x=y)):=by
    simp only [gK,if_true,Option.some.injEq];rw [vt];simp
   by_cases e:x=y
   ·subst e;refine .inl ⟨0,_,?_,rfl,rfl⟩;simp only [fH,he,decide_true];rfl
   ·rcases TC (x:=x) (es:=es) (n:=n+1) (fun e he=>h e (by simp [he])) with ⟨j,b',ab,ae,aF⟩ | ab
    ·refine .inl ⟨j+1,b',?_,by simpa using ae,aF⟩;simp only [fH,he];rw [decide_eq_false e];show fH (h0 x) es (n+1)=_;rw [ab];congr 2;omega
    ·refine .inr ?_;simp only [fH,he];rw [decide_eq_false e];exact ab
def H4 (m:Nat) (H H':List ar):Prop:=H.length≤H'.length∧∀ j,j≠m→j<H.length→H'[j]?=H[j]?
def Ie (b:rP) (order:List Int) (qq:Int) (K3:List Int):Option (List qm×Bool) :=
 (Lw b order qq K3).bind fun left =>
 match K3 with
 | []=>some ([],decide (left=(0,0)) || (decide (b.1.2.1=b.1.2.2) && decide (w (left.1+w (left.2*b.1.2.1))=0)))
 | cy::_ =>
   (JZ b cy).bind fun x=>(MB b x).bind fun A =>
   match Jg A (if b.1.2.1=b.1.2.2 then (w (w (-left.1)-w (left.2*b.1.2.1)),0) else (w (-left.1),w (-left.2))) with
   | none=>some ([],false)
   | some s=>qI (0≤cy∧cy<(order.length:Int)) <| some ([(ix order cy,s)],true)
theorem XN {b:rP} {order:List Int} {qq:Int} {v:List qm×Bool} (h:Ie b order qq []=some v) {m lo:Nat} {H:List ar} (bD:lo≤H.length) :
  v.1=[]∧∃ o,Sem Try.prog (.fn 53) [rF b m,.av (order.map h0) order.length .shared,h0 qq,.av [] 0 .full] H lo (.tuple [.av [] 0 .shared,B v.2]) (H++[o]):=by
 unfold Ie at h;obtain ⟨left,ao,h⟩:=p8 h;obtain rfl:=Option.some.inj h;refine ⟨rfl,.cells [h0 left.1,h0 left.2],?_⟩;refine re eG QV rfl (a'.append _ _ _) fun Q bp=>?_;unfold OL Rq;obtain ⟨Zx,J7⟩:∃ c,Nn=c:=⟨_,rfl⟩;rw [J7];conv=>whnf
 refine ⟨_,_,call9 (bs:=[lp b,.av (order.map h0) order.length .shared,h0 qq,.av (([]:List Int).map h0) ([]:List Int).length .shared]) rfl (p4 (H0 b) (p4 (rE (fun _=>rfl) _ _ _) (p4 rfl (p4 rfl rfl)))) (Pt ao),?_⟩;conv=>whnf
 rw [th bD];refine Ew (x:=ar.cells [h0 0,h0 0]) (by first | exact qN.h | rfl | (simp [sm,I.settle];done)) ?_
 conv=>whnf
 rw [HO];subst J7;unfold Nn;obtain ⟨B9,KF⟩:∃ c,Mg=c:=⟨_,rfl⟩;obtain ⟨a7,cf⟩:∃ c,OM=c:=⟨_,rfl⟩;rw [KF,cf];conv=>whnf
 subst cf;unfold OM;conv=>whnf
 refine Ew (x:=ar.cells [h0 left.1,h0 left.2]) (by first | exact qN.h | rfl | (simp [sm,I.settle];done)) ?_
 conv=>whnf
 refine ⟨.bool (decide (left=(0,0))),_,fun C=>Vj rfl rfl (YE (fs:=aam Try.prog 102) (by kernel_rfl) (by kernel_rfl) (by kernel_rfl) (by kernel_rfl) (by kernel_rfl) _ _ _ _ (.inl rfl)),?_⟩;conv=>whnf
 by_cases bk:left=(0,0)
 ·rw [decide_eq_true bk];conv=>whnf
  rw [decide_eq_true bk] at bp;exact bp _ _ _ ⟨.inr rfl,lI.refl _,rfl⟩
 ·rw [decide_eq_false bk];rw [decide_eq_false bk] at bp;conv=>whnf
  by_cases aq:b.1.2.1=b.1.2.2
  ·rw [decide_eq_true aq];rw [decide_eq_true aq] at bp;(conv=>whnf);refine Ew (x:=ar.cells [h0 left.1,h0 left.2]) (by first | exact qN.h | rfl | (simp [sm,I.settle];done)) ?_
   (conv=>whnf);refine Ew (x:=ar.cells [h0 left.1,h0 left.2]) (by first | exact qN.h | rfl | (simp [sm,I.settle];done)) ?_
   (conv=>whnf);exact bp _ _ _ ⟨.inr rfl,lI.refl _,rfl⟩
  ·rw [decide_eq_false aq];rw [decide_eq_false aq] at bp;(conv=>whnf);exact bp _ _ _ ⟨.inr rfl,lI.refl _,rfl⟩
theorem W1 {b:rP} {order:List Int} {cy:Int} {left:qQ} {A:qY} {v:List qm×Bool} (h:(match Jg A (if b.1.2.1=b.1.2.2 then (w (w (-left.1)-w (left.2*b.1.2.1)),0) else (w (-left.1),w (-left.2))) with
  | none=>some ([],false)
  | some s=>qI (0≤cy∧cy<(order.length:Int)) <| some ([(ix order cy,s)],true))=some v) {m lo p10 id c:Nat} {H:List ar} {Xa Xf Xg Xh O9 Xi O' W7:I} (bD:lo≤H.length) (dp:H[p10]?=some (.cells [h0 left.1,h0 left.2])) (aE:H[id]?=some (.map (q2 A) c)) {Q:cQ→List I→List ar→Prop}
  (bp:∀ T bx bK,(rB (H++[bx,bK]) T [.tmp 8,.tmp 9]).map jg=some (.tuple [.av (v.1.flatMap ql) v.1.length .shared,B v.2])→Q .ret T (H++[bx,bK])) :
  dQ Try.prog LB 53 lo none Np (qb 129 [(0,rF b m),(1,.av (order.map h0) order.length .shared),(3,.av [h0 cy] 1 (.own 1)),(8,Xi),(9,O'),(10,.ptr p10 0),(11,.bool (decide (b.1.2.1=b.1.2.2))),(12,.map id),(13,W7),(36,Xa),(58,Xf),(72,Xg),(73,Xh),(78,O9)]) H Q:=by
 have J7:∀ Z,(H++Z)[p10]?=some (.cells [h0 left.1,h0 left.2]):=fun Z=>by rw [sf (r_.1 dp).1];exact dp
 have gid:∀ Z,(H++Z)[id]?=some (.map (q2 A) c):=fun Z=>by rw [sf (r_.1 aE).1];exact aE
 obtain ⟨Jp,M4⟩:∃ Jp,Jp=(if b.1.2.1=b.1.2.2 then (w (w (-left.1)-w (left.2*b.1.2.1)),0) else (w (-left.1),w (-left.2))):=⟨_,rfl⟩;rw [←M4] at h;have fin:∀ v0 Xj,dQ Try.prog LB 53 lo none OQ (qb 129 [(0,v0),(1,.av (order.map h0) order.length .shared),(3,.av [h0 cy] 1 (.own 1)),(8,Xi),(9,O'),(10,.ptr p10 0),(12,.map id),(13,W7),(14,.ptr H.length 0),(36,Xa),(58,Xf),(72,Xg),(73,Xh),(78,O9),(97,Xj)]) (H++[ar.cells [h0 Jp.1,h0 Jp.2]]) Q:=by
  intro v0 Xj;unfold OQ;obtain ⟨f',Hh⟩:∃ c,OP=c:=⟨_,rfl⟩;rw [Hh];conv=>whnf
  refine Ew (x:=ar.cells [h0 Jp.1,h0 Jp.2]) (by first | exact qN.h | rfl | (simp [sm,I.settle];done)) ?_
  conv=>whnf
  rcases ace Jp A with ⟨s,i,e,aJ,aN,cb,hq⟩ | ⟨aJ,aN⟩
  ·rw [aJ] at h;obtain ⟨jT,h⟩:=Hj h;obtain rfl:=Option.some.inj h;refine ⟨rfl,_,_,gid _,some i,aN,e,cb,?_⟩;rw [hq];(conv=>whnf);rw [th (show lo≤(H++[ar.cells [h0 Jp.1,h0 Jp.2]]).length by simp;omega)];refine Ew (x:=ar.cells [h0 0,h0 0]) (by first | exact qN.h | rfl | (simp [sm,I.settle];done)) ?_
   (conv=>whnf);rw [HO];subst Hh;unfold OP Wa;(conv=>whnf);refine ⟨⟨sS _,by decide⟩,?_⟩;(conv=>whnf);refine ⟨jT,?_⟩;rw [rD h0 order cy jT];(conv=>whnf);refine Ew (x:=ar.cells [h0 s.1,h0 s.2]) (by first | exact qN.h | rfl | (simp [sm,I.settle];done)) ?_
   (conv=>whnf);rw [sw];exact bp _ _ _ rfl
  ·rw [aJ] at h;obtain rfl:=Option.some.inj h;refine ⟨rfl,_,_,gid _,none,aN,_,rfl,?_⟩;(conv=>whnf);rw [th (show lo≤(H++[ar.cells [h0 Jp.1,h0 Jp.2]]).length by simp;omega)];refine Ew (x:=ar.cells [h0 0,h0 0]) (by first | exact qN.h | rfl | (simp [sm,I.settle];done)) ?_
   (conv=>whnf);rw [HO];subst Hh;unfold OP;(conv=>whnf);rw [sw];exact bp _ _ _ rfl
 unfold Np;obtain ⟨nu,LL⟩:∃ c,OQ=c:=⟨_,rfl⟩;obtain ⟨b6,iP⟩:∃ c,Rs=c:=⟨_,rfl⟩;rw [LL,iP];conv=>whnf
 refine Ew dp ?_;conv=>whnf
 refine Ew dp ?_;conv=>whnf
 rw [th bD];refine Ew (x:=ar.cells [h0 0,h0 0]) (by first | exact qN.h | rfl | (simp [sm,I.settle];done)) ?_
 conv=>whnf
 rw [HO];by_cases aq:b.1.2.1=b.1.2.2
 ·rw [decide_eq_true aq];rw [if_pos aq] at M4;conv=>whnf
  subst iP;unfold Rs;conv=>whnf
  refine Ew (J7 _) ?_;conv=>whnf
  refine Ew (J7 _) ?_;conv=>whnf
  rw [th bD];refine Ew (x:=ar.cells [h0 (w (-left.1)),h0 (w (-left.2))]) (by first | exact qN.h | rfl | (simp [sm,I.settle];done)) ?_
  conv=>whnf
  rw [HO];subst LL;rw [M4] at fin;exact fin _ _
 ·rw [decide_eq_false aq];rw [if_neg aq] at M4;conv=>whnf
  subst LL;rw [M4] at fin;exact fin _ _
theorem TB {H:List ar} {bx bK:ar}:lI (H++[bx,bK]) (H++[.dead,.dead]):=by
 refine ⟨by simp,fun id o aq=>?_⟩;by_cases h:id<H.length
 ·rw [sf h] at aq ⊢;exact .inr aq
 ·rw [List.getElem?_append_right (by omega)] at aq;refine .inl ?_
  match ae:id-H.length with
  | 0=>rw [ae] at aq;exact (Option.some.inj aq).symm
  | 1=>rw [ae] at aq;exact (Option.some.inj aq).symm
  | n+2=>rw [ae] at aq;cases aq
theorem XO {b:rP} {order:List Int} {qq cy:Int} {v:List qm×Bool} (h:Ie b order qq [cy]=some v) {m lo:Nat} {H:List ar} (bD:lo≤m) (bG:HP b m H) :
  ∃ H',HP b m H'∧H4 m H H'∧Sem Try.prog (.fn 53) [rF b m,.av (order.map h0) order.length .shared,h0 qq,.av [h0 cy] 1 (.uniq 1)] H lo (.tuple [.av (v.1.flatMap ql) v.1.length .shared,B v.2]) H':=by
 unfold Ie at h;obtain ⟨left,ao,h⟩:=p8 h;obtain ⟨x,aj,h⟩:=p8 h;obtain ⟨A,aL,h⟩:=p8 h;have On:=bG;obtain ⟨es,ID,hm,Jd⟩:=On;have er:=(r_.1 hm).1;have Ug:∀ Z,(H++Z)[m]?=some (.map es ID):=fun Z=>by rw [sf er];exact hm
 have aha:([rF b m,.av (order.map h0) order.length .shared,h0 qq,.av [h0 cy] 1 .shared]:List I).map I.gw=[lp b,.av (order.map h0) order.length .shared,h0 qq,.av [h0 cy] 1 .shared]:=rfl;have start:∀ (Q:cQ→List I→List ar→Prop),dQ Try.prog LB 53 lo none Mg (qb 129 [(0,rF b m),(1,.av (order.map h0) order.length .shared),(3,.av [h0 cy] 1 (.own 1)),(8,.av [] 0 (.uniq 3)),(9,.bool false),(10,.ptr H.length 0),(11,.bool (decide (b.1.2.1=b.1.2.2))),(36,.bool false)]) (H++[ar.cells [h0 left.1,h0 left.2]]) Q →
   dQ Try.prog LB 53 lo none OL (qb 129 [(0,rF b m),(1,.av (order.map h0) order.length .shared),(2,h0 qq),(3,.av [h0 cy] 1 (.uniq 1))]) H Q:=by
  intro Q a_;unfold OL Rq;obtain ⟨Zx,J7⟩:∃ c,Nn=c:=⟨_,rfl⟩;rw [J7];conv=>whnf
  refine ⟨_,_,call9 (bs:=[lp b,.av (order.map h0) order.length .shared,h0 qq,.av (([cy]:List Int).map h0) ([cy]:List Int).length .shared]) rfl (p4 (H0 b) (p4 (rE (fun _=>rfl) _ _ _) (p4 rfl (p4 rfl rfl)))) (Pt ao),?_⟩;conv=>whnf
  rw [th (show lo≤H.length by omega)];refine Ew (x:=ar.cells [h0 0,h0 0]) (by first | exact qN.h | rfl | (simp [sm,I.settle];done)) ?_
  conv=>whnf
  rw [HO];subst J7;unfold Nn;obtain ⟨B9,KF⟩:∃ c,Mg=c:=⟨_,rfl⟩;obtain ⟨a7,cf⟩:∃ c,OM=c:=⟨_,rfl⟩;rw [KF,cf];conv=>whnf
  subst KF;exact a_
 have aaY:∀ e∈es,∃ y:Int,e.2.1=h0 y:=fun e he=>by
  obtain ⟨y,_,_,_,ab,_⟩:=Jd e he;exact ⟨y,ab⟩
 rcases TC (x:=x) (n:=0) aaY with ⟨i,e,aJ,aN,cb⟩ | aJ
 ·obtain ⟨y,id,c,Sk,aA,aG,aT,br,bg⟩:=Jd e (su aN);rw [cb] at aA;have aba:x=y:=by injection aA
  subst aba;rw [aL] at bg;obtain rfl:=Option.some.inj bg;rw [sy] at aJ;refine ⟨(H++[ar.cells [h0 left.1,h0 left.2]])++[.dead,.dead],(bG.more _).more _,⟨by simp,fun j _ aw=>by rw [sw,sf aw]⟩,?_⟩;refine re eG QV rfl (by rw [sw];exact a'.append _ _ _) fun Q bp=>?_;refine start Q ?_;unfold Mg;obtain ⟨bt,eS⟩:∃ c,OO=c:=⟨_,rfl⟩;obtain ⟨nv,I_⟩:∃ c,Np=c:=⟨_,rfl⟩;rw [eS,I_];conv=>whnf
  refine ⟨⟨sS _,by decide⟩,?_⟩;conv=>whnf
  refine ⟨_,_,call9 (bs:=[lp b,h0 cy]) rfl (p4 (H0 b) (p4 rfl rfl)) (Kw aj),?_⟩;conv=>whnf
  refine ⟨rfl,_,_,Ug _,some i,aJ,e,aN,?_⟩;rw [aG];conv=>whnf
  subst I_;refine W1 (A:=A) (c:=c) h (by simp;omega) (IH _ _) (by rw [sf (r_.1 br).1];exact br) fun T bx bK ai=>?_;exact bp _ _ _ ⟨.inr rfl,TB,ai⟩
 ·obtain ⟨c,D,cp⟩:=agr aL;obtain ⟨H1,bW⟩:∃ H1,H1=H++[ar.cells [h0 left.1,h0 left.2]]:=⟨_,rfl⟩;have jU:H1.length=H.length+1:=by rw [bW];simp
  have nP:H1[m]?=some (.map es ID):=by rw [bW];exact Ug _
  obtain ⟨H2,ch⟩:∃ H2,H2=(H1++[ar.map (q2 A) c]).set m (.map (es++[(ID,h0 x,.map H1.length)]) (ID+1)):=⟨_,rfl⟩;have eF:H2.length=H.length+2:=by rw [ch];simp [jU]
  have aO:∀ j,j≠m→H2[j]?=(H1++[ar.map (q2 A) c])[j]?:=fun j aw=>by rw [ch,sc (by omega)]
  have Uc:H2[H1.length]?=some (.map (q2 A) c):=by rw [aO _ (by omega)];exact IH _ _
  have aaT:H2[m]?=some (.map (es++[(ID,h0 x,.map H1.length)]) (ID+1)):=by rw [ch];exact si (by simp;omega)
  have aas:HP b m H2:=by
   refine ⟨_,_,aaT,fun e he=>?_⟩;rcases tc.1 he with he | he
   ·obtain ⟨y,id,dU,Sk,aA,aG,aT,br,bg⟩:=Jd e he;have aE:=(r_.1 br).1;refine ⟨y,id,dU,Sk,aA,aG,aT,?_,bg⟩;rw [aO _ aT,bW,sw,sf aE];exact br
   ·obtain rfl:=sQ.1 he;exact ⟨x,H1.length,c,A,rfl,rfl,by omega,Uc,aL⟩
  refine ⟨H2++[.dead,.dead],aas.more _,⟨by simp [eF];omega,fun j aw mo=>?_⟩,?_⟩
  ·rw [sf (by omega),aO _ aw,bW,sw,sf mo]
  have JO:a' lo H (H2++[.dead,.dead]):=by
   refine ⟨by simp [eF];omega,fun j ab ae=>?_⟩;rw [sf (by omega),aO _ (by omega),bW,sw,sf (by omega)]
  refine re eG QV rfl JO fun Q bp=>?_;refine start Q ?_;rw [←bW];unfold Mg;obtain ⟨bt,eS⟩:∃ c,OO=c:=⟨_,rfl⟩;obtain ⟨nv,I_⟩:∃ c,Np=c:=⟨_,rfl⟩;rw [eS,I_];conv=>whnf
  refine ⟨⟨sS _,by decide⟩,?_⟩;conv=>whnf
  refine ⟨_,_,call9 (bs:=[lp b,h0 cy]) rfl (p4 (H0 b) (p4 rfl rfl)) (Kw aj),?_⟩;conv=>whnf
  refine ⟨rfl,_,_,nP,none,aJ,_,rfl,?_⟩;conv=>whnf
  subst eS;unfold OO;obtain ⟨a9,ca⟩:∃ c,Rr=c:=⟨_,rfl⟩;rw [ca];conv=>whnf
  refine ⟨⟨sS _,by decide⟩,?_⟩;conv=>whnf
  refine ⟨_,_,call9 (bs:=[lp b,h0 cy]) rfl (p4 (H0 b) (p4 rfl rfl)) (Kw aj),?_⟩;conv=>whnf
  have zg:∀ (j i:Nat) (k v:I),(q2 A)[j]?=some (i,k,v)→cr 8 k=true∧cr 8 v=true:=fun j i k v aw=>by
   obtain ⟨a,_,cu⟩:=sA.1 (su aw);obtain ⟨_,ae⟩:=Prod.mk.inj cu;obtain ⟨rfl,rfl⟩:=Prod.mk.inj ae;exact ⟨HS (p4 rfl (p4 rfl rfl)),HS (p4 rfl (p4 rfl rfl))⟩
  refine ⟨_,_,ZA (args:=[rF b m,h0 x]) (es:=q2 A) (clock:=c) (D:=D) (p4 (H0 b) (p4 rfl rfl)) zg cp _ _,?_⟩;conv=>whnf
  subst ca;unfold Rr;conv=>whnf
  refine ⟨⟨sS _,by decide⟩,?_⟩;conv=>whnf
  refine ⟨_,_,call9 (bs:=[lp b,h0 cy]) rfl (p4 (H0 b) (p4 rfl rfl)) (Kw aj),?_⟩;conv=>whnf
  rw [th bD];refine ⟨rfl,es,ID,by rw [sf (by omega)];exact nP,none,aJ,?_⟩;conv=>whnf
  rw [←ch];subst I_;refine W1 (A:=A) (c:=c) (p10:=H.length) (id:=H1.length) h (by omega) (by rw [aO _ (by omega),sf (by omega),bW];exact IH _ _) Uc fun T bx bK ai=>?_;exact bp _ _ _ ⟨.inr rfl,TB,ai⟩

end Go.Proofs.Ytkoioidpbbbaiaa.Ab


namespace Go.Proofs.Ytkoioidpbbbaiaa.Ab
open Go
set_option maxRecDepth 20000
set_option maxHeartbeats 4000000

end Go.Proofs.Ytkoioidpbbbaiaa.Ab


namespace Go.Proofs.Ytkoioidpbbbaiaa.Ab
open Go
set_option maxRecDepth 20000
set_option maxHeartbeats 4000000
end Go.Proofs.Ytkoioidpbbbaiaa.Ab


namespace Go.Proofs.Ytkoioidpbbbaiaa.Ab
open Go
set_option maxRecDepth 20000
set_option maxHeartbeats 1000000
def Ig (p:qc) (o:List Int) (a:Nat):Prop:=q_ p o a p.2.1=0∧q_ p o a p.2.2=0
instance (p:qc) (o:List Int) (a:Nat):Decidable (Ig p o a):=by unfold Ig;exact inferInstance
def I0 (p:qc) (o:List Int) (a i:Nat) (s:qw):Prop :=
 qB p.1 o a [(i:Int)] (qZ p.2.1)+qz o.length i*qZ p.2.1 s=0∧qB p.1 o a [(i:Int)] (qZ p.2.2)+qz o.length i*qZ p.2.2 s=0
instance (p:qc) (o:List Int) (a i:Nat) (s:qw):Decidable (I0 p o a i s):=by unfold I0;exact inferInstance
def I4 (t:Nat):qw:=(((t % 101:Nat):Int),((t / 101:Nat):Int)-10)
theorem WL {t:Nat} (h:t<2121):qH (I4 t):=by unfold qH I4;simp only;omega
theorem WK {s:qw} (h:qH s):∃ t,t<2121∧I4 t=s:=by
 obtain ⟨ab,ae,aF,ba⟩:=h;refine ⟨(s.2+10).toNat*101+s.1.toNat,by omega,?_⟩;unfold I4;exact Prod.ext (by simp only;omega) (by simp only;omega)
def JH (p:qc) (o:List Int) (a i:Nat):Prop:=∃ t,t<2121∧I0 p o a i (I4 t)
instance (p:qc) (o:List Int) (a i:Nat):Decidable (JH p o a i):=by unfold JH;exact inferInstance
theorem N_ {p:qc} {o:List Int} {a i:Nat}:JH p o a i↔∃ s,qH s∧I0 p o a i s:=by
 constructor
 ·rintro ⟨t,ab,ae⟩;exact ⟨_,WL ab,ae⟩
 ·rintro ⟨s,ab,ae⟩;obtain ⟨t,aF,rfl⟩:=WK ab;exact ⟨t,aF,ae⟩
theorem W3 {L H U V:Int} (h:L=H):(U+V*L=0∧U+V*H=0)↔U+V*L=0:=by subst h;simp
theorem RU {L H U V:Int} (h:L≠H):(U+V*L=0∧U+V*H=0)↔U=0∧V=0:=by
 constructor
 ·rintro ⟨ab,ae⟩;have aF:V*(H-L)=0:=by grind
  rcases Int.mul_eq_zero.1 aF with ba | ba
  ·subst ba;simp at ab;exact ⟨ab,rfl⟩
  ·omega
 ·rintro ⟨rfl,rfl⟩;simp
theorem aag {p:qc} {o:List Int} {a:Nat}:Ig p o a↔qB p.1 o a [] Prod.fst+qB p.1 o a [] Prod.snd*p.2.1=0∧qB p.1 o a [] Prod.fst+qB p.1 o a [] Prod.snd*p.2.2=0:=by
 unfold Ig q_;rw [←M8,←M8,LV,LV]
theorem TE {p:qc} {o:List Int} {a i:Nat} {s:qw}:I0 p o a i s ↔
  (qB p.1 o a [(i:Int)] Prod.fst+qz o.length i*s.1)+(qB p.1 o a [(i:Int)] Prod.snd+qz o.length i*s.2)*p.2.1=0 ∧
  (qB p.1 o a [(i:Int)] Prod.fst+qz o.length i*s.1)+(qB p.1 o a [(i:Int)] Prod.snd+qz o.length i*s.2)*p.2.2=0:=by
 unfold I0;rw [LV,LV];have e:∀ (U V x c d D:Int),U+V*D+x*(c+d*D)=(U+x*c)+(V+x*d)*D:=fun U V x c d D=>by grind
 unfold qZ;rw [e,e]
section
variable {p:qc} {o:List Int}
theorem XM (h:rv p) (k:qx p.1.length o) {a:Nat}:Ie (p,()) o (a:Int) []=some ([],decide (Ig p o a)):=by
 have hle:=h.le;have bD:=h.lo;have GO:=h.hi;unfold Ie;rw [Ps (b:=(p,())) (W:=[]) h.s (HD k) (qx.len h k) k.1.symm (by simp),sa];have a7:=Qi (a:=a) (W:=[]) h.s (HD k) (qx.len h k);have a9:=RP (a:=a) (W:=[]) h.s (HD k) (qx.len h k);have bt:=HZ (b:=p.2.1) (B:=50) a9 (by omega);simp only;rw [qO (n:=qB p.1 o a [] Prod.snd*p.2.1) (by omega),qO (by omega)];congr 2;rw [vt];simp only [Bool.or_eq_true,sn,decide_eq_true_eq,Prod.mk.injEq];rw [aag];by_cases he:p.2.1=p.2.2
 ·rw [W3 he];constructor
  ·rintro (⟨ab,ae⟩ | ⟨_,ab⟩)
   ·rw [ab,ae];simp
   ·exact ab
  ·exact fun ab=>.inr ⟨he,ab⟩
 ·rw [RU he];constructor
  ·rintro (ab | ⟨ab,_⟩)
   ·exact ab
   ·exact absurd ab he
  ·exact .inl
theorem ac8 {s:qY×Nat} {k v:qQ} {e:Nat×qQ×qQ} (h:e∈(HM s k v).1):(e.2.1=k∧e.2.2=v)∨e∈s.1:=by
 unfold HM at h;split at h
 ·obtain ⟨x,aj,rfl⟩:=sA.1 h;by_cases al:k=x.2.1
  ·rw [if_pos al];exact .inl ⟨rfl,rfl⟩
  ·rw [if_neg al];exact .inr aj
 ·rcases tc.1 h with h | h
  ·exact .inr h
  ·obtain rfl:=sQ.1 h;exact .inl ⟨rfl,rfl⟩
theorem ac9 (s:qY×Nat) (k v:qQ):∃ e∈(HM s k v).1,e.2.1=k:=by
 unfold HM;split
 ·rename_i h;obtain ⟨x,aj,al⟩:=List.any_eq_true.1 h;exact ⟨_,ta aj,by rw [if_pos (of_decide_eq_true al)]⟩
 ·exact ⟨(s.2,k,v),by simp,rfl⟩
theorem ac_ {s:qY×Nat} {k v:qQ} {e:Nat×qQ×qQ} (h:e∈s.1):∃ cV∈(HM s k v).1,cV.2.1=e.2.1:=by
 unfold HM;split
 ·refine ⟨_,ta h,?_⟩;by_cases al:k=e.2.1
  ·rw [if_pos al];exact al
  ·rw [if_neg al]
 ·exact ⟨e,by simp [h],rfl⟩
theorem WS (lo hi x:Int):∀ (t:Nat) (e:Nat×qQ×qQ),e∈(rY lo hi x t).1→∃ iE,iE<t∧e.2.2=I4 iE∧e.2.1=HR lo hi x (I4 iE).2 (I4 iE).1
 | 0,e,h=>by simp [rY] at h
 | t+1,e,h=>by
   unfold rY at h;rcases ac8 h with ⟨ab,ae⟩ | ab
   ·exact ⟨t,by omega,ae,ab⟩
   ·obtain ⟨iE,ae,aF⟩:=WS lo hi x t e ab;exact ⟨iE,by omega,aF⟩
theorem RQ (lo hi x:Int):∀ (t iE:Nat),iE<t→∃ e∈(rY lo hi x t).1,e.2.1=HR lo hi x (I4 iE).2 (I4 iE).1
 | 0,_,h=>absurd h (by omega)
 | t+1,iE,h=>by
   unfold rY;by_cases e:iE=t
   ·subst e;exact ac9 _ _ _
   ·obtain ⟨e1,ab,ae⟩:=RQ lo hi x t iE (by omega);obtain ⟨b',aF,ba⟩:=ac_ (k:=HR lo hi x ((t / 101:Nat)-10) ((t % 101:Nat))) (v:=((t % 101:Nat),(t / 101:Nat)-10)) ab;exact ⟨b',aF,ba.trans ae⟩
theorem acb {A:qY} {k:qQ} (h:Jg A k=none):∀ e∈A,e.2.1≠k:=by
 unfold Jg at h;rw [Option.map_eq_none_iff,List.find?_eq_none] at h;intro e he al;exact h e he (decide_eq_true al.symm)
theorem acd {A:qY} {k v:qQ} (h:Jg A k=some v):∃ e∈A,e.2.1=k∧e.2.2=v:=by
 unfold Jg at h;obtain ⟨e,ab,ae⟩:=Option.map_eq_some_iff.1 h;have aF:=List.find?_some ab;exact ⟨e,List.mem_of_find?_eq_some ab,(of_decide_eq_true aF).symm,ae⟩
theorem Us {L H x:Int} {s:qw} (aj:-10≤x∧x≤10) (ah:qH s) (fq:0≤L∧L≤50):HR L H x s.2 s.1=if L=H then (x*qZ L s,0) else (x*s.1,x*s.2):=by
 have af:=LC ah fq;obtain ⟨ab,ae,aF,ba⟩:=ah;have bm:=HZ (a:=s.2) (b:=L) (A:=10) (B:=50) (by omega) (by omega);have cw:=HZ (a:=x) (b:=qZ L s) (A:=10) (B:=600) aj (by omega);have e2:=HZ (a:=x) (b:=s.1) (A:=10) (B:=100) aj (by omega);have lQ:=HZ (a:=x) (b:=s.2) (A:=10) (B:=10) aj (by omega);unfold HR;rw [qO (n:=s.2*L) (by omega),show s.1+s.2*L=qZ L s from rfl,qO (n:=qZ L s) (by omega),qO (n:=x*qZ L s) (by omega),qO (n:=x*s.1) (by omega),qO (n:=x*s.2) (by omega)]
def HX (lo:Int) (s:qw):Int:=max (max s.1 (qZ lo s)) (-(qZ lo s))
def HE:List Int→Int
 | []=>0
 | x::r=>x+HE r
theorem WY:∀ (a b:List Int),HE (a++b)=HE a+HE b
 | [],b=>by simp [HE]
 | x::a,b=>by simp only [List.cons_append,HE,WY a b];omega
theorem ae8 {a b:List Int} (h:a.Perm b):HE a=HE b:=by
 induction h with
 | nil=>rfl
 | cons x _ a8=>simp only [HE,a8]
 | swap x y l=>simp only [HE];omega
 | trans _ _ ab ae=>exact ab.trans ae
theorem WX {α:Type} [Inhabited α] (g:α→Int) (l:List α):∀ (k:Nat),k≤l.length→qP k (fun i=>g (ix l (i:Int)))=HE ((l.take k).map g)
 | 0,_=>rfl
 | k+1,h=>by
   rw [uV (by omega),sT,WY,←WX g l k (by omega)];simp only [qP,sD,uw,HE];rw [rK (by omega)];omega
theorem RT {α:Type} [Inhabited α] (g:α→Int) (l:List α):qP l.length (fun i=>g (ix l (i:Int)))=HE (l.map g):=by
 rw [WX g l _ (sb _),List.take_length]
theorem QQ {n i:Nat} (h:i<n):ix (qi n) (i:Int)=(i:Int):=by
 rw [rK (by simpa [qi] using h)];simp [qi]
theorem NC (n:Nat):(qi n).length=n:=by simp [qi]
theorem WW {S:List qw} {o:List Int} (k:qx S.length o) (g:qw→Int):qP o.length (fun i=>g (qA S o i))=HE (S.map g):=by
 have e1:=RT (fun j=>g (ix S j)) o;have b':=RT (fun j=>g (ix S j)) (qi S.length);have dA:=RT g S;rw [ae8 ((M_.1 k).map _),←b',NC] at e1;rw [←dA];refine e1.trans (Nz fun i hi=>?_);simp only [QQ hi]
theorem ae7 {n:Nat} {g f:Nat→Int} (e:∀ i,i<n → -(f i)≤g i∧g i≤f i):-(qP n f)≤qP n g∧qP n g≤qP n f:=by
 induction n with
 | zero=>simp [qP]
 | succ n a8 =>
   have ab:=a8 fun i hi=>e i (by omega);have ae:=e n (by omega);simp only [qP];omega
theorem Ol {lo:Int} {s:qw} (ah:qH s) (ao:0≤lo∧lo≤50):0≤HX lo s∧HX lo s≤600:=by
 have ab:=LC ah ao;have ae:=ah.1;have aF:=ah.2.1;unfold HX;omega
theorem U' {far lo:Int} (aP:0≤far∧far≤10) (ao:0≤lo∧lo≤50):∀ (l:List qw) (n:Int),(∀ s∈l,qH s)→0≤n→n+6000*l.length≤1000000→I1 far lo l n=n+far*HE (l.map (HX lo))
 | [],n,_,_,_=>by simp [I1,HE]
 | s::r,n,ah,aI,af=>by
   have al:=ah s (by simp);have de:=LC al ao;have bm:=HZ (a:=s.2) (b:=lo) (A:=10) (B:=50) ⟨al.2.2.1,al.2.2.2⟩ (by omega);have cw:=Ol al ao;have e2:=HZ (a:=far) (b:=HX lo s) (A:=10) (B:=600) (by omega) (by omega);have lQ:=Int.mul_nonneg aP.1 cw.1;have ab:=al.1;have ae:=al.2.1;rw [List.length_cons] at af;unfold I1;rw [qO (n:=s.2*lo) (by omega),show s.1+s.2*lo=qZ lo s from rfl,qO (n:=qZ lo s) (by omega),qO (n := -(qZ lo s)) (by omega),show max (max s.1 (qZ lo s)) (-(qZ lo s))=HX lo s from rfl,qO (n:=far*HX lo s) (by omega),qO (by omega)];rw [U' aP ao r _ (fun s hl=>ah s (by simp [hl])) (by omega) (by omega),sD];simp only [HE];rw [Int.mul_add];omega
theorem QZ (h:rv p) (k:qx p.1.length o) {a:Nat} {W:List Int} {f:qw→Int} (aP:∀ s,qH s → -(HX p.2.1 s)≤f s∧f s≤HX p.2.1 s) :
  -(qz o.length (o.length-1)*HE (p.1.map (HX p.2.1)))≤qB p.1 o a W f∧qB p.1 o a W f≤qz o.length (o.length-1)*HE (p.1.map (HX p.2.1)):=by
 have hle:=h.le;have bD:=h.lo;have GO:=h.hi;have aI:=h.n;rw [←k.1] at aI;rw [←WW k (HX p.2.1),←WV];refine ae7 fun i hi=>?_;have ah:=IM h.s (HD k) hi;have aO:=Ol ah (lo:=p.2.1) (by omega);have a_:-(qz o.length (o.length-1))≤qz o.length i∧qz o.length i≤qz o.length (o.length-1):=by unfold qz;omega
 split
 ·have ab:=aP _ ah;have ae:=HZ a_ ab;exact ae
 ·have:=Int.mul_nonneg (show 0≤qz o.length (o.length-1) by omega) aO.1;omega
theorem agq (h:rv p) (k:qx p.1.length o) {a i:Nat} (hi:i<o.length):∃ A,MB (p,()) (qz o.length i)=some A∧(∀ e∈A,qH e.2.2∧e.2.1=HR p.2.1 p.2.2 (qz o.length i) e.2.2.2 e.2.2.1)∧∀ s,qH s→I0 p o a i s→∃ e∈A,e.2.1=HR p.2.1 p.2.2 (qz o.length i) s.2 s.1:=by
 have hle:=h.le;have bD:=h.lo;have GO:=h.hi;have aI:=h.n;have JN:=h.len;have ag9:=k.1;have fL:=qx.len h k;unfold MB;simp only;rw [qS (by omega),show ((p.1.length:Int)-1)=((o.length-1:Nat):Int) by omega,qO (n:=((o.length-1:Nat):Int)) (by omega),Pr (b:=(p,())) fL k.1.symm (by omega),sa];have QJ:0≤qz o.length (o.length-1)∧qz o.length (o.length-1)≤10:=by unfold qz;omega
 have Uh:=U' QJ (lo:=p.2.1) (by omega) p.1 0 h.s (by omega) (by omega);rw [Int.zero_add] at Uh;rw [Uh];obtain ⟨M,CA⟩:∃ M,M=qz o.length (o.length-1)*HE (p.1.map (HX p.2.1)):=⟨_,rfl⟩;have ag2:0≤M∧M≤1000000:=by
  have ab:=QZ h k (a:=0) (W:=[]) (f:=fun _=>0) fun s ah=>by have:=Ol ah (lo:=p.2.1) (by omega);omega
  have ae:=Ny (n:=o.length) (g:=fun i=>HX p.2.1 (qA p.1 o i)) (B:=600) fun i hi=>by have:=Ol (IM h.s (HD k) hi) (lo:=p.2.1) (by omega);omega
  rw [WW k (HX p.2.1)] at ae;have aF:=HZ (a:=qz o.length (o.length-1)) (A:=10) (by omega) ae;rw [←CA] at ab aF;omega
 rw [←CA,qO (n := -M) (by omega)];have hk:=LX hi fL;obtain ⟨x,aj⟩:∃ x,x=qz o.length i:=⟨_,rfl⟩;rw [←aj] at hk ⊢;refine ⟨_,rfl,fun e he=>?_,fun s ah Ub=>?_⟩
 ·obtain ⟨iE,ab,ae,aF⟩:=WS _ _ _ _ _ (td.1 he).1;have ba:iE<2121:=by
   by_cases aQ:x=0
   ·rw [if_pos aQ] at ab;omega
   ·rw [if_neg aQ] at ab;exact ab
  rw [ae];exact ⟨WL ba,aF⟩
 ·have hP:∃ e∈(rY p.2.1 p.2.2 x (if x=0 then 1 else 2121)).1,e.2.1=HR p.2.1 p.2.2 x s.2 s.1:=by
   by_cases aQ:x=0
   ·rw [if_pos aQ];obtain ⟨e,ab,ae⟩:=RQ p.2.1 p.2.2 x 1 0 (by omega);refine ⟨e,ab,ae.trans ?_⟩;subst aQ;unfold HR;simp only [Int.zero_mul]
   ·rw [if_neg aQ];obtain ⟨t,ab,ae⟩:=WK ah;rw [←ae];exact RQ _ _ _ _ _ ab
  obtain ⟨e,ab,ae⟩:=hP;refine ⟨e,td.2 ⟨ab,?_⟩,ae⟩;rw [ae,Us hk ah (by omega)];have CY:=TE.1 Ub;rw [←aj] at CY;by_cases he:p.2.1=p.2.2
  ·rw [if_pos he];(have bP:=QZ h k (a:=a) (W:=[(i:Int)]) (f:=qZ p.2.1) fun s ah=>by unfold HX;omega);have bQ:=Ub.1;rw [←aj] at bQ;rw [←CA] at bP;simp only [sn,decide_eq_true_eq];omega
  ·rw [if_neg he];rw [RU he] at CY;(have bP:=QZ h k (a:=a) (W:=[(i:Int)]) (f:=Prod.fst) fun s ah=>by have:=ah.1;unfold HX;omega);rw [←CA] at bP;have bQ:=CY.1;simp only [sn,decide_eq_true_eq];omega
theorem Ut (h:rv p) (k:qx p.1.length o) {a i:Nat} (hi:i<o.length) {s:qw} (ah:qH s) :
  HR p.2.1 p.2.2 (qz o.length i) s.2 s.1=(if p.2.1=p.2.2 then (w (w (-(qB p.1 o a [(i:Int)] Prod.fst))-w (qB p.1 o a [(i:Int)] Prod.snd*p.2.1)),0) else (w (-(qB p.1 o a [(i:Int)] Prod.fst)),w (-(qB p.1 o a [(i:Int)] Prod.snd))))↔I0 p o a i s:=by
 have hle:=h.le;have bD:=h.lo;have GO:=h.hi;have a7:=Qi (a:=a) (W:=[(i:Int)]) h.s (HD k) (qx.len h k);have a9:=RP (a:=a) (W:=[(i:Int)]) h.s (HD k) (qx.len h k);have bt:=HZ (b:=p.2.1) (B:=50) a9 (by omega);rw [Us (LX hi (qx.len h k)) ah (by omega),TE];rw [qO (n := -(qB p.1 o a [(i:Int)] Prod.fst)) (by omega),qO (n:=qB p.1 o a [(i:Int)] Prod.snd*p.2.1) (by omega),qO (n := -(qB p.1 o a [(i:Int)] Prod.snd)) (by omega),qO (by omega)];generalize qB p.1 o a [(i:Int)] Prod.fst=U;generalize qB p.1 o a [(i:Int)] Prod.snd=V;generalize qz o.length i=x;by_cases he:p.2.1=p.2.2
 ·rw [if_pos he,if_pos he,W3 he,Prod.mk.injEq];have e:U+x*s.1+(V+x*s.2)*p.2.1=U+V*p.2.1+x*qZ p.2.1 s:=by unfold qZ;grind
  rw [e];constructor
  ·rintro ⟨ab,_⟩;omega
  ·intro ab;exact ⟨by omega,rfl⟩
 ·rw [if_neg he,if_neg he,RU he,Prod.mk.injEq];constructor
  ·rintro ⟨ab,ae⟩;omega
  ·rintro ⟨ab,ae⟩;exact ⟨by omega,by omega⟩
theorem XL (h:rv p) (k:qx p.1.length o) {a i:Nat} (hi:i<o.length) :
  (∃ s,Ie (p,()) o (a:Int) [(i:Int)]=some ([(ix o (i:Int),s)],true)∧qH s∧I0 p o a i s)∨(Ie (p,()) o (a:Int) [(i:Int)]=some ([],false)∧¬ JH p o a i):=by
 unfold Ie;rw [Ps (b:=(p,())) (W:=[(i:Int)]) h.s (HD k) (qx.len h k) k.1.symm (by simp),sa];obtain ⟨A,aL,ab,ae⟩:=agq h k (a:=a) hi;simp only;rw [Pr (b:=(p,())) (qx.len h k) k.1.symm hi,sa,aL,sa];cases al:Jg A (if p.2.1=p.2.2 then (w (w (-(qB p.1 o a [(i:Int)] Prod.fst))-w (qB p.1 o a [(i:Int)] Prod.snd*p.2.1)),0) else (w (-(qB p.1 o a [(i:Int)] Prod.fst)),w (-(qB p.1 o a [(i:Int)] Prod.snd)))) with
 | none =>
   refine .inr ⟨rfl,fun ak=>?_⟩;obtain ⟨s,ah,aP⟩:=N_.1 ak;obtain ⟨e,he,aaX⟩:=ae s ah aP;exact acb al e he (aaX.trans ((Ut h k hi ah).2 aP))
 | some s =>
   obtain ⟨e,he,Da,rfl⟩:=acd al;obtain ⟨ah,pO⟩:=ab e he;refine .inl ⟨e.2.2,?_,ah,(Ut h k hi ah).1 (pO.symm.trans Da)⟩;simp only;rw [qS (by omega)]
end
end Go.Proofs.Ytkoioidpbbbaiaa.Ab


namespace Go.Proofs.Ytkoioidpbbbaiaa.Ab
open Go
set_option maxRecDepth 20000
set_option maxHeartbeats 4000000

end Go.Proofs.Ytkoioidpbbbaiaa.Ab


namespace Go.Proofs.Ytkoioidpbbbaiaa.Ab
open Go
set_option maxRecDepth 20000
set_option maxHeartbeats 1000000
section
variable {p:qc} {o:List Int}
theorem qx.UK (h:rv p) (k:qx p.1.length o):o.length≤7:=by have:=h.len;have:=k.1;omega
def IZ (p:qc) (o:List Int) (a:Nat):Nat:=if Ig p o a then 0 else if ∃ i,i<o.length∧i % 2=a∧JH p o a i then 1 else 2
theorem TA (p:qc) (o:List Int) (a:Nat):IZ p o a≤2:=by unfold IZ;split <;> (try split) <;> omega
end
end Go.Proofs.Ytkoioidpbbbaiaa.Ab


namespace Go.Proofs.Ytkoioidpbbbaiaa.Ab
open Go
set_option maxRecDepth 20000
set_option maxHeartbeats 4000000
noncomputable def Px:gE :=
 .loop (some (p_ false [1,3,4,1,58])) (.seq (p2 [p3 17 8,p3 18 2,qW 19 18,qs 20 17 19 .lss] (.cond (.nc 20) .skip (.exit 0))) (.seq (.block 1 (p2 [p3 23 2,p3 24 8,rn 25 23 24 3,p0 26 [.Bs 25] (.zE (.str 3)),p0 9 [] (.alloc [.int .i64 0,.int .i64 0,.int .i64 0]),⟨none,[.nc 9,.jq 26],none,none,.st 3⟩] (.seq (qT [p0 27 [.nc 9] (.yM 0),qf 28 27,qu 29 28 0 .lss,p1 30 29,cl 31 [.nc 9] 30 false (.yM 0),cl 32 [.Bs 31] 30 false (.zE .one),cl 33 [.nc 3] 30 false (.yM 0),cl 34 [.Bs 33] 30 false (.zE .one),cl 35 [.jq 34] 30 false .zJ,cl 36 [.Bs 32,.Bs 35] 30 false (.bin .geq),p0 37 [.nc 30,.cv (.bool true),.Bs 36] .pick,p1 38 37,cl 39 [.nc 8] 38 false .mU,cl 40 [.Bs 39,.cv (.int .i64 0)] 38 false (.bin .gtr),cl 41 [.jq 40] 38 false .mU,cl 42 [.nc 9] 41 true (.yM 0),cl 43 [.Bs 42] 41 true (.zE .one),cl 44 [.nc 2] 41 true .mU,cl 45 [.nc 8] 41 true .mU,cl 46 [.Bs 45,.cv (.int .i64 1)] 41 true (.bin .sub),cl 47 [.Bs 44,.Bs 46] 41 true (.kY 3),cl 48 [.Bs 47] 41 true (.yM 0),cl 49 [.Bs 48] 41 true (.zE .one),cl 50 [.Bs 43,.Bs 49] 41 true (.bin .leq),cl 51 [.nc 41,.Bs 50,.cv (.bool false)] 38 false .pick,p0 52 [.nc 38,.cv (.bool true),.Bs 51] .pick,p1 53 52,cl 54 [.nc 9] 53 false (.yM 1),cl 55 [.Bs 54] 53 false (.zE (.str 2)),⟨some 56,[.cv (.func 45 [] []),.nc 55],some (53,false),none,.call 3⟩,cl 57 [.Bs 56] 53 false (.un .not),p0 58 [.nc 53,.cv (.bool true),.Bs 57] .pick]) (.cond (.nc 58) (p2 [p' 6 0,p' 7 3] .ret) .skip)))) (qM [p1 21 8,qU 22 21 1,p1 8 22])))
noncomputable def XZ:gE :=
 p2 [p0 3 [.jq 0] .box,p' 6 0,p' 7 0] (.seq (p2 [p0 10 [.nc 3] (.zE (.str 3)),p3 11 1,p0 12 [.cv (.func 39 [] []),.nc 10,.nc 11] (.call 3),qu 13 12 0 .neq] (.cond (.nc 13) (p2 [p0 14 [.Bs 3] (.zE (.str 3)),p1 15 1,p0 16 [.cv (.func 39 [] []),.nc 14,.nc 15] (.call 3),p' 6 0,p1 7 16] .ret) .skip)) (.seq (p2 [p' 8 0] (.block 0 Px)) (.seq (p2 [p0 59 [.Bs 3] (.zE (.str 3)),p3 60 2,p0 61 [.cv (.func 52 [] []),.nc 59,.nc 60] (.call 3),p1 62 1,p0 63 [.cv (.func 42 [] []),.nc 61,.nc 62] (.call 3),qu 64 63 0 .gtr] (.cond (.nc 64) (p2 [p' 6 0,p' 7 23] .ret) .skip)) (p2 [p1 65 2,qW 66 65,p1 6 66,p' 7 0] .ret))))
theorem acn:qj Try.prog PT 24=some (XZ,67,[.tmp 6,.tmp 7]):=by kernel_rfl
def JX (p:(qg×(Int×Int))) (changes:(List (Int×(Int×Int)))) (qe:Unit→Option (Int×Int)):Nat→Int→Option (Int×Int)
 | 0,_=>none
 | m+1,s1 =>
   if (decide (s1<(changes.length:Int)))=true then
    qI (0≤s1∧s1<(changes.length:Int)) <|
    if (decide ((ix changes s1).1<(0:Int)))=true then
     some ((0:Int),(3:Int))
    else
     if (decide ((p.1.length:Int)≤(ix changes s1).1))=true then
      some ((0:Int),(3:Int))
     else
      if (decide ((0:Int)<s1))=true then
       qI (0≤(w (s1-(1:Int)))∧(w (s1-(1:Int)))<(changes.length:Int)) <|
       if (decide ((ix changes s1).1≤(ix changes (w (s1-(1:Int)))).1))=true then
        some ((0:Int),(3:Int))
       else
        (Lr ((ix changes s1).2)).bind fun eK =>
        if eK=true then
         JX p changes qe m (w (s1+(1:Int)))
        else
         some ((0:Int),(3:Int))
      else
       (Lr ((ix changes s1).2)).bind fun Hv =>
       if Hv=true then
        JX p changes qe m (w (s1+(1:Int)))
       else
        some ((0:Int),(3:Int))
   else
    qe ()
def Mt (p:(qg×(Int×Int))) (order:qk) (changes:(List (Int×(Int×Int)))):Option (Int×Int) :=
 (JC p order).bind fun aS =>
 if (decide (aS≠(0:Int)))=true then
  (JC p order).bind fun bj =>
  some ((0:Int),bj)
 else
  JX p changes (fun _ =>
    (NU p changes).bind fun HN =>
    (Ll HN order).bind fun Iy =>
    if (decide ((0:Int)<Iy))=true then
     some ((0:Int),(23:Int))
    else
     some ((changes.length:Int),(0:Int))) qn (0:Int)
theorem afT {p:(qg×(Int×Int))} {changes:(List (Int×(Int×Int)))} {qe:Unit→Option (Int×Int)} {s1:Int} {order:qk} {v:(Int×Int)} {Q:H6}   (jJ:qC [.tmp 6,.tmp 7] Q (fun v=>(.tuple [(h0 v.1),(h0 v.2)])) v) (ry:∀ (J3:List ar) (qh:List I),qe ()=some v→rO 67 [(1,(q3 order .shared)),(2,(.av (changes.flatMap ql) changes.length .shared)),(3,(.ptr 0 0))] qh→Q (.exit 0) qh (ar.cells [(q9 p.1 .shared),(h0 p.2.1),(h0 p.2.2)]::J3)) {T:List I} (b0:eZ (p_ false [1,3,4,1,58]) T=qb 67 [(1,(q3 order .shared)),(2,(.av (changes.flatMap ql) changes.length .shared)),(3,(.ptr 0 0)),(8,(h0 s1))]) (h:JX p changes qe qn s1=some v) :
  dQ Try.prog PT 24 0 none Px T [ar.cells [(q9 p.1 .shared),(h0 p.2.1),(h0 p.2.2)]] Q:=by
 unfold Px;refine wp_loop b0 ?_;refine .intro (fun m T H=>∃ (s1:Int) (Sr:List ar),T=qb 67 [(1,(q3 order .shared)),(2,(.av (changes.flatMap ql) changes.length .shared)),(3,(.ptr 0 0)),(8,(h0 s1))]∧H=(ar.cells [(q9 p.1 .shared),(h0 p.2.1),(h0 p.2.2)]::Sr)∧JX p changes qe m s1=some v) qn ⟨s1,[],rfl,rfl,h⟩ ?_;clear h b0;rintro m T H ⟨s1,Sr,rfl,rfl,h⟩;cases m
 ·exact Hr h
 rename_i m;rw [JX.eq_2] at h;conv=>whnf
 refine bs h (fun qE h=>?_) fun qE h=>?_
 ·rw [qE];conv=>whnf
  refine q8 h id fun qX h=>?_;rw [IY ql 3 HT changes s1 qX];conv=>whnf
  refine Ew (x:=ar.cells [(h0 (0:Int)),(h0 (0:Int)),(h0 (0:Int))]) (by first | exact qN.h | rfl | (simp [sm,I.settle];done)) ?_
  conv=>whnf
  rw [HO];refine Ew (x:=ar.cells [(h0 (ix changes s1).1),(h0 (ix changes s1).2.1),(h0 (ix changes s1).2.2)]) (by first | exact qN.h | rfl | (simp [sm,I.settle];done)) ?_
  conv=>whnf
  refine bs h (fun rG h=>?_) fun rG h=>?_
  ·rw [rG];(conv=>whnf);exact p9 h jJ rfl rfl
  ·rw [rG];(conv=>whnf);refine Ew (x:=ar.cells [(h0 (ix changes s1).1),(h0 (ix changes s1).2.1),(h0 (ix changes s1).2.2)]) (by first | exact qN.h | rfl | (simp [sm,I.settle];done)) ?_
   (conv=>whnf);refine bs h (fun qR h=>?_) fun qR h=>?_
   ·rw [qR];(conv=>whnf);exact p9 h jJ rfl rfl
   ·rw [qR];(conv=>whnf);refine bs h (fun rU h=>?_) fun rU h=>?_
    ·rw [rU];(conv=>whnf);refine Ew (x:=ar.cells [(h0 (ix changes s1).1),(h0 (ix changes s1).2.1),(h0 (ix changes s1).2.2)]) (by first | exact qN.h | rfl | (simp [sm,I.settle];done)) ?_
     (conv=>whnf);refine q8 h id fun rJ h=>?_;rw [IY ql 3 HT changes (w (s1-(1:Int))) rJ];(conv=>whnf);refine bs h (fun rW h=>?_) fun rW h=>?_
     ·rw [rW];(conv=>whnf);exact p9 h jJ rfl rfl
     ·rw [rW];(conv=>whnf);refine Ew (x:=ar.cells [(h0 (ix changes s1).1),(h0 (ix changes s1).2.1),(h0 (ix changes s1).2.2)]) (by first | exact qN.h | rfl | (simp [sm,I.settle];done)) ?_
      (conv=>whnf);obtain ⟨eK,Ja,h⟩:=p8 h;refine ⟨qd.pl,_,R7 Ja,q',?_⟩;(conv=>whnf);cases eK
      ·(conv=>whnf);replace h:=Ho rfl h;exact p9 h jJ rfl rfl
      ·(conv=>whnf);replace h:=Hp rfl h;exact ⟨m,sG m,(w (s1+(1:Int))),_,rfl,rfl,h⟩
    ·rw [rU];(conv=>whnf);refine Ew (x:=ar.cells [(h0 (ix changes s1).1),(h0 (ix changes s1).2.1),(h0 (ix changes s1).2.2)]) (by first | exact qN.h | rfl | (simp [sm,I.settle];done)) ?_
     (conv=>whnf);obtain ⟨Hv,Jb,h⟩:=p8 h;refine ⟨qd.pl,_,R7 Jb,q',?_⟩;(conv=>whnf);cases Hv
     ·(conv=>whnf);replace h:=Ho rfl h;exact p9 h jJ rfl rfl
     ·(conv=>whnf);replace h:=Hp rfl h;exact ⟨m,sG m,(w (s1+(1:Int))),_,rfl,rfl,h⟩
 ·rw [qE];conv=>whnf
  exact ry _ _ h ⟨rfl,rfl⟩
theorem afU {p:(qg×(Int×Int))} {order:qk} {changes:(List (Int×(Int×Int)))} {v:(Int×Int)} (h:Mt p order changes=some v):qt 24 [(.agg [(.av (p.1.flatMap p7) p.1.length .shared),(h0 p.2.1),(h0 p.2.2)]),(.av (order.map h0) order.length .shared),(.av (changes.flatMap ql) changes.length .shared)] (.tuple [(h0 v.1),(h0 v.2)]):=by
 refine qD eG acn rfl (IL (p4 rfl (p4 rfl rfl))) fun Q bp=>?_;have jJ:qC [.tmp 6,.tmp 7] Q (fun v=>(.tuple [(h0 v.1),(h0 v.2)])) v:=fun T H bE=>bp _ T H bE;unfold Mt at h;unfold XZ;obtain ⟨H9,qG⟩:∃ c,Px=c:=⟨_,rfl⟩;rw [qG];conv=>whnf
 obtain ⟨aS,gM,h⟩:=p8 h;refine ⟨qd.pl,_,Mz gM,?_⟩;conv=>whnf
 refine bs h (fun gN h=>?_) fun gN h=>?_
 ·rw [gN];conv=>whnf
  obtain ⟨bj,qp,h⟩:=p8 h;refine ⟨qd.pl,_,Mz qp,?_⟩;conv=>whnf
  exact p9 h jJ rfl rfl
 ·rw [gN];conv=>whnf
  subst qG;refine afT ?_ ?_ (by exact rfl) h
  ·exact fun T H bE=>jJ T H bE
  ·intro J3 qh h qK;obtain ⟨rT,rfl⟩:=qK.ex;(conv=>whnf);obtain ⟨HN,JK,h⟩:=p8 h;refine ⟨qd.pl,_,age JK,?_⟩;(conv=>whnf);obtain ⟨Iy,JL,h⟩:=p8 h;refine ⟨qd.pl,_,Xz JL,?_⟩;(conv=>whnf);refine bs h (fun Jc h=>?_) fun Jc h=>?_
   ·rw [Jc];(conv=>whnf);exact p9 h jJ rfl rfl
   ·rw [Jc];(conv=>whnf);exact p9 h jJ rfl rfl
end Go.Proofs.Ytkoioidpbbbaiaa.Ab


namespace Go.Proofs.Ytkoioidpbbbaiaa.Ab
open Go
set_option maxRecDepth 20000
set_option maxHeartbeats 1000000
def rM:List qm→List qw→List qw
 | [],S=>S
 | c::r,S=>rM r (S.set c.1.toNat c.2)
theorem Nw:∀ (l:List qm) (S:List qw),(rM l S).length=S.length
 | [],_=>rfl
 | c::r,S=>by rw [rM,Nw r];simp
def Ht (n:Int):List qm→Int→Prop
 | [],_=>True
 | c::r,m=>m≤c.1∧c.1<n∧qH c.2∧Ht n r (c.1+1)
instance ada (n:Int):∀ (l:List qm) (m:Int),Decidable (Ht n l m)
 | [],_=>isTrue trivial
 | c::r,m=>by unfold Ht;exact @instDecidableAnd _ _ _ (@instDecidableAnd _ _ _ (@instDecidableAnd _ _ _ (ada n r (c.1+1))))
theorem RM {n:Int}:∀ {l:List qm} {S:List qw} {m:Int},Ht n l m→(∀ s∈S,qH s)→∀ s∈rM l S,qH s
 | [],_,_,_,h=>h
 | c::r,S,m,ao,h=>by
   refine RM (l:=r) ao.2.2.2 fun s ah=>?_;rcases List.mem_or_eq_of_mem_set ah with ab | ab
   ·exact h s ab
   ·rw [ab];exact ao.2.2.1
theorem Tw {n:Nat} (aI:n≤1000):∀ (l:List qm) (S:List qw) (m:Int),S.length=n→0≤m→m≤1000→LI n l S m=some (if Ht n l m then some (rM l S) else none)
 | [],S,m,_,_,_=>rfl
 | c::r,S,m,cp,hm,nP=>by
   unfold LI;rw [qO (n:=(n:Int)-1) (by omega),My,sa];by_cases ab:m≤c.1∧c.1<(n:Int)
   ·rw [if_pos (by simp;omega),XF,sa];by_cases ae:qH c.2
    ·rw [if_neg (by simpa using ae),qS (by omega),qO (by omega),Tw aI r _ _ (by simp [cp]) (by omega) (by omega)];by_cases aF:Ht n r (c.1+1)
     ·rw [if_pos aF,if_pos ⟨ab.1,ab.2,ae,aF⟩];rfl
     ·rw [if_neg aF,if_neg fun k=>aF k.2.2.2]
    ·rw [if_pos (by simpa using ae),if_neg fun k=>ae k.2.2.1]
   ·rw [if_neg (by simp;omega),if_neg fun k=>ab ⟨k.1,k.2.1⟩]
theorem Tv {n:Nat}:∀ (l:List qm) (S:List qw) (m:Int),S.length=n→0≤m→Ht n l m→KD l S=some (rM l S)
 | [],_,_,_,_,_=>rfl
 | c::r,S,m,cp,hm,ao=>by
   unfold KD;have ab:=ao.1;have ae:=ao.2.1;rw [qS (by omega)];exact Tv r _ (c.1+1) (by simp [cp]) (by omega) ao.2.2.2
section
variable {p:qc} {o:List Int} {l:List qm}
theorem NH (aB:p.1.length≤1000) (ao:o.length≤12) (ak:l.length≤1000):Iz p o l=some (if ru p o=0 then (if Ht p.1.length l 0 then (if 0<q5 (rM l p.1,p.2) o then (0,23) else ((l.length:Int),0)) else (0,3)) else (0,ru p o)):=by
 unfold Iz;rw [Pl aB ao,sa];by_cases h:ru p o=0
 ·rw [if_pos h,if_pos h];obtain ⟨ad,al⟩:=Kd.1 h;have JN:=ad.len;simp only;rw [if_neg (by decide),qS ⟨fun e=>by rw [e] at JN;simp at JN,aB,ak⟩,Tw aB l p.1 0 rfl (by omega) (by omega),sa];by_cases ab:Ht p.1.length l 0
  ·rw [if_pos ab,if_pos ab];simp only;have dg:rv (rM l p.1,p.2):=⟨by rw [Nw];exact ad.n,RM ab ad.s,ad.lo,ad.le,ad.hi⟩;rw [NR dg (by rw [Nw];exact al),sa];by_cases ae:0<q5 (rM l p.1,p.2) o
   ·rw [if_pos (decide_eq_true ae),if_pos ae]
   ·rw [if_neg (by simpa using ae),if_neg ae]
  ·rw [if_neg ab,if_neg ab]
 ·rw [if_neg h,if_neg h];simp only;rw [if_pos (decide_eq_true h)]
theorem Ux (aB:p.1.length≤1000) (ak:l.length≤1000) {K:Option (Int×Int)}:∀ (m i:Nat),i≤l.length→l.length-i<m→∀ (t:Int),(i=0→t=0)→(0<i→t=(ix l ((i-1:Nat):Int)).1+1∧0<t∧t≤1000) →
  JX p l (fun _=>K) m (i:Int)=if Ht p.1.length (l.drop i) t then K else some (0,3)
 | 0,_,_,h,_,_,_=>absurd h (by omega)
 | m+1,i,hi,hm,t,aQ,ab=>by
   rw [JX];by_cases aR:i<l.length
   ·rw [if_pos (decide_eq_true (by omega)),qS (by omega),s7 aR,←rK aR,Jo i (by omega)];have a8:=Ux aB ak (K:=K) m (i+1) (by omega) (by omega) ((ix l (i:Int)).1+1) (fun e=>by omega);by_cases cu:(ix l (i:Int)).1<0
    ·rw [if_pos (decide_eq_true cu),if_neg];intro k;have:=k.1;by_cases e:i=0
     ·have:=aQ e;omega
     ·have:=ab (by omega);omega
    ·rw [if_neg (by simpa using by omega)];by_cases af:(p.1.length:Int)≤(ix l (i:Int)).1
     ·rw [if_pos (decide_eq_true af),if_neg fun k=>by have:=k.2.1;omega]
     ·rw [if_neg (by simpa using by omega),XH];have fin:t≤(ix l (i:Int)).1→((some (decide (qH (ix l (i:Int)).2))).bind fun r=>if r=true then JX p l (fun _=>K) m ((i+1:Nat):Int) else some (0,3))=if Ht p.1.length (ix l (i:Int)::l.drop (i+1)) t then K else some (0,3):=fun ax=>by
       rw [sa];by_cases ah:qH (ix l (i:Int)).2
       ·rw [if_pos (decide_eq_true ah),a8 fun _=>⟨by simp,by omega,by omega⟩];by_cases ai:Ht p.1.length (l.drop (i+1)) ((ix l (i:Int)).1+1)
        ·rw [if_pos ai,if_pos ⟨ax,by omega,ah,ai⟩]
        ·rw [if_neg ai,if_neg fun k=>ai k.2.2.2]
       ·rw [if_neg (by simpa using ah),if_neg fun k=>ah k.2.2.1]
      by_cases e:0<i
      ·obtain ⟨t1,t2,t3⟩:=ab e;rw [if_pos (decide_eq_true (by omega)),qO (by omega),show (i:Int)-1=((i-1:Nat):Int) by omega,qS (by omega)];by_cases a1:(ix l (i:Int)).1≤(ix l ((i-1:Nat):Int)).1
       ·rw [if_pos (decide_eq_true a1),if_neg fun k=>by have:=k.1;omega]
       ·rw [if_neg (by rw [decide_eq_true_eq];exact a1)];exact fin (by omega)
      ·rw [if_neg (by simpa using by omega)];exact fin (by have:=aQ (by omega);omega)
   ·rw [if_neg (by simpa using by omega),uW (by omega),if_pos (show Ht _ [] t from trivial)]
theorem afS (aB:p.1.length≤1000) (ao:o.length≤12) (ak:l.length≤1000):Mt p o l=some (if ru p o=0 then (if Ht p.1.length l 0 then (if 0<q5 (rM l p.1,p.2) o then (0,23) else ((l.length:Int),0)) else (0,3)) else (0,ru p o)):=by
 unfold Mt;rw [R6 aB (by omega),sa,sa];by_cases h:ru p o=0
 ·rw [if_neg (show ¬ decide (ru p o≠0)=true by simpa using h),if_pos h];obtain ⟨ad,al⟩:=Kd.1 h;have JN:=ad.len;have:=Ux aB ak (K:=(NU p l).bind fun HN=>(Ll HN o).bind fun Iy=>if (decide ((0:Int)<Iy))=true then some ((0:Int),(23:Int)) else some ((l.length:Int),(0:Int))) qn 0 (by omega) (I8 (by omega)) 0 (fun _=>rfl) (fun h=>absurd h (by omega));rw [tj] at this;refine this.trans ?_;by_cases ab:Ht p.1.length l 0
  ·rw [if_pos ab,if_pos ab];unfold NU;rw [qS ⟨fun e=>by rw [e] at JN;simp at JN,aB,ak⟩,Tv l p.1 0 rfl (by omega) ab,sa,sa];have dg:rv (rM l p.1,p.2):=⟨by rw [Nw];exact ad.n,RM ab ad.s,ad.lo,ad.le,ad.hi⟩;rw [Xy dg (by rw [Nw];exact al),sa];by_cases ae:0<q5 (rM l p.1,p.2) o
   ·rw [if_pos (decide_eq_true ae),if_pos ae]
   ·rw [if_neg (by simpa using ae),if_neg ae]
  ·rw [if_neg ab,if_neg ab]
 ·rw [if_pos (decide_eq_true h),if_neg h]
end
end Go.Proofs.Ytkoioidpbbbaiaa.Ab


namespace Go.Proofs.Ytkoioidpbbbaiaa.Ab
open Go
noncomputable def ad6:gE :=
 .ov false [p1 48 9,p1 49 10,p0 50 [.Bs 49] (.yB 1 1 [.int .i64 0] [0]),p0 51 [.jq 48,.jq 50] (.app 1 8),p1 9 51]
noncomputable def Rk:gE :=
 p2 [p3 44 0,p3 45 10,p0 46 [.cv (.func 68 [] []),.jq 44,.jq 45] (.call 9),qu 47 46 0 .gtr] (.cond (.nc 47) ad6 .skip)
noncomputable def Rl:gE :=
 .seq (p2 [p3 34 0,p3 35 1,p3 36 2,p3 37 10,p0 38 [.Bs 37] (.yB 1 1 [.int .i64 0] [0]),p0 39 [.cv (.func 53 [] []),.jq 34,.jq 35,.jq 36,.jq 38] (.call 1),p1 33 39,qo 40 33 0,p0 41 [.Bs 33] (.ext 1),p1 11 40,p1 12 41] (p2 [p1 42 12] (.cond (.nc 42) (p2 [p1 43 11,p1 6 43] .ret) .skip))) Rk
noncomputable def V9:gE :=
 .seq (p2 [p3 29 10,qu 30 29 2 .rem,p3 31 2,qs 32 30 31 .neq] (.cond (.nc 32) (.exit 1) .skip)) Rl
noncomputable def V_:gE :=
 .block 1 (p2 [p3 28 26,p1 10 28] V9)
noncomputable def Rm:gE :=
 .ov true [p1 59 13,p3 60 1,p3 61 15,rn 62 60 61 1,qf 63 62,p3 64 0,p0 65 [.Bs 64] .z4,qv 66 65 0,qv 67 66 0,qf 68 67,p3 69 1,p3 70 1,qW 71 70,qu 72 71 1 .sub,p3 73 15,qs 74 72 73 .sub,rn 75 69 74 1,qf 76 75,rn 77 68 76 2,p0 78 [.Bs 77] (.zE (.str 2)),p0 79 [.Bs 63,.Bs 78] (.build [.int .i64 0,.int .i64 0,.int .i64 0] [(0,1),(1,2)]),p0 80 [.Bs 79] (.yB 1 3 [.int .i64 0,.int .i64 0,.int .i64 0] [0]),p0 81 [.jq 59,.jq 80] (.app 3 24),p1 13 81]
noncomputable def V':gE :=
 .block 3 (p2 [p0 57 [.nc 53,.nc 55] (.kY 1),qf 58 57,p1 15 58] Rm)
noncomputable def OJ:gE :=
 .loop (some (p_ false [0,2,11,1,39,3,28])) (p2 [p0 56 [.nc 55,.nc 54] (.bin .lss)] (.seq (.cond (.nc 56) .skip (.exit 2)) (.seq V' (qM [qU 82 55 1,p1 55 82]))))
noncomputable def Rn:gE :=
 .seq (p2 [p1 53 9,p0 54 [.nc 53] .zJ,p' 55 0] (.block 2 OJ)) (p2 [p1 83 13,p1 6 83] .ret)
noncomputable def OK:gE :=
 .loop (some (p_ false [0,3,6,1,15,2,57])) (p2 [p0 27 [.nc 26,.nc 25] (.bin .lss)] (.seq (.cond (.nc 27) .skip (.exit 0)) (.seq V_ (qM [qU 52 26 1,p1 26 52]))))
noncomputable def Ro:gE :=
 .seq (p2 [p3 24 1,qW 25 24,p' 26 0] (.block 0 OK)) (p2 [p0 13 [.cv (.av [] 0 .full)] (.nil 3)] Rn)
noncomputable def V8:gE :=
 .seq (p2 [p3 17 0,p3 18 1,p3 19 2,p0 20 [.cv (.func 53 [] []),.jq 17,.jq 18,.jq 19,.cv (.av [] 0 .full)] (.call 1),p1 16 20,qo 21 16 0,p0 22 [.Bs 16] (.ext 1),p1 7 21,p1 8 22] (p2 [p1 23 8] (.cond (.nc 23) (p2 [p0 6 [.cv (.av [] 0 .full)] (.nil 3)] .ret) .skip))) (p2 [p0 9 [.cv (.av [] 0 .full)] (.nil 1)] Ro)
noncomputable def OI:gE :=
 p2 [p0 6 [.cv (.av [] 0 .full)] (.nil 3)] V8
theorem QU:qj Go.Proofs.Try.prog KA 48=some (OI,84,[.tmp 6]):=by kernel_rfl
end Go.Proofs.Ytkoioidpbbbaiaa.Ab


namespace Go.Proofs.Ytkoioidpbbbaiaa.Ab
open Go
set_option maxRecDepth 20000
set_option maxHeartbeats 4000000
def I7 (b:rP) (order:List Int) (qq:Int):List Int→Nat→List Int→Option (Nat×(List qm ⊕ List Int))
 | [],k,ad=>some (k,.inr ad)
 | i::r,k,ad =>
   if i.tmod 2≠qq then I7 b order qq r (k+1) ad
   else (Ie b order qq [i]).bind fun q=>if q.2=true then some (k+1,.inl q.1) else
    (JZ b i).bind fun p=>I7 b order qq r (k+1) (if 0<p then ad++[i] else ad)
def I2 (b:rP) (order:List Int):List Int→List qm→Option (List qm)
 | [],out=>some out
 | i::r,out=>qI (0≤i∧i<(order.length:Int)) <| qI (0≤w (w (order.length-1)-i)∧w (w (order.length-1)-i)<(order.length:Int)) <|
   qI (0≤ix order (w (w (order.length-1)-i))∧ix order (w (w (order.length-1)-i))<(b.1.1.length:Int)) <|
   I2 b order r (out++[(ix order i,ix b.1.1 (ix order (w (w (order.length-1)-i))))])
theorem adg {b:rP} {m lo:Nat} {order ad:List Int} {v:List qm} (h:I2 b order ad []=some v) (ao:ad.length≤1000) {T:List I} {H:List ar} {Q:cQ→List I→List ar→Prop}
  (b0:eZ [true,true,false,false,false,false,false,false,false,false,false,false,false,true,false,false,false,false,false,false,false,false,false,false,false,false,false,false,false,false,false,false,false,false,false,false,false,false,false,false,false,false,false,false,false,false,false,false,false,false,false,false,false,true,true,true,false,false,false,false,false,false,false,false,false,false,false,false,false,false,false,false,false,false,false,false,false,false,false,false,false,false,false,false] T=qb 84 [(0,rF b m),(1,.av (order.map h0) order.length .shared),(13,.av [] 0 (.uniq 3)),(53,.av (ad.map h0) ad.length (.own 1)),(54,h0 ad.length),(55,h0 0)])
  (bp:∀ Xb Xc Xd Xe,Q (.exit 2) (qb 84 [(0,rF b m),(1,.av (order.map h0) order.length .shared),(13,.av (v.flatMap ql) v.length (.uniq 3)),(53,Xb),(54,Xc),(55,Xd),(56,Xe)]) H) :
  dQ Try.prog KA 48 lo none OJ T H Q:=by
 unfold OJ;refine wp_loop b0 ?_;refine .intro (fun hr T H'=>∃ (i:Nat) (out:List qm),i≤ad.length∧hr=ad.length-i∧out.length=i∧I2 b order (ad.drop i) out=some v∧T=qb 84 [(0,rF b m),(1,.av (order.map h0) order.length .shared),(13,.av (out.flatMap ql) out.length (.uniq 3)),(53,.av (ad.map h0) ad.length (.own 1)),(54,h0 ad.length),(55,h0 i)]∧H'=H) ad.length ⟨0,[],sC _,rfl,rfl,h,rfl,rfl⟩ ?_;clear b0 h;rintro hr T H' ⟨i,out,hi,rfl,aq,al,rfl,rfl⟩;conv=>whnf
 refine HB (fun aR=>?_) (fun aR=>?_)
 ·have HC:i<ad.length:=by omega
  have Ij:0≤(i:Int)∧(i:Int)<(ad.length:Int):=by omega
  rw [s7 HC] at al;unfold I2 at al;obtain ⟨cf,al⟩:=Hj al;obtain ⟨ca,al⟩:=Hj al;obtain ⟨eS,al⟩:=Hj al;unfold V';obtain ⟨f',Hh⟩:∃ c,Rm=c:=⟨_,rfl⟩;rw [Hh];conv=>whnf
  refine ⟨Ij,?_⟩;rw [rD h0 ad (i:Int) Ij,rK HC];conv=>whnf
  subst Hh;unfold Rm;conv=>whnf
  refine ⟨cf,?_⟩;rw [rD h0 order _ cf];conv=>whnf
  refine ⟨ca,?_⟩;rw [rD h0 order _ ca];conv=>whnf
  refine ⟨eS,?_⟩;rw [IY p7 2 LY b.1.1 _ eS];conv=>whnf
  refine ⟨rfl,by decide,?_⟩;conv=>whnf
  refine ⟨by decide,by omega,?_⟩;conv=>whnf
  have rr:IntKind.i64.wrap ((i:Int)+1)=((i+1:Nat):Int):=by rw [HK _ (by omega) (by omega)];omega
  refine ⟨ad.length-(i+1),by omega,i+1,_,by omega,rfl,by simp [aq],al,?_,rfl⟩;rw [rr,uc,sB];rfl
 ·have:i=ad.length:=by omega
  subst this;rw [List.drop_length] at al;obtain rfl:=Option.some.inj al;conv=>whnf
  exact bp _ _ _ _
theorem afe {n i:Nat} (h:i<n):(qi n).drop i=(i:Int)::(qi n).drop (i+1):=by
 have ao:i<(qi n).length:=by rw [Le];exact h
 rw [s7 ao];simp [qi]
theorem abv {b:rP} {m lo k:Nat} {order:List Int} {qq:Int} {res:List qm ⊕ List Int} (h:I7 b order qq (qi order.length) 0 []=some (k,res)) (ao:order.length≤1000) {Hs:Nat→List ar}
  (cp:∀ (i:Nat) q,(i:Int).tmod 2=qq→Ie b order qq [(i:Int)]=some q→Sem Try.prog (.fn 53) [rF b m,.av (order.map h0) order.length .shared,h0 qq,.av [h0 (i:Int)] 1 (.uniq 1)] (Hs i) lo (.tuple [.av (q.1.flatMap ql) q.1.length .shared,B q.2]) (Hs (i+1)))
  (bJ:∀ i:Nat,(i:Int).tmod 2≠qq→Hs (i+1)=Hs i) {T:List I} {Q:cQ→List I→List ar→Prop}
  (b0:eZ [true,true,true,false,false,false,false,false,false,true,false,false,false,false,false,false,false,false,false,false,false,false,false,false,false,true,true,false,false,false,false,false,false,false,false,false,false,false,false,false,false,false,false,false,false,false,false,false,false,false,false,false,false,false,false,false,false,false,false,false,false,false,false,false,false,false,false,false,false,false,false,false,false,false,false,false,false,false,false,false,false,false,false,false] T=qb 84 [(0,rF b m),(1,.av (order.map h0) order.length .shared),(2,h0 qq),(9,.av [] 0 (.uniq 1)),(25,h0 order.length),(26,h0 0)])
  (aaz:∀ q T,res=.inl q→rB (Hs k) T [.tmp 6]=some [.av (q.flatMap ql) q.length .shared]→Q .ret T (Hs k))
  (aaA:∀ ad W9 W_ W',res=.inr ad→ad.length≤order.length→Q (.exit 0) (qb 84 [(0,rF b m),(1,.av (order.map h0) order.length .shared),(2,h0 qq),(9,.av (ad.map h0) ad.length (.uniq 1)),(25,W9),(26,W_),(27,W')]) (Hs k)) :
  dQ Try.prog KA 48 lo none OK T (Hs 0) Q:=by
 unfold OK;refine wp_loop b0 ?_;refine .intro (fun hr T H'=>∃ (i:Nat) (ad:List Int),i≤order.length∧hr=order.length-i∧ad.length≤i∧I7 b order qq ((qi order.length).drop i) i ad=some (k,res)∧T=qb 84 [(0,rF b m),(1,.av (order.map h0) order.length .shared),(2,h0 qq),(9,.av (ad.map h0) ad.length (.uniq 1)),(25,h0 order.length),(26,h0 i)]∧H'=Hs i) order.length ⟨0,[],sC _,rfl,sb _,h,rfl,rfl⟩ ?_;clear b0 h;rintro hr T H' ⟨i,ad,hi,rfl,aaU,al,rfl,rfl⟩;conv=>whnf
 have rr:i<order.length→IntKind.i64.wrap ((i:Int)+1)=((i+1:Nat):Int):=fun _=>by rw [HK _ (by omega) (by omega)];omega
 refine HB (fun aR=>?_) (fun aR=>?_)
 ·have HC:i<order.length:=by omega
  rw [afe HC] at al;unfold I7 at al;unfold V_ V9;obtain ⟨bt,eS⟩:∃ c,Rl=c:=⟨_,rfl⟩;rw [eS];conv=>whnf
  refine ⟨by decide,?_⟩;conv=>whnf
  by_cases J_:(i:Int).tmod 2=qq
  ·rw [decide_eq_false (show ¬ ((i:Int).tmod 2≠qq) from fun h=>h J_)];rw [if_neg (fun h=>h J_)] at al;obtain ⟨q,a_,al⟩:=p8 al;(conv=>whnf);subst eS;unfold Rl;obtain ⟨a9,ca⟩:∃ c,Rk=c:=⟨_,rfl⟩;rw [ca];(conv=>whnf);refine ⟨_,_,ra (cp i q J_ a_),?_⟩;(conv=>whnf);obtain ⟨q1,aW⟩:=q;cases aW with
   | true =>
     rw [if_pos rfl] at al;obtain ⟨ab,ae⟩:=Prod.mk.inj (Option.some.inj al);subst ab;(conv=>whnf);exact aaz _ _ ae.symm rfl
   | false =>
     rw [if_neg (by simp)] at al;obtain ⟨pl,hk,al⟩:=p8 al;(conv=>whnf);subst ca;unfold Rk;(conv=>whnf);refine ⟨_,_,call9 (bs:=[lp b,h0 i]) rfl (p4 (H0 b) (p4 rfl rfl)) (Kw hk),?_⟩;(conv=>whnf);refine HB (fun aB=>?_) (fun aB=>?_)
     ·rw [if_pos aB] at al;(conv=>whnf);refine ⟨rfl,by decide,?_⟩;(conv=>whnf);refine ⟨by decide,by omega,?_⟩;(conv=>whnf);refine ⟨order.length-(i+1),by omega,i+1,_,by omega,rfl,by simp;omega,al,?_,rfl⟩;rw [rr HC,sT,sB];rfl
     ·rw [if_neg aB] at al;(conv=>whnf);exact ⟨order.length-(i+1),by omega,i+1,ad,by omega,rfl,by omega,al,by rw [rr HC];rfl,rfl⟩
  ·rw [decide_eq_true (show (i:Int).tmod 2≠qq from J_)];rw [if_pos J_] at al;(conv=>whnf);refine ⟨order.length-(i+1),by omega,i+1,ad,by omega,rfl,by omega,al,by rw [rr HC];rfl,?_⟩;rw [bJ i J_]
 ·have:i=order.length:=by omega
  subst this;rw [uW (by rw [Le];omega)] at al;obtain ⟨ab,ae⟩:=Prod.mk.inj (Option.some.inj al);subst ab;conv=>whnf
  exact aaA _ _ _ _ ae.symm aaU
def Kt (b:rP) (order:List Int) (qq:Int):Option (List qm) :=
 qI (order.length≤1000) <|
 (Ie b order qq []).bind fun r=>if r.2=true then some [] else
 (I7 b order qq (qi order.length) 0 []).bind fun q=>match q.2 with
 | .inl l=>some l
 | .inr ad=>I2 b order ad []
theorem H4.refl (m:Nat) (H:List ar):H4 m H H:=⟨sb _,fun _ _ _=>rfl⟩
theorem H4.trans {m:Nat} {H H1 H2:List ar} (h:H4 m H H1) (k:H4 m H1 H2):H4 m H H2 :=
 ⟨Nat.le_trans h.1 k.1,fun j aw ao=>by rw [k.2 j aw (by have:=h.1;omega),h.2 j aw ao]⟩
theorem XJ {b:rP} {order:List Int} {qq:Int} {v:List qm} (h:Kt b order qq=some v) {m lo:Nat} {H:List ar} (bD:lo≤m) (bG:HP b m H) :
  ∃ H' c,(c=.shared∨c=.uniq 3∨c=.own 3)∧HP b m H'∧H4 m H H'∧Sem Try.prog (.fn 48) [rF b m,.av (order.map h0) order.length .shared,h0 qq] H lo (.av (v.flatMap ql) v.length c) H':=by
 unfold Kt at h;obtain ⟨aI,h⟩:=Hj h;obtain ⟨r,ai,h⟩:=p8 h;have er:m<H.length:=by obtain ⟨_,_,ab,_⟩:=bG;exact (r_.1 ab).1
 obtain ⟨dC,o,aaB⟩:=XN ai (m:=m) (lo:=lo) (H:=H) (by omega);obtain ⟨aS,bj⟩:=r;have dC:aS=[]:=dC;subst dC
 classical
 obtain ⟨Hs,gL,LM⟩:=Ob (fun i rj HU=>HP b m rj→(HP b m HU∧H4 m rj HU∧a' lo rj HU)∧(∀ q,(i:Int).tmod 2=qq→Ie b order qq [(i:Int)]=some q→Sem Try.prog (.fn 53) [rF b m,.av (order.map h0) order.length .shared,h0 qq,.av [h0 (i:Int)] 1 (.uniq 1)] rj lo (.tuple [.av (q.1.flatMap ql) q.1.length .shared,B q.2]) HU)∧((i:Int).tmod 2≠qq→HU=rj)) (H++[o]) (fun i rj=>by
  by_cases aP:HP b m rj
  ·by_cases hm:(i:Int).tmod 2=qq
   ·cases a_:Ie b order qq [(i:Int)] with
    | none=>exact ⟨rj,fun _=>⟨⟨aP,H4.refl _ _,a'.refl _ _⟩,(fun q _ h=>by cases h),fun h=>absurd hm h⟩⟩
    | some q =>
      obtain ⟨H',f1,f2,f3⟩:=XO a_ bD aP;exact ⟨H',fun _=>⟨⟨f1,f2,f3.1⟩,(fun fW _ h=>by obtain rfl:=Option.some.inj h;exact f3),fun h=>absurd hm h⟩⟩
   ·exact ⟨rj,fun _=>⟨⟨aP,H4.refl _ _,a'.refl _ _⟩,fun q h _=>absurd h hm,fun _=>rfl⟩⟩
  ·exact ⟨rj,fun h=>absurd h aP⟩)
 have c1:∀ i,HP b m (Hs i)∧H4 m H (Hs i)∧a' lo H (Hs i):=fun i=>by
  induction i with
  | zero=>rw [gL];exact ⟨bG.more _,⟨by simp,fun j _ aw=>by rw [sf aw]⟩,a'.append _ _ _⟩
  | succ i a8 =>
    obtain ⟨⟨aA,aG,aT⟩,_,_⟩:=LM i a8.1;exact ⟨aA,a8.2.1.trans aG,a8.2.2.trans aT⟩
 have start:∀ (Q:cQ→List I→List ar→Prop) (B9:gE),Ro=B9→(bj=true→∀ T,rB (H++[o]) T [.tmp 6]=some [.av [] 0 (.uniq 3)]→Q .ret T (H++[o]))→(bj=false→∀ Jn,dQ Try.prog KA 48 lo none B9 (qb 84 [(0,rF b m),(1,.av (order.map h0) order.length .shared),(2,h0 qq),(6,.av [] 0 (.uniq 3)),(7,Jn),(9,.av [] 0 (.uniq 1)),(23,.bool false)]) (H++[o]) Q) →
   dQ Try.prog KA 48 lo none OI (qb 84 [(0,rF b m),(1,.av (order.map h0) order.length .shared),(2,h0 qq)]) H Q:=by
  intro Q B9 aaN ab ae;unfold OI V8;rw [aaN];conv=>whnf
  refine ⟨_,_,ra aaB,?_⟩;conv=>whnf
  cases bj with
  | true =>
    (conv=>whnf);exact ab rfl _ rfl
  | false =>
    (conv=>whnf);exact ae rfl _
 cases bj with
 | true =>
   rw [if_pos rfl] at h;obtain rfl:=Option.some.inj h;refine ⟨H++[o],.uniq 3,.inr (.inl rfl),bG.more _,⟨by simp,fun j _ aw=>by rw [sf aw]⟩,?_⟩;refine re eG QU rfl (a'.append _ _ _) fun Q bp=>?_;refine start Q _ rfl (fun _ T b0=>?_) (fun h=>by cases h);exact bp _ _ _ ⟨.inr rfl,lI.refl _,by rw [b0];rfl⟩
 | false =>
   rw [if_neg (by simp)] at h;obtain ⟨⟨k,res⟩,ak,h⟩:=p8 h;have pB:∀ (Q:cQ→List I→List ar→Prop),
     (∀ q T,res=.inl q→rB (Hs k) T [.tmp 6]=some [.av (q.flatMap ql) q.length .shared]→Q .ret T (Hs k)) →
     (∀ ad,res=.inr ad→∃ bo,I2 b order ad []=some bo∧∀ T,rB (Hs k) T [.tmp 6]=some [.av (bo.flatMap ql) bo.length (.uniq 3)]→Q .ret T (Hs k)) →
     dQ Try.prog KA 48 lo none OI (qb 84 [(0,rF b m),(1,.av (order.map h0) order.length .shared),(2,h0 qq)]) H Q:=by
    intro Q ab ae;refine start Q _ rfl (fun h=>by cases h) fun _ Jn=>?_;unfold Ro;obtain ⟨a9,ca⟩:∃ c,OK=c:=⟨_,rfl⟩;obtain ⟨nv,I_⟩:∃ c,Rn=c:=⟨_,rfl⟩;rw [ca,I_];(conv=>whnf);subst ca;rw [←gL];refine abv (b:=b) (m:=m) (lo:=lo) ak aI (Hs:=Hs) (fun i q hm a_=>(LM i (c1 i).1).2.1 q hm a_) (fun i hm=>(LM i (c1 i).1).2.2 hm) (by exact rfl) (fun q T a_ b0=>?_) (fun ad W9 W_ W' a_ xe=>?_)
    ·(conv=>whnf);exact ab q T a_ b0
    ·obtain ⟨bo,aq,ai⟩:=ae ad a_;(conv=>whnf);subst I_;unfold Rn;obtain ⟨a7,cf⟩:∃ c,OJ=c:=⟨_,rfl⟩;rw [cf];(conv=>whnf);subst cf;refine adg (b:=b) (m:=m) (lo:=lo) aq (by omega) (by exact rfl) fun Xb Xc Xd Xe=>?_;(conv=>whnf);exact ai _ rfl
   have LO:=c1 k;cases res with
   | inl l =>
     obtain rfl:=Option.some.inj h;refine ⟨Hs k,.shared,.inl rfl,LO.1,LO.2.1,?_⟩;refine re eG QU rfl LO.2.2 fun Q bp=>?_;refine pB Q (fun q T a_ b0=>?_) (fun ad a_=>by cases a_);injection a_ with a_;subst a_;exact bp _ _ _ ⟨.inr rfl,lI.refl _,by rw [b0];rfl⟩
   | inr ad =>
     refine ⟨Hs k,.uniq 3,.inr (.inl rfl),LO.1,LO.2.1,?_⟩;refine re eG QU rfl LO.2.2 fun Q bp=>?_;refine pB Q (fun q T a_ b0=>by cases a_) (fun bh a_=>⟨v,?_,fun T b0=>?_⟩)
     ·injection a_ with a_;subst a_;exact h
     ·exact bp _ _ _ ⟨.inr rfl,lI.refl _,by rw [b0];rfl⟩
end Go.Proofs.Ytkoioidpbbbaiaa.Ab


namespace Go.Proofs.Ytkoioidpbbbaiaa.Ab
open Go
noncomputable def adZ:gE :=
 p2 [p3 19 3, qu 20 19 0 .lss] (.cond (.nc 20) (qM [p0 21 [.cv (.str (ByteArray.mk (Array.mk [108, 101, 110, 32, 111, 117, 116, 32, 111, 102, 32, 114, 97, 110, 103, 101])))] (.other (Oper.mk (some 21) (Op.makeInterface 9 (Operand.const (Value.string (ByteArray.mk (Array.mk [108, 101, 110, 32, 111, 117, 116, 32, 111, 102, 32, 114, 97, 110, 103, 101]))))) 20 "slices.go:496" (Array.mk []) none) 0), ⟨none, [.Bs 21], none, none, .other (Oper.mk none (Op.panic (Operand.tmp 21)) 0 "slices.go:496" (Array.mk [Edge.mk 0 Ground.data]) none) 0⟩]) .skip)
noncomputable def ad0:gE :=
 p2 [p1 15 3,p1 16 5,qW 17 16,qs 18 15 17 .add,p1 3 18] adZ
noncomputable def ad1:gE :=
 .block 1 (p2 [p0 13 [.nc 9,.nc 11] (.kY 1),qf 14 13,p1 5 14] ad0)
noncomputable def ad2:gE :=
 .ov false [p1 31 6,p1 32 8,p0 33 [.jq 31,.jq 32] (.app 3 24),p1 6 33]
noncomputable def ad3:gE :=
 .block 3 (p2 [p0 29 [.nc 25,.nc 27] (.kY 1),qf 30 29,p1 8 30] ad2)
noncomputable def ad4:gE :=
 .seq (p2 [p1 25 0,p0 26 [.nc 25] .zJ,p' 27 0] (.block 2 (.loop (some (p_ false [6,1,18,3,8])) (p2 [p0 28 [.nc 27,.nc 26] (.bin .lss)] (.seq (.cond (.nc 28) .skip (.exit 2)) (.seq ad3 (qM [qU 34 27 1,p1 27 34]))))))) (p2 [p1 35 6,p1 2 35] .ret)
noncomputable def ad5:gE :=
 .seq (p2 [p3 9 0,p0 10 [.nc 9] .zJ,p' 11 0] (.block 0 (.loop (some (p_ false [0,1,2,1,5,3,24])) (p2 [p0 12 [.nc 11,.nc 10] (.bin .lss)] (.seq (.cond (.nc 12) .skip (.exit 0)) (.seq ad1 (qM [qU 22 11 1,p1 11 22]))))))) (p2 [p1 23 3,p0 24 [.cv (.func 67 [] []),.cv (.av [] 0 .full),.nc 23] (.call 0),p1 6 24] ad4)
noncomputable def V7:gE :=
 p2 [p0 2 [.cv (.av [] 0 .full)] (.nil 3)] (p2 [p' 3 0] ad5)
theorem abX:qj Go.Proofs.Try.prog S1 47=some (V7,36,[.tmp 2]):=by kernel_rfl
end Go.Proofs.Ytkoioidpbbbaiaa.Ab


namespace Go.Proofs.Ytkoioidpbbbaiaa.Ab
open Go
set_option maxRecDepth 20000
set_option maxHeartbeats 4000000
noncomputable def O1 (k:Nat) (args:List I):Option I:=match ga Go.Proofs.Try.prog jD (O6 []) 300 (.fn k) args [] 0 with
 | some (r,H2)=>match bM H2 0 H2.length 0 8 r with
   | some v=>match cr 8 v with
     | true=>some v
     | false=>none
   | none=>none
 | none=>none
theorem WA {k:Nat} {args:List I} {v:I} (h:O1 k args=some v):nn Go.Proofs.Try.prog k args v:=by
 unfold O1 at h;split at h
 ·rename_i r H2 ak;split at h
  ·rename_i u aP;split at h
   ·rename_i aB;cases h;have ah:=(Cb eG jD (W0 (l:=[]) (by simp)) (Vf Tm) 300).Ha ak;refine ⟨⟨a'.refl _ _,ah.2.1,fun B aa J S w xs ag aI ad=>CallsIn.mono (ah.2.2 B aa J S w xs ag aI ad) fun e w' he=>?_⟩,aB⟩;cases e with
    | returned x=>exact xG ag (fun id aE=>by simp at aE) aP he
    | panicked c=>exact he.elim
    | outgrown=>exact he.elim
   ·cases h
  ·cases h
 ·cases h
def Ow:I→Bool
 | .av [] 0 (.uniq 3)=>true
 | _=>false
theorem Up {v:I} (h:Ow v=true):v=.av [] 0 (.uniq 3):=by
 unfold Ow at h;split at h
 ·rfl
 ·cases h
theorem aap:((List.range 20).all fun n=>match O1 67 [.av [] 0 .full,.int .i64 ((n+1:Nat):Int)] with | some v=>Ow v | none=>false)=true:=by kernel_rfl
theorem aaq {n:Nat} (h:n<20):qt 67 [.av [] 0 .full,h0 ((n+1:Nat):Int)] (.av [] 0 (.uniq 3)):=by
 have:=List.all_eq_true.1 aap n (List.mem_range.2 h);split at this
 ·rename_i v ad;rw [Up this] at ad;exact WA ad
 ·cases this
theorem Z1:(match O1 47 [.av [.av [] 0 .shared,.av [] 0 .shared] 2 (.uniq 1)] with | some v=>Ow v | none=>false)=true:=by kernel_rfl
theorem ZZ:qt 47 [.av [.av [] 0 .shared,.av [] 0 .shared] 2 (.uniq 1)] (.av [] 0 (.uniq 3)):=by
 have:=Z1;split at this
 ·rename_i v ad;rw [Up this] at ad;exact WA ad
 ·cases this
abbrev LE (l:List qm):I:=.av (l.flatMap ql) l.length .shared
theorem Z0 {l1 l2:List qm} (aI:l1.length+l2.length≤20) {H:List ar} {lo:Nat}:Sem Try.prog (.fn 47) [.av [LE l1,LE l2] 2 (.uniq 1)] H lo (.av ((l1++l2).flatMap ql) (l1++l2).length (.uniq 3)) H:=by
 by_cases aQ:l1.length+l2.length=0
 ·obtain rfl:=sO.1 (show l1.length=0 by omega);obtain rfl:=sO.1 (show l2.length=0 by omega);have:=WE (H:=H) (by rfl) ZZ;exact ⟨a'.refl _ _,this.2⟩
 obtain ⟨k,al⟩:∃ k,l1.length+l2.length=k+1:=⟨l1.length+l2.length-1,by omega⟩;refine re eG abX rfl (a'.refl _ _) fun Q bp=>?_;unfold V7;conv=>whnf
 have bI:IntKind.i64.wrap (0+(l1.length:Int))=(l1.length:Int):=by rw [HK _ (by omega) (by omega)];omega
 have bX:IntKind.i64.wrap ((l1.length:Int)+(l2.length:Int))=((l1.length+l2.length:Nat):Int):=by rw [HK _ (by omega) (by omega)];omega
 refine .intro (fun m T H'=>(m=2∧T=qb 36 [(0,.av [LE l1,LE l2] 2 (.own 1)),(3,h0 0),(9,.av [LE l1,LE l2] 2 .shared),(10,h0 2),(11,h0 0)]∧H'=H)∨(m=1∧T=qb 36 [(0,.av [LE l1,LE l2] 2 (.own 1)),(3,h0 l1.length),(9,.av [LE l1,LE l2] 2 .shared),(10,h0 2),(11,h0 1)]∧H'=H)∨(m=0∧T=qb 36 [(0,.av [LE l1,LE l2] 2 (.own 1)),(3,h0 ((l1.length+l2.length:Nat):Int)),(9,.av [LE l1,LE l2] 2 .shared),(10,h0 2),(11,h0 2)]∧H'=H)) 2 (.inl ⟨rfl,rfl,rfl⟩) ?_;rintro m T H' (⟨rfl,rfl,rfl⟩ | ⟨rfl,rfl,rfl⟩ | ⟨rfl,rfl,rfl⟩)
 ·conv=>whnf
  refine ⟨by decide,?_⟩;conv=>whnf
  rw [bI,decide_eq_false (show ¬ ((l1.length:Int)<0) by omega)];conv=>whnf
  exact ⟨1,by decide,.inr (.inl ⟨rfl,rfl,rfl⟩)⟩
 ·conv=>whnf
  refine ⟨by decide,?_⟩;conv=>whnf
  rw [bX,decide_eq_false (show ¬ (((l1.length+l2.length:Nat):Int)<0) by omega)];conv=>whnf
  exact ⟨0,by decide,.inr (.inr ⟨rfl,rfl,rfl⟩)⟩
 ·conv=>whnf
  rw [al];refine ⟨_,_,MI (p4 rfl (p4 rfl rfl)) (aaq (n:=k) (by omega)) _ _,?_⟩;conv=>whnf
  have bm:(l1.flatMap ql).length=l1.length*3:=Ih ql 3 (fun _=>rfl) l1;have cw:(l2.flatMap ql).length=l2.length*3:=Ih ql 3 (fun _=>rfl) l2;refine .intro (fun m T H2=>(m=2∧T=qb 36 [(6,.av [] 0 (.uniq 3)),(25,.av [LE l1,LE l2] 2 (.own 1)),(26,h0 2),(27,h0 0)]∧H2=H')∨(m=1∧T=qb 36 [(6,.av (l1.flatMap ql) l1.length (.uniq 3)),(25,.av [LE l1,LE l2] 2 (.own 1)),(26,h0 2),(27,h0 1)]∧H2=H')∨(m=0∧T=qb 36 [(6,.av ((l1++l2).flatMap ql) (l1++l2).length (.uniq 3)),(25,.av [LE l1,LE l2] 2 (.own 1)),(26,h0 2),(27,h0 2)]∧H2=H')) 2 (.inl ⟨rfl,rfl,rfl⟩) ?_;rintro m T H2 (⟨rfl,rfl,rfl⟩ | ⟨rfl,rfl,rfl⟩ | ⟨rfl,rfl,rfl⟩)
  ·(conv=>whnf);refine ⟨by decide,?_⟩;(conv=>whnf);refine ⟨bm,by omega,rfl,by omega,?_⟩;(conv=>whnf);refine ⟨1,by decide,.inr (.inl ⟨rfl,?_,rfl⟩)⟩;rw [sy];rfl
  ·(conv=>whnf);refine ⟨by decide,?_⟩;(conv=>whnf);refine ⟨cw,by omega,rfl,by omega,?_⟩;(conv=>whnf);refine ⟨0,by decide,.inr (.inr ⟨rfl,?_,rfl⟩)⟩;rw [uc,sB];rfl
  ·(conv=>whnf);exact bp _ _ _ ⟨.inr rfl,lI.refl _,rfl⟩

noncomputable def Yj:gE :=
 p2 [p0 2 [.jq 0] .box,p0 3 [.jq 1] .box,p' 4 0] (p2 [qv 5 2 0,qf 6 5,qv 7 3 0,qf 8 7,qs 9 6 8 .sub,p1 4 9] .ret)
theorem acK:qj Try.prog S3 50=some (Yj,10,[.tmp 4]):=by kernel_rfl
def XK (x:(Int×(Int×Int))) (y:(Int×(Int×Int))):Option Int :=
 some (w (x.1-y.1))
theorem agf {x:(Int×(Int×Int))} {y:(Int×(Int×Int))} {v:Int} (h:XK x y=some v):qt 50 [(.agg [(h0 x.1),(h0 x.2.1),(h0 x.2.2)]),(.agg [(h0 y.1),(h0 y.2.1),(h0 y.2.2)])] (h0 v):=by
 refine qD eG acK rfl rfl fun Q bp=>?_;have jJ:qC [.tmp 4] Q (fun v=>(h0 v)) v:=fun T H bE=>bp _ T H bE;unfold XK at h;unfold Yj;conv=>whnf
 exact p9 h jJ rfl rfl
end Go.Proofs.Ytkoioidpbbbaiaa.Ab


namespace Go.Proofs.Ytkoioidpbbbaiaa.Ab
open Go
noncomputable def ad7:gE :=
 .ov false [p1 7 0,p3 8 4,p1 9 4,p0 10 [.Bs 9] (.conv .u64),p0 11 [.cv (.func 70 [] []),.nc 10] (.call 3),p1 12 1,p0 13 [.cv (.func 69 [] []),.jq 7,.cv (.int .i64 0),.jq 8,.jq 11,.jq 12] (.call 1)]
noncomputable def Rp:gE :=
 p2 [p3 5 0,qW 6 5,p1 4 6] ad7
theorem UT:qj Go.Proofs.Try.prog S2 49=some (Rp,14,[]):=by kernel_rfl
noncomputable def Nr:gE :=
 p2 [p1 26 0,p1 27 1,p1 28 2,p1 29 4,p0 30 [.cv (.func 78 [] []),.jq 26,.jq 27,.jq 28,.jq 29] (.call 1)] .ret
noncomputable def aek:gE :=
 p2 [p1 33 0,p1 34 1,p1 35 2,p1 36 4,p0 37 [.cv (.func 79 [] []),.jq 33,.jq 34,.jq 35,.jq 36] (.call 1)] .ret
noncomputable def ael:gE :=
 p2 [p3 40 0,p3 41 1,p3 42 2,p3 43 4,p0 44 [.cv (.func 80 [] []),.jq 40,.jq 41,.jq 42,.jq 43] (.call 1)] (qM [p1 45 3,qu 46 45 1 .sub,p1 3 46])
noncomputable def aem:gE :=
 p2 [p3 62 2,qu 63 62 1 .sub,p1 64 13,p3 65 1,qs 66 64 65 .sub,qs 67 63 66 .sub,p1 13 67] (qM [p' 14 1])
noncomputable def aen:gE :=
 p2 [p3 57 0,p3 58 1,p3 59 2,p3 60 4,p0 61 [.cv (.func 82 [] []),.jq 57,.jq 58,.jq 59,.jq 60] (.call 1)] aem
noncomputable def aeo:gE :=
 p2 [p3 76 0,p3 77 1,p3 78 2,p3 79 4,p0 80 [.cv (.func 83 [] []),.jq 76,.jq 77,.jq 78,.jq 79] (.call 1)] (.cond (.nc 80) .ret .skip)
noncomputable def aep:gE :=
 p2 [p3 98 0,p1 99 1,p3 100 2,p1 101 13,p3 102 4,p0 103 [.cv (.func 84 [] []),.jq 98,.jq 99,.jq 100,.jq 101,.jq 102] (.call 1),p1 15 103] (p2 [p1 104 15,p1 1 104] (.exit 1))
noncomputable def aeq:gE :=
 p2 [p3 129 0,p1 130 1,p3 131 16,p3 132 3,p3 133 4,p0 134 [.cv (.func 69 [] []),.jq 129,.jq 130,.jq 131,.jq 132,.jq 133] (.call 1)] (qM [p1 135 16,qU 136 135 1,p1 1 136])
noncomputable def aer:gE :=
 p2 [p1 126 18,p1 127 20,qs 128 126 127 .geq,p1 10 128] aeq
noncomputable def aec:gE :=
 p2 [p3 140 0,p3 141 16,qU 142 141 1,p1 143 2,p3 144 3,p3 145 4,p0 146 [.cv (.func 69 [] []),.jq 140,.jq 142,.jq 143,.jq 144,.jq 145] (.call 1)] (qM [p1 147 16,p1 2 147])
noncomputable def aed:gE :=
 p2 [p1 137 19,p1 138 20,qs 139 137 138 .geq,p1 10 139] aec
noncomputable def aee:gE :=
 p2 [p1 121 12,qu 122 121 8 .quo,p1 20 122] (p2 [p3 123 18,p3 124 19,qs 125 123 124 .lss] (.cond (.nc 125) aer aed))
noncomputable def aef:gE :=
 p2 [p3 115 16,p3 116 1,qs 117 115 116 .sub,p3 118 2,p3 119 16,qs 120 118 119 .sub,p1 18 117,p1 19 120] aee
noncomputable def aeg:gE :=
 p2 [p3 106 0,p3 107 1,p3 108 2,p1 109 13,p3 110 4,p0 111 [.cv (.func 85 [] []),.jq 106,.jq 107,.jq 108,.jq 109,.jq 110] (.call 1),p1 105 111,qo 112 105 0,p0 113 [.Bs 105] (.ext 1),p1 16 112,p1 17 113] (p2 [p1 114 17,p1 11 114] aef)
noncomputable def aeh:gE :=
 .seq (.seq (qT [p3 81 1,qu 82 81 0 .gtr,p1 83 82,cl 84 [.nc 4] 83 true .mU,cl 85 [.nc 0] 83 true .mU,cl 86 [.nc 1] 83 true .mU,cl 87 [.Bs 86,.cv (.int .i64 1)] 83 true (.bin .sub),cl 88 [.Bs 85,.Bs 87] 83 true (.kY 3),cl 89 [.Bs 88] 83 true (.zE (.str 3)),cl 90 [.nc 0] 83 true .mU,cl 91 [.nc 13] 83 true .mU,cl 92 [.Bs 90,.Bs 91] 83 true (.kY 3),cl 93 [.Bs 92] 83 true (.zE (.str 3)),cl 94 [.nc 84,.nc 89,.nc 93] 83 true (.call 6),cl 95 [.Bs 94,.cv (.int .i64 0)] 83 true (.bin .lss),cl 96 [.Bs 95] 83 true (.un .not),p0 97 [.nc 83,.Bs 96,.cv (.bool false)] .pick]) (.cond (.nc 97) aep .skip)) aeg
noncomputable def aei:gE :=
 .seq (p2 [p3 68 10,p1 69 68,cl 70 [.nc 11] 69 true .mU,p0 71 [.Bs 69,.Bs 70,.cv (.bool false)] .pick,p1 72 71,cl 73 [.jq 14] 72 true .mU,cl 74 [.Bs 73,.cv (.int .i64 1)] 72 true (.bin .eql),p0 75 [.Bs 72,.Bs 74,.cv (.bool false)] .pick] (.cond (.nc 75) aeo .skip)) aeh
noncomputable def aej:gE :=
 p2 [p3 48 0,p3 49 1,p3 50 2,p3 51 4,p0 52 [.cv (.func 81 [] []),.jq 48,.jq 49,.jq 50,.jq 51] (.call 1),p1 47 52,qo 53 47 0,p0 54 [.Bs 47] (.ext 1),p1 13 53,p1 14 54] (.seq (p2 [p3 55 14,qu 56 55 2 .eql] (.cond (.nc 56) aen .skip)) aei)
noncomputable def Rz:gE :=
 .seq (p2 [p3 31 3,qu 32 31 0 .eql] (.cond (.nc 32) aek .skip)) (.seq (p2 [p3 38 10,p0 39 [.Bs 38] (.un .not)] (.cond (.nc 39) ael .skip)) aej)
noncomputable def Ns:gE :=
 .block 1 (p2 [p3 21 2,p3 22 1,qs 23 21 22 .sub,p1 12 23] (.seq (p2 [p3 24 12,qu 25 24 12 .leq] (.cond (.nc 25) Nr .skip)) Rz))
noncomputable def Ry:gE :=
 p2 [p0 10 [.cv (.bool true)] .mU] (p2 [p0 11 [.cv (.bool true)] .mU] (.block 0 (.loop (some (p_ false [0,5,5,2,136])) Ns)))
theorem UX:qj Go.Proofs.Try.prog Td 69=some (Ry,148,[]):=by kernel_rfl
noncomputable def aev:gE :=
 .block 3 (qT [p3 37 0,p3 38 9,p3 39 0,p3 40 9,qu 41 40 1 .sub,p3 42 0,p3 43 9,qu 44 43 1 .sub,rn 45 42 44 3,p0 46 [.Bs 45] (.zE (.str 3)),p3 47 0,p3 48 9,rn 49 47 48 3,p0 50 [.Bs 49] (.zE (.str 3)),rn 51 37 38 3,⟨none,[.jq 51,.jq 46],none,none,.st 3⟩,rn 52 39 41 3,⟨none,[.jq 52,.jq 50],none,none,.st 3⟩])
noncomputable def aew:gE :=
 .seq (.seq (qT [p3 18 9,p3 19 1,qs 20 18 19 .gtr,p1 21 20,cl 22 [.nc 3] 21 true .mU,cl 23 [.nc 0] 21 true .mU,cl 24 [.nc 9] 21 true .mU,cl 25 [.Bs 23,.Bs 24] 21 true (.kY 3),cl 26 [.Bs 25] 21 true (.zE (.str 3)),cl 27 [.nc 0] 21 true .mU,cl 28 [.nc 9] 21 true .mU,cl 29 [.Bs 28,.cv (.int .i64 1)] 21 true (.bin .sub),cl 30 [.Bs 27,.Bs 29] 21 true (.kY 3),cl 31 [.Bs 30] 21 true (.zE (.str 3)),cl 32 [.nc 22,.nc 26,.nc 31] 21 true (.call 6),cl 33 [.Bs 32,.cv (.int .i64 0)] 21 true (.bin .lss),p0 34 [.nc 21,.Bs 33,.cv (.bool false)] .pick]) (.cond (.nc 34) .skip (.exit 2))) (.seq aev (qM [p1 35 9,qu 36 35 1 .sub,p1 9 36]))
noncomputable def aex:gE :=
 .block 1 (p2 [p3 17 8,p1 9 17] (.block 2 (.loop (some (p_ false [0,4,4,2,43])) aew)))
noncomputable def aey:gE :=
 .seq (p2 [p3 12 8,p3 13 2,qs 14 12 13 .lss] (.cond (.nc 14) .skip (.exit 0))) (.seq aex (qM [p1 15 8,qU 16 15 1,p1 8 16]))
noncomputable def RI:gE :=
 p2 [p3 10 1,qU 11 10 1,p1 8 11] (.block 0 (.loop (some (p_ false [0,4,4,1,44])) aey))
theorem UZ:qj Go.Proofs.Try.prog Ti 78=some (RI,53,[]):=by kernel_rfl
end Go.Proofs.Ytkoioidpbbbaiaa.Ab


namespace Go.Proofs.Ytkoioidpbbbaiaa.Ab
open Go
set_option maxRecDepth 20000
set_option maxHeartbeats 4000000
def qJ (S:List qm) (j:Nat):qm:=ix S (j:Int)
def JV (S:List qm) (j:Nat):List qm:=(S.set (j+1) (qJ S j)).set j (qJ S (j+1))
def M5 (x y:qm):Bool:=decide (w (x.1-y.1)<0)
def HY:Nat→List qm→List qm
 | 0,S=>S
 | j+1,S=>if M5 (qJ S (j+1)) (qJ S j)=true then HY j (JV S j) else S
def Iu:Nat→Nat→List qm→List qm
 | 0,_,S=>S
 | m+1,i,S=>Iu m (i+1) (HY i S)
def rQ (S:List qm):List qm:=Iu (S.length-1) 1 S
theorem WZ (S:List qm) (j:Nat):(JV S j).length=S.length:=by simp [JV]
theorem Uk:∀ (j:Nat) (S:List qm),(HY j S).length=S.length
 | 0,S=>rfl
 | j+1,S=>by
   unfold HY;split
   ·rw [Uk j,WZ]
   ·rfl
theorem WI (S:List qm) (i:Nat) (c:qm) (h:i<S.length):(((S.flatMap ql).set (i*3) (h0 c.1)).set (i*3+1) (h0 c.2.1)).set (i*3+2) (h0 c.2.2)=(S.set i c).flatMap ql:=by
 induction S generalizing i with
 | nil=>exact absurd h (by simp)
 | cons s S a8 =>
   cases i with
   | zero=>rfl
   | succ i =>
     have:=a8 i (by simpa using h);show (((h0 s.1::h0 s.2.1::h0 s.2.2::S.flatMap ql).set ((i+1)*3) (h0 c.1)).set ((i+1)*3+1) (h0 c.2.1)).set ((i+1)*3+2) (h0 c.2.2)=h0 s.1::h0 s.2.1::h0 s.2.2::(S.set i c).flatMap ql;rw [←this,show (i+1)*3=i*3+1+1+1 by omega];rfl
abbrev Ip (S:List qm):ar:=.cells (S.flatMap ql)
theorem abd {H:List ar} {id lo n:Nat} (bD:lo≤id) {S:List qm} (aI:S.length=n) (za:n≤100) (ag:H[id]?=some (Ip S)) :
  Sem Try.prog (.fn 78) [.ref id 0 n none 3,h0 0,h0 n,.func 50 [] []] H lo (.tuple []) (H.set id (Ip (rQ S))):=by
 have aE:=(r_.1 ag).1;refine re eG UZ rfl ⟨by simp,fun j ab ae=>by rw [sc (by omega)]⟩ fun Q bp=>?_;have CI:Nat.ble lo id=true:=th bD;have gs:∀ c:ar,(H.set id c)[id]?=some c:=fun c=>by rw [si aE]
 have JJ:∀ c e:ar,(H.set id c).set id e=H.set id e:=fun c e=>List.set_set ..;unfold RI;conv=>whnf
 refine .intro (fun m T H'=>∃ (i:Nat) (S':List qm),1≤i∧(i≤n∨i=1)∧m=n-i∧S'.length=n∧Iu (n-i) i S'=rQ S∧T=qb 53 [(0,.ref id 0 n none 3),(1,h0 0),(2,h0 n),(3,.func 50 [] []),(8,h0 i)]∧H'=H.set id (Ip S')) (n-1) ⟨1,S,sb _,.inr rfl,rfl,aI,by rw [←aI];rfl,rfl,?_⟩ ?_
 ·obtain ⟨ab,ae⟩:=r_.1 ag;rw [←ae,List.set_getElem_self]
 rintro m T H' ⟨i,S',aaV,aaW,rfl,pk,he,rfl,rfl⟩;have Tz:i<n→IntKind.i64.wrap ((i:Int)+1)=((i+1:Nat):Int):=fun _=>by rw [HK _ (by omega) (by omega)];omega
 conv=>whnf
 refine HB (fun aR=>?_) (fun aR=>?_)
 ·have HC:i<n:=by omega
  conv=>whnf
  refine .intro (fun j T H'=>∃ bL:List qm,j≤i∧bL.length=n∧HY j bL=HY i S'∧T=qb 53 [(0,.ref id 0 n none 3),(1,h0 0),(2,h0 n),(3,.func 50 [] []),(8,h0 i),(9,h0 j)]∧H'=H.set id (Ip bL)) i ⟨S',sb _,pk,rfl,rfl,rfl⟩ ?_;rintro j T H' ⟨bL,aw,Qp,KZ,rfl,rfl⟩;have pE:(bL.flatMap ql).length=bL.length*3:=Ih ql 3 (fun _=>rfl) bL;conv=>whnf
  cases j with
  | zero =>
    (conv=>whnf);refine ⟨n-(i+1),by omega,i+1,bL,by omega,by omega,rfl,Qp,?_,by rw [Tz HC];rfl,rfl⟩;rw [←he,show n-i=(n-(i+1))+1 by omega];show _=Iu (n-(i+1)) (i+1) (HY i S');rw [←KZ];rfl
  | succ y =>
    (have hw:IntKind.i64.wrap (((y+1:Nat):Int)-1)=(y:Int):=by rw [HK _ (by omega) (by omega)];omega);rw [decide_eq_true (show (0:Int)<((y+1:Nat):Int) by omega)];(conv=>whnf);refine ⟨by omega,?_⟩;(conv=>whnf);refine Ew (gs _) ?_;(have gM:0≤((y+1:Nat):Int)∧((y+1:Nat):Int)<(bL.length:Int):=by omega);(have iS:0≤(y:Int)∧(y:Int)<(bL.length:Int):=by omega);(conv=>whnf);refine O0 ql 3 HT bL ((y+1:Nat):Int) gM rfl ?_;(conv=>whnf);refine JT ql 3 HT bL ((y+1:Nat):Int) gM 1 rfl ?_;(conv=>whnf);refine JT ql 3 HT bL ((y+1:Nat):Int) gM 2 rfl ?_;(conv=>whnf);rw [hw];refine ⟨by omega,?_⟩;(conv=>whnf);refine Ew (gs _) ?_;(conv=>whnf);refine O0 ql 3 HT bL (y:Int) iS rfl ?_;(conv=>whnf);refine JT ql 3 HT bL (y:Int) iS 1 rfl ?_;(conv=>whnf);refine JT ql 3 HT bL (y:Int) iS 2 rfl ?_;(conv=>whnf);refine ⟨p4 (HS (p4 rfl (p4 rfl (p4 rfl rfl)))) (p4 (HS (p4 rfl (p4 rfl (p4 rfl rfl)))) rfl),[.agg [h0 (qJ bL (y+1)).1,h0 (qJ bL (y+1)).2.1,h0 (qJ bL (y+1)).2.2],.agg [h0 (qJ bL y).1,h0 (qJ bL y).2.1,h0 (qJ bL y).2.2]],rfl,h0 (w ((qJ bL (y+1)).1-(qJ bL y).1)),rfl,agf rfl,q',?_⟩;(conv=>whnf);have mv:decide (w ((qJ bL (y+1)).1-(qJ bL y).1)<0)=M5 (qJ bL (y+1)) (qJ bL y):=rfl;rw [mv];have h':HY (y+1) bL=if M5 (qJ bL (y+1)) (qJ bL y)=true then HY y (JV bL y) else bL:=rfl;cases ak:M5 (qJ bL (y+1)) (qJ bL y) with
    | false =>
      rw [ak,if_neg (by decide)] at h';(conv=>whnf);refine ⟨n-(i+1),by omega,i+1,bL,by omega,by omega,rfl,Qp,?_,by rw [Tz HC];rfl,rfl⟩;rw [←he,show n-i=(n-(i+1))+1 by omega];show _=Iu (n-(i+1)) (i+1) (HY i S');rw [←KZ,h']
    | true =>
      rw [ak,if_pos rfl] at h';(conv=>whnf);rw [hw];refine ⟨by omega,?_⟩;(conv=>whnf);refine Ew (gs _) ?_;(conv=>whnf);refine O0 ql 3 HT bL (y:Int) iS rfl ?_;(conv=>whnf);refine JT ql 3 HT bL (y:Int) iS 1 rfl ?_;(conv=>whnf);refine JT ql 3 HT bL (y:Int) iS 2 rfl ?_;(conv=>whnf);refine ⟨by omega,?_⟩;(conv=>whnf);refine Ew (gs _) ?_;(conv=>whnf);refine O0 ql 3 HT bL ((y+1:Nat):Int) gM rfl ?_;(conv=>whnf);refine JT ql 3 HT bL ((y+1:Nat):Int) gM 1 rfl ?_;(conv=>whnf);refine JT ql 3 HT bL ((y+1:Nat):Int) gM 2 rfl ?_;(conv=>whnf);refine ⟨by omega,?_⟩;(conv=>whnf);rw [CI];refine Ew (gs _) ?_;(conv=>whnf);rw [show 0+((y+1:Nat):Int).toNat*3=(y+1)*3 by omega];refine Gn (by omega) ?_;(conv=>whnf);refine Gn (by rw [sY];omega) ?_;(conv=>whnf);refine Gn (by rw [sY,sY];omega) ?_;(conv=>whnf);have e1:=WI bL (y+1) (qJ bL y) (by omega);obtain ⟨jz,Qq⟩:∃ jz,jz=bL.set (y+1) (qJ bL y):=⟨_,rfl⟩;(have JN:jz.length=n:=by rw [Qq,sY];exact Qp);rw [←Qq] at e1;have ag7:(jz.flatMap ql).length=jz.length*3:=Ih ql 3 (fun _=>rfl) jz;erw [e1,JJ];refine ⟨by omega,?_⟩;(conv=>whnf);rw [CI];refine Ew (gs _) ?_;(conv=>whnf);rw [show 0+(y:Int).toNat*3=y*3 by omega];refine Gn (by omega) ?_;(conv=>whnf);refine Gn (by rw [sY];omega) ?_;(conv=>whnf);refine Gn (by rw [sY,sY];omega) ?_;(conv=>whnf);have b':=WI jz y (qJ bL (y+1)) (by omega);erw [b',JJ];(conv=>whnf);rw [hw];refine ⟨y,by omega,jz.set y (qJ bL (y+1)),by omega,by rw [sY];exact JN,?_,rfl,rfl⟩;rw [←KZ,h',Qq];rfl
 ·have bk:n-i=0:=by omega
  rw [bk] at he;have he:S'=rQ S:=he;subst he;conv=>whnf
  exact bp _ _ _ ⟨.inl rfl,lI.refl _,rfl⟩
theorem adl {H:List ar} {id lo n:Nat} (bD:lo≤id) {S:List qm} {Jf:Int} (aI:S.length=n) (za:n≤12) (ag:H[id]?=some (Ip S)) :
  Sem Try.prog (.fn 69) [.ref id 0 n none 3,h0 0,h0 n,h0 Jf,.func 50 [] []] H lo (.tuple []) (H.set id (Ip (rQ S))):=by
 refine re eG UX rfl ⟨by simp,fun j ab ae=>by rw [sc (by omega)]⟩ fun Q bp=>?_;unfold Ry;obtain ⟨P7,I9⟩:∃ c,Ns=c:=⟨_,rfl⟩;rw [I9];conv=>whnf
 refine .intro (fun m T H'=>T=qb 148 [(0,.ref id 0 n none 3),(1,h0 0),(2,h0 n),(3,h0 Jf),(4,.func 50 [] []),(10,B true),(11,B true)]∧H'=H) 0 ⟨rfl,rfl⟩ ?_;rintro m T H' ⟨rfl,rfl⟩;subst I9;unfold Ns;obtain ⟨a7,cf⟩:∃ c,Nr=c:=⟨_,rfl⟩;obtain ⟨P6,KE⟩:∃ c,Rz=c:=⟨_,rfl⟩;rw [cf,KE];conv=>whnf
 rw [show IntKind.i64.wrap ((n:Int)-0)=(n:Int) by rw [HK _ (by omega) (by omega)];omega,decide_eq_true (show (n:Int)≤12 by omega)];conv=>whnf
 subst cf;unfold Nr;conv=>whnf
 refine ⟨_,_,ra (abd bD aI (by omega) ag),?_⟩;conv=>whnf
 exact bp _ _ _ ⟨.inr rfl,lI.refl _,rfl⟩
theorem aeX {H:List ar} {id lo n:Nat} (bD:lo≤id) {S:List qm} (aI:S.length=n) (za:n≤12) (ag:H[id]?=some (Ip S)) :
  Sem Try.prog (.fn 49) [.ref id 0 n none 3,.func 50 [] []] H lo (.tuple []) (H.set id (Ip (rQ S))):=by
 refine re eG UT rfl ⟨by simp,fun j ab ae=>by rw [sc (by omega)]⟩ fun Q bp=>?_;unfold Rp;conv=>whnf
 rw [show IntKind.u64.wrap (n:Int)=(n:Int) by rw [Xo];omega];refine ⟨by first | rfl | simp only [tt,tV,LZ,L7,L0,L2,L1,L3,L9,L8,JS,L4,L5,L6,tp,tS],_,N9 n za,?_⟩
 conv=>whnf
 refine ⟨_,_,ra (adl bD aI za ag),?_⟩;conv=>whnf
 exact bp _ _ _ ⟨.inl rfl,lI.refl _,rfl⟩
section
variable {H:List ar} {lo:Nat}
theorem abe:Sem Try.prog (.fn 78) [.av [] 0 .shared,h0 0,h0 0,.func 50 [] []] H lo (.tuple []) H:=by
 refine re eG UZ rfl (a'.refl _ _) fun Q bp=>?_;unfold RI;conv=>whnf
 refine .intro (fun m T H'=>T=qb 53 [(0,.av [] 0 .shared),(1,h0 0),(2,h0 0),(3,.func 50 [] []),(8,h0 1)]∧H=H') 0 ⟨rfl,rfl⟩ ?_;rintro m T H' ⟨rfl,rfl⟩;conv=>whnf
 exact bp _ _ _ ⟨.inl rfl,lI.refl _,rfl⟩
theorem adm {Jf:Int}:Sem Try.prog (.fn 69) [.av [] 0 .shared,h0 0,h0 0,h0 Jf,.func 50 [] []] H lo (.tuple []) H:=by
 refine re eG UX rfl (a'.refl _ _) fun Q bp=>?_;unfold Ry;obtain ⟨P7,I9⟩:∃ c,Ns=c:=⟨_,rfl⟩;rw [I9];conv=>whnf
 refine .intro (fun m T H'=>T=qb 148 [(0,.av [] 0 .shared),(1,h0 0),(2,h0 0),(3,h0 Jf),(4,.func 50 [] []),(10,B true),(11,B true)]∧H'=H) 0 ⟨rfl,rfl⟩ ?_;rintro m T H' ⟨rfl,rfl⟩;subst I9;unfold Ns;obtain ⟨a7,cf⟩:∃ c,Nr=c:=⟨_,rfl⟩;obtain ⟨P6,KE⟩:∃ c,Rz=c:=⟨_,rfl⟩;rw [cf,KE];conv=>whnf
 subst cf;unfold Nr;conv=>whnf
 refine ⟨_,_,ra abe,?_⟩;conv=>whnf
 exact bp _ _ _ ⟨.inr rfl,lI.refl _,rfl⟩
theorem aeY:Sem Try.prog (.fn 49) [.av [] 0 .shared,.func 50 [] []] H lo (.tuple []) H:=by
 refine re eG UT rfl (a'.refl _ _) fun Q bp=>?_;unfold Rp;conv=>whnf
 refine ⟨by first | rfl | simp only [tt,tV,LZ,L7,L0,L2,L1,L3,L9,L8,JS,L4,L5,L6,tp,tS],_,N9 0 (by decide),?_⟩
 conv=>whnf
 refine ⟨_,_,ra adm,?_⟩;conv=>whnf
 exact bp _ _ _ ⟨.inl rfl,lI.refl _,rfl⟩
end

abbrev LA (p:qc) (qa:List (List Int)):List I:=[(.agg [(.av (p.1.flatMap p7) p.1.length .shared),(h0 p.2.1),(h0 p.2.2)]),(.av (qa.map oX) qa.length (.uniq 1))]
theorem af6 {eK:(List Int)} {Hq:Unit→Option ((Option (((List (Int×Int))×(Int×Int))×Unit))×Int)} {s2:Int} {p:((List (Int×Int))×(Int×Int))} {qa:(List (List Int))} {s1:Int} {v:((Option (((List (Int×Int))×(Int×Int))×Unit))×Int)} {Q:cQ→List I→List ar→Prop}   (jJ:∀ (e:Int) (T:List I),v=(none,e)→rB [rp p] T [.tmp 4,.tmp 5]=some [.eI,h0 e]→Q .ret T [rp p]) (K0:∀ (qh:List I),Hq ()=some v→rO 48 [(2,(.ptr 0 0)),(8,(.av ((ix qa s1).map h0) (ix qa s1).length .shared)),(17,(.av (qa.map oX) qa.length (.own 1))),(18,(h0 (qa.length:Int))),(19,(h0 s1))] qh→Q (.exit 2) qh [ar.cells [(.av (p.1.flatMap p7) p.1.length .shared),(h0 p.2.1),(h0 p.2.2)]]) {T:List I} (b0:eZ [false,false,true,false,false,false,false,false,true,false,false,false,false,false,false,false,false,true,true,true,false,false,false,false,false,false,true,true,true,false,false,false,false,false,false,false,false,false,false,false,false,false,false,false,false,false,false,false] T=qb 48 [(2,(.ptr 0 0)),(8,(.av ((ix qa s1).map h0) (ix qa s1).length .shared)),(17,(.av (qa.map oX) qa.length (.own 1))),(18,(h0 (qa.length:Int))),(19,(h0 s1)),(26,(.av (eK.map h0) eK.length .shared)),(27,(h0 (eK.length:Int))),(28,(h0 s2))]) (h:Io eK Hq qn s2=some v) :
  dQ Try.prog J4 36 0 none JE T [ar.cells [(.av (p.1.flatMap p7) p.1.length .shared),(h0 p.2.1),(h0 p.2.2)]] Q:=by
 unfold JE;skip;refine wp_loop b0 ?_;refine .intro (fun m T H=>∃ (s2:Int),T=qb 48 [(2,(.ptr 0 0)),(8,(.av ((ix qa s1).map h0) (ix qa s1).length .shared)),(17,(.av (qa.map oX) qa.length (.own 1))),(18,(h0 (qa.length:Int))),(19,(h0 s1)),(26,(.av (eK.map h0) eK.length .shared)),(27,(h0 (eK.length:Int))),(28,(h0 s2))]∧H=[ar.cells [(.av (p.1.flatMap p7) p.1.length .shared),(h0 p.2.1),(h0 p.2.2)]]∧Io eK Hq m s2=some v) qn ⟨s2,rfl,rfl,h⟩ ?_;clear h b0;rintro m T H ⟨s2,rfl,rfl,h⟩;cases m
 ·exact Hr h
 rename_i m;rw [Io.eq_2] at h;conv=>whnf
 refine bs h (fun qR h=>?_) fun qR h=>?_
 ·rw [qR];conv=>whnf
  refine q8 h id fun rU h=>?_;rw [rD h0 eK s2 rU];conv=>whnf
  refine bs h (fun rJ h=>?_) fun rJ h=>?_
  ·rw [rJ];(conv=>whnf);obtain rfl:=Option.some.inj h;exact jJ _ _ rfl rfl
  ·rw [rJ];(conv=>whnf);exact ⟨m,sG m,(w (s2+(1:Int))),rfl,rfl,h⟩
 ·rw [qR];conv=>whnf
  exact K0  _ h ⟨rfl,rfl⟩
theorem XC {p:((List (Int×Int))×(Int×Int))} {qa:(List (List Int))} {qe:Unit→Option ((Option (((List (Int×Int))×(Int×Int))×Unit))×Int)} {s1:Int} {v:((Option (((List (Int×Int))×(Int×Int))×Unit))×Int)} {Q:cQ→List I→List ar→Prop}   (jJ:∀ (e:Int) (T:List I),v=(none,e)→rB [rp p] T [.tmp 4,.tmp 5]=some [.eI,h0 e]→Q .ret T [rp p]) (ry:∀ (qh:List I),qe ()=some v→rO 48 [(2,(.ptr 0 0))] qh→Q (.exit 0) qh [ar.cells [(.av (p.1.flatMap p7) p.1.length .shared),(h0 p.2.1),(h0 p.2.2)]]) {T:List I} (b0:eZ [false,false,true,false,false,false,false,false,false,false,false,false,false,false,false,false,false,true,true,true,false,false,false,false,false,false,false,false,false,false,false,false,false,false,false,false,false,false,false,false,false,false,false,false,false,false,false,false] T=qb 48 [(2,(.ptr 0 0)),(17,(.av (qa.map oX) qa.length (.own 1))),(18,(h0 (qa.length:Int))),(19,(h0 s1))]) (h:Hx p qa qe qn s1=some v) :
  dQ Try.prog J4 36 0 none I5 T [ar.cells [(.av (p.1.flatMap p7) p.1.length .shared),(h0 p.2.1),(h0 p.2.2)]] Q:=by
 unfold I5;obtain ⟨H9,qG⟩:∃ c,JE=c:=⟨_,rfl⟩;rw [qG];refine wp_loop b0 ?_;refine .intro (fun m T H=>∃ (s1:Int),T=qb 48 [(2,(.ptr 0 0)),(17,(.av (qa.map oX) qa.length (.own 1))),(18,(h0 (qa.length:Int))),(19,(h0 s1))]∧H=[ar.cells [(.av (p.1.flatMap p7) p.1.length .shared),(h0 p.2.1),(h0 p.2.2)]]∧Hx p qa qe m s1=some v) qn ⟨s1,rfl,rfl,h⟩ ?_;clear h b0;rintro m T H ⟨s1,rfl,rfl,h⟩;cases m
 ·exact Hr h
 rename_i m;rw [Hx.eq_2] at h;conv=>whnf
 refine bs h (fun qp h=>?_) fun qp h=>?_
 ·rw [qp];conv=>whnf
  refine q8 h id fun qE h=>?_;rw [rD oX qa s1 qE];conv=>whnf
  obtain ⟨bj,qX,h⟩:=p8 h;refine ⟨qd.pl,_,Sa qX,?_⟩;conv=>whnf
  obtain ⟨eK,rG,h⟩:=p8 h;refine ⟨(p4 (IK rfl (p4 (Ia (p4 (rE (fun _=>rfl) _ _ _) rfl)) rfl)) rfl),_,R'  rG,?_⟩;conv=>whnf
  subst qG;refine af6 ?_ ?_ (by exact rfl) h
  ·exact fun e T bE ai=>jJ e T bE ai
  ·intro  qh h qK;obtain ⟨rT,rfl⟩:=qK.ex;(conv=>whnf);refine bs h (fun rW h=>?_) fun rW h=>?_
   ·rw [rW];(conv=>whnf);obtain rfl:=Option.some.inj h;exact jJ _ _ rfl rfl
   ·rw [rW];(conv=>whnf);exact ⟨m,sG m,(w (s1+(1:Int))),rfl,rfl,h⟩
 ·rw [qp];conv=>whnf
  exact ry  _ h ⟨rfl,rfl⟩
theorem af2 {p:qc} {qa:List (List Int)} {e:Int} (h:rz p qa=some (none,e)):Sem Try.prog (.fn 36) (LA p qa) [] 0 (.tuple [.eI,h0 e]) [rp p]:=by
 refine re eG M6 rfl (Iw (sC _)) fun Q bp=>?_;have jJ:∀ (cV:Int) (T:List I),((none,e):Option (qc×Unit)×Int)=(none,cV)→rB [rp p] T [.tmp 4,.tmp 5]=some [.eI,h0 cV]→Q .ret T [rp p]:=fun cV T he ai=>by
  obtain rfl:=(Prod.mk.inj he).2;exact bp _ _ _ ⟨.inr rfl,lI.refl _,by rw [ai];rfl⟩
 unfold rz at h;unfold MD;obtain ⟨LH,Hi⟩:∃ c,I5=c:=⟨_,rfl⟩;rw [Hi];conv=>whnf
 obtain ⟨aS,gM,h⟩:=p8 h;refine ⟨qd.pl,_,Lt gM,?_⟩;conv=>whnf
 refine bs h (fun gN h=>?_) fun gN h=>?_
 ·rw [gN];conv=>whnf
  obtain rfl:aS=e:=(Prod.mk.inj (Option.some.inj h)).2;exact jJ _ _ rfl rfl
 ·rw [gN];conv=>whnf
  subst Hi;refine XC ?_ ?_ (by exact rfl) h
  ·exact fun e T bE ai=>jJ e T bE ai
  ·intro  qh h qK;exact absurd (Prod.mk.inj (Option.some.inj h)).1 (by simp)
theorem af7 {p:qc} {qa:List (List Int)} {t:qc×Unit} {e:Int} (h:rz p qa=some (some t,e)):t=(p,())∧e=0∧Sem Try.prog (.fn 36) (LA p qa) [] 0 (.tuple [.ptr 2 0,h0 0]) [rp p,.map [] 0,.cells [(.av (p.1.flatMap p7) p.1.length .shared),(h0 p.2.1),(h0 p.2.2),.map 1]]:=by
 have ad:t=(p,())∧e=0:=by
  have aX:=h;unfold rz at aX;obtain ⟨aS,gM,aX⟩:=p8 aX;split at aX
  ·cases aX
  ·exact Uz aX
 obtain ⟨rfl,rfl⟩:=ad;refine ⟨rfl,rfl,?_⟩;refine re eG M6 rfl (Iw (sC _)) fun Q bp=>?_;unfold rz at h;unfold MD;obtain ⟨LH,Hi⟩:∃ c,I5=c:=⟨_,rfl⟩;rw [Hi];conv=>whnf
 obtain ⟨aS,gM,h⟩:=p8 h;refine ⟨qd.pl,_,Lt gM,?_⟩;conv=>whnf
 refine bs h (fun gN h=>?_) fun gN h=>?_
 ·exact absurd (Prod.mk.inj (Option.some.inj h)).1 (by simp)
 ·rw [gN];conv=>whnf
  subst Hi;refine XC ?_ ?_ (by exact rfl) h
  ·exact fun e T bE ai=>absurd (Prod.mk.inj bE).1 (by simp)
  ·intro  qh h qK;obtain ⟨rT,rfl⟩:=qK.ex;(conv=>whnf);exact bp _ _ _ ⟨.inr rfl,lI.refl _,rfl⟩
section
variable {p:qc} {qa:List (List Int)}
theorem ZE {e:Int} {lo:Nat} (h:rz p qa=some (none,e)):oV Try.prog 8 lo (.fn 36) (LA p qa) [] (.tuple [.eI,h0 e]) [] :=
 ⟨_,EB (af2 h),by
  show (k9 _ _ _ _ _ _ (.fn 36) (LA p qa) [] 0).bind _=_
  rw [EA];rfl⟩
theorem ZG {t:qc×Unit} {e:Int} {lo:Nat} (h:rz p qa=some (some t,e)):oV Try.prog 8 lo (.fn 36) (LA p qa) [] (.tuple [.bS [(.av (p.1.flatMap p7) p.1.length .shared),(h0 p.2.1),(h0 p.2.2),.map 0],h0 0]) [.map [] 0] :=
 ⟨_,EB (af7 h).2.2,by
  show (k9 _ _ _ _ _ _ (.fn 36) (LA p qa) [] 0).bind _=_;rw [EA];have e1:ea (bM [rp p,.map [] 0,.cells [(.av (p.1.flatMap p7) p.1.length .shared),(h0 p.2.1),(h0 p.2.2),.map 1]] 0 1 0 6) [(.av (p.1.flatMap p7) p.1.length .shared),(h0 p.2.1),(h0 p.2.2),.map 1]=some [(.av (p.1.flatMap p7) p.1.length .shared),(h0 p.2.1),(h0 p.2.2),.map 0] :=
   rf (yW (Hu (fun _=>p4 rfl (p4 rfl rfl)) _ _ _)) (rf (yW rfl) (rf (yW rfl) (rf rfl Ix)))
  have b':bM [rp p,.map [] 0,.cells [(.av (p.1.flatMap p7) p.1.length .shared),(h0 p.2.1),(h0 p.2.2),.map 1]] 0 1 0 8 (.tuple [.ptr 2 0,h0 0])=some (.tuple [.bS [(.av (p.1.flatMap p7) p.1.length .shared),(h0 p.2.1),(h0 p.2.2),.map 0],h0 0]) :=
   MJ (rf (show (ea (bM [rp p,.map [] 0,.cells [(.av (p.1.flatMap p7) p.1.length .shared),(h0 p.2.1),(h0 p.2.2),.map 1]] 0 1 0 6) [(.av (p.1.flatMap p7) p.1.length .shared),(h0 p.2.1),(h0 p.2.2),.map 1]).map I.bS=_ by rw [e1];rfl) (rf rfl Ix))
  show (match mapM (bM [rp p,.map [] 0,.cells [(.av (p.1.flatMap p7) p.1.length .shared),(h0 p.2.1),(h0 p.2.2),.map 1]] 0 1 0 8) [],bM [rp p,.map [] 0,.cells [(.av (p.1.flatMap p7) p.1.length .shared),(h0 p.2.1),(h0 p.2.2),.map 1]] 0 1 0 8 (.tuple [.ptr 2 0,h0 0]) with | some es',some v=>some (v,[]++[ar.map es' 0]) | _,_=>none)=_
  rw [b'];rfl⟩
end
end Go.Proofs.Ytkoioidpbbbaiaa.Ab


namespace Go.Proofs.Ytkoioidpbbbaiaa.Ab
open Go
noncomputable def Re:gE :=
 p2 [p3 33 9, p1 34 8, p0 35 [.jq 33, .jq 34] (.other (Oper.mk (some 35) (Op.call (Call.mk (Callee.builtin Builtin.copy) (Array.mk [Operand.tmp 33, Operand.tmp 34]) (Array.mk [43, 43]))) 3 "curl.go:142" (Array.mk [Edge.mk 0 Ground.data, Edge.mk 1 Ground.data]) none) 0)] (p2 [p1 36 9, p1 4 36, p' 5 0] .ret)
noncomputable def Nl:gE :=
 p2 [p3 30 8,qW 31 30,p0 32 [.nc 31,.Bs 31] (.z1 [.int .i64 0,.int .i64 0,.int .i64 0] 3 24),p1 9 32] Re
noncomputable def K9:gE :=
 p2 [p3 28 8,p0 29 [.cv (.func 49 [] []),.jq 28,.cv (.func 50 [] [])] (.call 1)] Nl
noncomputable def Rf:gE :=
 p2 [p3 20 6,p3 21 1,p0 22 [.cv (.func 48 [] []),.jq 20,.jq 21,.cv (.int .i64 0)] (.call 1),p1 23 6,p1 24 1,p0 25 [.cv (.func 48 [] []),.jq 23,.jq 24,.cv (.int .i64 1)] (.call 1),p0 26 [.Bs 22,.Bs 25] (.yB 2 1 [.av [] 0 .full] [0,1]),p0 27 [.cv (.func 47 [] []),.jq 26] (.call 1),⟨some 8,[.jq 27],none,some 27,.Bq⟩] K9
noncomputable def VV:gE :=
 .seq (p2 [p3 17 7,qu 18 17 0 .neq] (.cond (.nc 18) (p2 [p1 19 7,p0 4 [.cv (.av [] 0 .full)] (.nil 3),p1 5 19] .ret) .skip)) Rf
noncomputable def VW:gE :=
 p2 [p0 11 [.Bs 2] (.zE (.str 3)),p3 12 1,p0 13 [.Bs 12] (.yB 1 1 [.av [] 0 .full] [0]),p0 14 [.cv (.func 36 [] []),.jq 11,.jq 13] (.call 8),p1 10 14,qo 15 10 0,p0 16 [.Bs 10] (.ext 1),p1 6 15,p1 7 16] VV
noncomputable def VU:gE :=
 p2 [p0 2 [.jq 0] .yy,p0 4 [.cv (.av [] 0 .full)] (.nil 3),p' 5 0] VW
theorem abQ:qj Go.Proofs.Try.prog N6 22=some (VU,37,[.tmp 4,.tmp 5]):=by kernel_rfl
end Go.Proofs.Ytkoioidpbbbaiaa.Ab


namespace Go.Proofs.Ytkoioidpbbbaiaa.Ab
open Go
set_option maxRecDepth 20000
set_option maxHeartbeats 4000000
def Lj (p:qc) (order:List Int):Option (List qm×Int) :=
 (rz p [order]).bind fun r=>match r with
 | (none,q)=>if decide (q≠0)=true then some ([],q) else none
 | (some b,_)=>(Kt b order 0).bind fun l1=>(Kt b order 1).bind fun l2=>qI (l1.length+l2.length≤12) <| some (rQ (l1++l2),0)
theorem aak (b:rP):HP b 0 [.map [] 0]:=⟨[],0,rfl,fun e he=>absurd he (by simp)⟩
theorem Um:∀ (m i:Nat) (S:List qm),(Iu m i S).length=S.length
 | 0,_,_=>rfl
 | m+1,i,S=>by unfold Iu;rw [Um m,Uk]
theorem WO (S:List qm):(rQ S).length=S.length:=Um _ _ _
theorem aeA (n:Nat) {a b c:I}:(e_ n [a,b,c]).length=n*3:=by
 induction n with
 | zero=>rfl
 | succ n a8=>show ([a,b,c]++e_ n [a,b,c]).length=_;rw [sB,a8];simp;omega
theorem Wx {S:List qm} {H:List ar} {id n:Nat} {cap:Option Nat} (ag:H[id]?=some (Ip S)) (aI:S.length=n):rowOf H (.ref id 0 n cap 3)=some (S.flatMap ql):=by
 have ao:(S.flatMap ql).length=S.length*3:=Ih ql 3 (fun _=>rfl) S;simp only [rowOf,ag,sy,tj];rw [if_pos (by omega),tb (by omega),QW (Xk (f:=ql) (fun _=>ND rfl (ND rfl (ND rfl Xl))) S)]
theorem aeS {vs cs:List I} (h:vs.length=cs.length):setCells 0 vs cs=vs:=by
 apply List.ext_getElem?;intro j;rw [m' _ _ _ _ (by omega)];by_cases aw:j<vs.length
 ·rw [if_pos ⟨by omega,by omega⟩];simp
 ·rw [if_neg (by omega),uJ (by omega),uJ (by omega)]
theorem Z4 {P:Program} {lo a b n:Nat} {H:List ar} {S:List qm} {cells:List I} {cap:Option Nat} {e:TypeId} {ts:Array TypeId} (e1:(ts[0]?).bind P.underlying=some (.slice e)) (b':bF P e=some 3) (bD:lo≤a)
  (af:H[b]?=some (Ip S)) (aI:S.length=n) (cu:H[a]?=some (.cells cells)) (ak:cells.length=n*3):j_ P lo ts H [.ref a 0 n (some n) 3,.ref b 0 n cap 3]=some (.int .i64 (n:Int),H.set a (Ip S)):=by
 have ao:(S.flatMap ql).length=S.length*3:=Ih ql 3 (fun _=>rfl) S;have cI:=Wx (cap:=cap) af aI;unfold j_;simp only [e1,b',lenOf,cI,fS,cu,if_pos bD];rw [if_pos ⟨trivial,by omega⟩,if_pos (by omega),Nat.min_self,tb (by omega),aeS (by omega)];rfl
theorem TL {S:List qm} {H:List ar} {id n d:Nat} {cap:Option Nat} (aE:id<H.length) (ag:H[id]?=some (Ip S)) (aI:S.length=n):bM H 0 H.length 0 (d+2) (.ref id 0 n cap 3)=some (.av (S.flatMap ql) n (e3 cap n)):=by
 show (if id<0 then some (I.ref id 0 n cap 3) else if id=H.length then some (.ref 0 0 n cap 3) else match rowOf H (.ref id 0 n cap 3) with | some row=>(ea (bM H 0 H.length 0 (d+1)) row).map fun cs=>.av cs n (e3 cap n) | none=>none)=_;rw [if_neg (by omega),if_neg (by omega),Wx ag aI];have l0:ea (bM H 0 H.length 0 (d+1)) (S.flatMap ql)=some (S.flatMap ql):=zU fun u hu=>by
  obtain ⟨x,_,aj⟩:=List.mem_flatMap.1 hu;simp only [ql,sx,tM,or_false] at aj;rcases aj with rfl | rfl | rfl <;> rfl
 simp only [l0,Option.map_some]
theorem afa {H2:List ar} {L:List qm} (fq:L.length≤12) {RV:I} {Q:cQ→List I→List ar→Prop}
  (bp:∀ T H,HQ [.tmp 4,.tmp 5] (.tuple [.av ((rQ L).flatMap ql) (rQ L).length .shared,h0 0]) .ret T H→Q .ret T H) :
  dQ Try.prog N6 22 0 none K9 (qb 37 [(4,.av [] 0 (.uniq 3)),(5,h0 0),(7,h0 0),(8,.ref H2.length 0 L.length none 3),(18,RV),(27,.ref H2.length 0 L.length none 3)]) (H2++[Ip L]) Q:=by
 have DG:(rQ L).length=L.length:=WO L;unfold K9;obtain ⟨a9,ca⟩:∃ c,Nl=c:=⟨_,rfl⟩;rw [ca];conv=>whnf
 refine ⟨_,_,ra (aeX (sC _) rfl fq (IH _ _)),?_⟩;rw [HO];conv=>whnf
 subst ca;unfold Nl Re;conv=>whnf
 refine ⟨by omega,sS _,by omega,?_⟩;conv=>whnf
 rw [tH];refine ⟨_,_,fun C=>(Vk rfl).trans (Z4 (e:=54) (S:=rQ L) (by kernel_rfl) (by kernel_rfl) (sC _) (by exact T4 (IH _ _)) DG (IH _ _) (aeA _)),?_⟩;conv=>whnf
 rw [HO];refine bp _ _ ⟨.inr rfl,[.ref (H2++[Ip (rQ L)]).length 0 L.length (some L.length) 3,h0 0],rfl,_,MJ (rf (TL (S:=rQ L) (by simp) (IH _ _) DG) (rf (yW rfl) Ix)),?_⟩;have e1:e3 (some L.length) L.length=.full:=by simp [e3]
 rw [e1,DG];rfl
theorem Z5 {P:Program} {lo a:Nat} {H:List ar} {cap:Option Nat} {c:hE} {e:TypeId} {ts:Array TypeId} (e1:(ts[0]?).bind P.underlying=some (.slice e)) (b':bF P e=some 3) (bD:lo≤a) (cu:H[a]?=some (.cells [])):j_ P lo ts H [.ref a 0 0 cap 3,.av [] 0 c]=some (.int .i64 0,H.set a (.cells [])):=by
 unfold j_;simp only [e1,b',lenOf,rowOf,fS,cu,if_pos bD];rfl
theorem afb {H2:List ar} {RV:I} {Q:cQ→List I→List ar→Prop}
  (bp:∀ T H,HQ [.tmp 4,.tmp 5] (.tuple [.av (([]:List qm).flatMap ql) ([]:List qm).length .shared,h0 0]) .ret T H→Q .ret T H) :
  dQ Try.prog N6 22 0 none K9 (qb 37 [(4,.av [] 0 (.uniq 3)),(5,h0 0),(7,h0 0),(8,.av [] 0 (.uniq 3)),(18,RV),(27,.av [] 0 .shared)]) H2 Q:=by
 unfold K9;obtain ⟨a9,ca⟩:∃ c,Nl=c:=⟨_,rfl⟩;rw [ca];conv=>whnf
 refine ⟨_,_,ra aeY,?_⟩;conv=>whnf
 subst ca;unfold Nl Re;conv=>whnf
 refine ⟨by omega,sS _,by omega,?_⟩;conv=>whnf
 refine ⟨_,_,fun C=>(Vk rfl).trans (Z5 (e:=54) (a:=H2.length) (by kernel_rfl) (by kernel_rfl) (sC _) (IH _ _)),?_⟩;conv=>whnf
 rw [HO];refine bp _ _ ⟨.inr rfl,[.ref H2.length 0 0 (some 0) 3,h0 0],rfl,_,MJ (rf (TL (S:=[]) (by simp) (IH _ _) rfl) (rf (yW rfl) Ix)),rfl⟩
theorem Xr {p:qc} {order:List Int} {v:List qm×Int} (h:Lj p order=some v):qt 22 [.agg [.av (p.1.flatMap p7) p.1.length .shared,h0 p.2.1,h0 p.2.2],.av (order.map h0) order.length .shared] (.tuple [.av (v.1.flatMap ql) v.1.length .shared,h0 v.2]):=by
 unfold Lj at h;obtain ⟨⟨aS,bj⟩,ai,h⟩:=p8 h;refine qD eG abQ rfl (IL (p4 (Hu (fun _=>p4 rfl (p4 rfl (p4 rfl rfl))) _ _ _) (p4 rfl rfl))) fun Q bp=>?_;have jJ:∀ T H,HQ [.tmp 4,.tmp 5] (.tuple [.av (v.1.flatMap ql) v.1.length .shared,h0 v.2]) .ret T H→Q .ret T H:=fun T H bE=>bp _ T H bE;unfold VU VW VV;obtain ⟨bt,eS⟩:∃ c,Rf=c:=⟨_,rfl⟩;rw [eS];conv=>whnf
 refine ⟨rfl,?_⟩;conv=>whnf
 rcases aS with _ | b
 ·refine ⟨_,_,ZE ai,?_⟩;conv=>whnf
  refine bs h (fun af h=>?_) fun af h=>?_
  ·rw [af];(conv=>whnf);obtain rfl:=Option.some.inj h;exact jJ _ _ (Ib rfl rfl)
  ·cases h
 ·obtain ⟨rfl,rfl,_⟩:=NQ ai;refine ⟨_,_,ZG ai,?_⟩;obtain ⟨l1,ab,h⟩:=p8 h;obtain ⟨l2,ae,h⟩:=p8 h;obtain ⟨aI,h⟩:=Hj h;obtain rfl:=Option.some.inj h;obtain ⟨H1,aJ,Da,f1,e1,s1⟩:=XJ ab (m:=0) (lo:=0) (sb 0) (aak (p,()));obtain ⟨H2,aN,pO,f2,b',s2⟩:=XJ ae (m:=0) (lo:=0) (sb 0) f1;have bn:=Z0 (l1:=l1) (l2:=l2) (H:=H2) (lo:=0) (by omega);subst eS;unfold Rf;by_cases he:(l1++l2).length≠0
  ·rcases Da with rfl | rfl | rfl <;> rcases pO with rfl | rfl | rfl
   all_goals
    obtain ⟨a9,ca⟩:∃ c,K9=c:=⟨_,rfl⟩;rw [ca];(conv=>whnf);refine ⟨_,_,ra s1,?_⟩;(conv=>whnf);refine ⟨_,_,ra s2,?_⟩;(conv=>whnf);refine ⟨_,_,ra bn,?_⟩;(conv=>whnf);refine .inl ⟨he,?_⟩;(conv=>whnf);subst ca;exact afa (H2:=H2) (L:=l1++l2) (by simp;omega) jJ
  ·(have ag6:l1.length+l2.length=0:=by simp at he;simp [he]);obtain rfl:=sO.1 (show l1.length=0 by omega);obtain rfl:=sO.1 (show l2.length=0 by omega);rcases Da with rfl | rfl | rfl <;> rcases pO with rfl | rfl | rfl
   all_goals
    obtain ⟨a9,ca⟩:∃ c,K9=c:=⟨_,rfl⟩;rw [ca];(conv=>whnf);refine ⟨_,_,ra s1,?_⟩;(conv=>whnf);refine ⟨_,_,ra s2,?_⟩;(conv=>whnf);refine ⟨_,_,ra bn,?_⟩;(conv=>whnf);refine .inr ⟨rfl,?_⟩;(conv=>whnf);subst ca;exact afb (H2:=H2) jJ
end Go.Proofs.Ytkoioidpbbbaiaa.Ab


namespace Go.Proofs.Ytkoioidpbbbaiaa.Ab
open Go
set_option maxRecDepth 20000
set_option maxHeartbeats 1000000
theorem TV (S:List qm) (j k:Nat) (c:qm) (aw:j<S.length):qJ (S.set j c) k=if k=j then c else qJ S k:=by
 unfold qJ ix;rw [tH,sv,tz,sv];by_cases e:j=k
 ·subst e;simp [aw]
 ·rw [if_neg e,if_neg (Ne.symm e)]
theorem aao {S:List qm} {j:Nat} (aw:j+1<S.length) (k:Nat):qJ (JV S j) k=if k=j then qJ S (j+1) else if k=j+1 then qJ S j else qJ S k:=by
 unfold JV;rw [TV _ _ _ _ (by simp;omega),TV _ _ _ _ aw]
theorem ae9 {S:List qm} {j:Nat} (aw:j+1<S.length):(JV S j).Perm S:=by
 have:=Sort.perm_set_set S (j+1) j aw (by omega);unfold JV;have e1:qJ S j=S[j]:=rK (by omega);have b':qJ S (j+1)=S[j+1]:=rK aw;rw [e1,b'];exact this
theorem Ul:∀ (j:Nat) (S:List qm),j<S.length→(∀ c∈S,0≤c.1∧c.1≤1000)→(∀ a b,a<b→b<j→(qJ S a).1≤(qJ S b).1) →
  (HY j S).Perm S∧(∀ k,j<k→qJ (HY j S) k=qJ S k)∧(∀ a b,a<b→b≤j→(qJ (HY j S) a).1≤(qJ (HY j S) b).1)∧∀ a,a≤j→∃ b,b≤j∧qJ (HY j S) a=qJ S b
 | 0,S,_,_,_=>⟨.refl _,fun _ _=>rfl,fun a b ab ae=>by omega,fun a cu=>⟨a,cu,rfl⟩⟩
 | j+1,S,aw,ak,ah=>by
   have hm:∀ k,k<S.length→0≤(qJ S k).1∧(qJ S k).1≤1000:=fun k al=>ak _ (J' (by omega));have da:=hm j (by omega);have db:=hm (j+1) aw;unfold HY M5;rw [qO (by omega)];by_cases aR:(qJ S (j+1)).1-(qJ S j).1<0
   ·rw [if_pos (decide_eq_true aR)];have aO:=aao aw;have aB:=ae9 aw
    obtain ⟨i1,i2,i3,i4⟩:=Ul j (JV S j) (by rw [WZ];omega) (fun c h=>ak c (aB.mem_iff.1 h)) (fun a b ab ae=>by
     rw [aO,aO,if_neg (by omega),if_neg (by omega),if_neg (by omega),if_neg (by omega)]
     exact ah a b ab (by omega))
    refine ⟨i1.trans aB,fun k al=>?_,fun a b ab ae=>?_,fun a cu=>?_⟩
    ·rw [i2 k (by omega),aO,if_neg (by omega),if_neg (by omega)]
    ·by_cases e:b=j+1
     ·subst e;rw [i2 (j+1) (by omega),aO (j+1),if_neg (by omega),if_pos rfl];obtain ⟨c,aF,ba⟩:=i4 a (by omega);rw [ba,aO c];by_cases b':c=j
      ·rw [if_pos b'];omega
      ·rw [if_neg b',if_neg (by omega)];exact ah c j (by omega) (by omega)
     ·exact i3 a b ab (by omega)
    ·by_cases e:a=j+1
     ·subst e;rw [i2 (j+1) (by omega),aO (j+1),if_neg (by omega),if_pos rfl];exact ⟨j,by omega,rfl⟩
     ·obtain ⟨c,aF,ba⟩:=i4 a (by omega);rw [ba,aO c];by_cases b':c=j
      ·rw [if_pos b'];exact ⟨j+1,by omega,rfl⟩
      ·rw [if_neg b',if_neg (by omega)];exact ⟨c,by omega,rfl⟩
   ·rw [if_neg (by simpa using aR)];refine ⟨.refl _,fun _ _=>rfl,fun a b ab ae=>?_,fun a cu=>⟨a,cu,rfl⟩⟩;by_cases e:b=j+1
    ·subst e;by_cases b':a=j
     ·subst b';omega
     ·have:=ah a j (by omega) (by omega);omega
    ·exact ah a b ab (by omega)
theorem Un:∀ (m i:Nat) (S:List qm),i+m=S.length→(∀ c∈S,0≤c.1∧c.1≤1000)→(∀ a b,a<b→b<i→(qJ S a).1≤(qJ S b).1) →
  (Iu m i S).Perm S∧∀ a b,a<b→b<S.length→(qJ (Iu m i S) a).1≤(qJ (Iu m i S) b).1
 | 0,i,S,h,_,ah=>⟨.refl _,fun a b ab ae=>ah a b ab (by omega)⟩
 | m+1,i,S,h,ak,ah=>by
   obtain ⟨i1,_,i3,_⟩:=Ul i S (by omega) ak ah;have ao:=i1.length_eq;obtain ⟨dD,dt⟩:=Un m (i+1) (HY i S) (by omega) (fun c h=>ak c (i1.mem_iff.1 h)) (fun a b ab ae=>i3 a b ab (by omega));unfold Iu;exact ⟨dD.trans i1,fun a b ab ae=>dt a b ab (by omega)⟩
theorem aeZ {S:List qm} (ak:∀ c∈S,0≤c.1∧c.1≤1000):(rQ S).Perm S∧(rQ S).Pairwise fun a b=>a.1≤b.1:=by
 unfold rQ;by_cases aQ:S.length=0
 ·obtain rfl:=sO.1 aQ;exact ⟨.refl _,.nil⟩
 ·obtain ⟨ab,ae⟩:=Un (S.length-1) 1 S (by omega) ak (fun a b ab ae=>by omega);refine ⟨ab,List.pairwise_iff_getElem.2 fun i j hi aw h_=>?_⟩;have:=ae i j h_ (by rw [←ab.length_eq];exact aw);have e1:∀ k (al:k<(Iu (S.length-1) 1 S).length),qJ (Iu (S.length-1) 1 S) k=(Iu (S.length-1) 1 S)[k]:=fun k al=>rK al;rw [e1 i hi,e1 j aw] at this;exact this
theorem Vi {n:Int}:∀ {l:List qm} {m:Int},l.Pairwise (fun a b=>a.1<b.1)→(∀ c∈l,m≤c.1∧c.1<n∧qH c.2)→Ht n l m
 | [],_,_,_=>trivial
 | c::r,m,aB,ak=>by
   obtain ⟨ab,ae⟩:=List.pairwise_cons.1 aB;have aF:=ak c (by simp)
   exact ⟨aF.1,aF.2.1,aF.2.2,Vi ae fun dU aX=>by
    have:=ab dU aX;have ba:=ak dU (by simp [aX])
    exact ⟨by omega,ba.2⟩⟩
theorem Vh {n:Int}:∀ {l:List qm} {m:Int},Ht n l m→∀ c∈l,m≤c.1
 | [],_,_,c,ak=>absurd ak (by simp)
 | c::r,m,h,dU,ak=>by
   rcases sx.1 ak with rfl | aX
   ·exact h.1
   ·have:=Vh h.2.2.2 dU aX;have:=h.1;omega
theorem Uq {α:Type} [Inhabited α] {S:List α} {j k:Int} {c:α} (aw:0≤j∧j<(S.length:Int)) (al:0≤k):ix (S.set j.toNat c) k=if k=j then c else ix S k:=by
 unfold ix;rw [sv,tz,sv];by_cases e:k=j
 ·subst e;rw [if_pos rfl,if_pos rfl,if_pos (by omega)];rfl
 ·rw [if_neg (by omega),if_neg e]
theorem RN {n:Int}:∀ {l:List qm} {S:List qw} {m:Int},Ht n l m→0≤m→(S.length:Int)=n→∀ {j:Int},0≤j→(∀ c∈l,c.1≠j)→ix (rM l S) j=ix S j
 | [],_,_,_,_,_,_,_,_=>rfl
 | c::r,S,m,h,hm,cp,j,aw,ak=>by
   have ab:=h.1;have ae:=h.2.1;unfold rM;rw [RN h.2.2.2 (by omega) (by simpa using cp) aw fun dU aX=>ak dU (by simp [aX]),Uq (by omega) aw,if_neg fun e=>ak c (by simp) e.symm]
theorem WG {n:Int}:∀ {l:List qm} {S:List qw} {m:Int},Ht n l m→0≤m→(S.length:Int)=n→∀ {c:qm},c∈l→ix (rM l S) c.1=c.2
 | [],_,_,_,_,_,_,ak=>absurd ak (by simp)
 | c::r,S,m,h,hm,cp,dU,ak=>by
   have ab:=h.1;have ae:=h.2.1;unfold rM;rcases sx.1 ak with rfl | aX
   ·rw [RN h.2.2.2 (by omega) (by simpa using cp) (by omega) fun a9 ae=>by have:=Vh h.2.2.2 a9 ae;omega,Uq (by omega) (by omega),if_pos rfl]
   ·exact WG h.2.2.2 (by omega) (by simpa using cp) aX
section
variable {p:qc} {o:List Int}
def II (n a:Nat):Nat→List Int
 | 0=>[]
 | i+1=>if i % 2=a∧0<qz n i then II n a i++[(i:Int)] else II n a i
theorem P_ (h:rv p) (k:qx p.1.length o) {a:Nat}:∀ (m i:Nat),i≤o.length→o.length-i=m→(∀ j,j<i→j % 2=a→¬ JH p o a j) →
  (∃ (j:Nat) (s:qw),I7 (p,()) o (a:Int) ((qi o.length).drop i) i (II o.length a i)=some (j+1,.inl [(ix o (j:Int),s)])∧j<o.length∧j % 2=a∧qH s∧I0 p o a j s) ∨
  (I7 (p,()) o (a:Int) ((qi o.length).drop i) i (II o.length a i)=some (o.length,.inr (II o.length a o.length))∧∀ j,j<o.length→j % 2=a→¬ JH p o a j)
 | 0,i,hi,hm,ft=>by
   (obtain rfl:i=o.length:=by omega);refine .inr ⟨?_,ft⟩;rw [uW (by rw [NC];omega)];rfl
 | m+1,i,hi,hm,ft=>by
   (have aR:i<o.length:=by omega);have e1:(qi o.length).drop i=(i:Int)::(qi o.length).drop (i+1):=by
    rw [s7 (by rw [NC];omega)];congr 1;rw [←rK,QQ aR]
   rw [e1,I7,NA];by_cases a_:i % 2=a
   ·rw [if_neg (by omega)];rcases XL h k (a:=a) aR with ⟨s,ab,ae,aF⟩ | ⟨ab,ae⟩
    ·refine .inl ⟨i,s,?_,aR,a_,ae,aF⟩;rw [ab,sa,if_pos rfl]
    ·rw [ab,sa,if_neg (by decide),Pr (b:=(p,())) (qx.len h k) k.1.symm aR,sa];have b':(if 0<qz o.length i then II o.length a i++[(i:Int)] else II o.length a i)=II o.length a (i+1):=by
      rw [II];by_cases aB:0<qz o.length i
      ·rw [if_pos aB,if_pos ⟨a_,aB⟩]
      ·rw [if_neg aB,if_neg fun k=>aB k.2]
     rw [b'];refine P_ h k m (i+1) (by omega) (by omega) fun j aw Ot=>?_;by_cases e:j=i
     ·subst e;exact ae
     ·exact ft j (by omega) Ot
   ·rw [if_pos (by omega)];(have b':II o.length a (i+1)=II o.length a i:=by rw [II,if_neg fun k=>a_ k.1]);rw [←b'];refine P_ h k m (i+1) (by omega) (by omega) fun j aw Ot=>?_;by_cases e:j=i
    ·subst e;exact absurd Ot a_
    ·exact ft j (by omega) Ot
structure Yx (p:qc) (o:List Int) (a:Nat) (l:List qm):Prop where
 len:l.length=IZ p o a
 own:∀ c∈l,qH c.2∧∃ i:Nat,i<o.length∧i % 2=a∧c.1=ix o (i:Int)
 Vc:(l.map (·.1)).Nodup
 flat:∀ S':List qw,(∀ i:Nat,i<o.length→i % 2=a→(∀ c∈l,c.1=ix o (i:Int)→qA S' o i=c.2)∧((∀ c∈l,c.1≠ix o (i:Int))→qA S' o i=qA p.1 o i))→∀ d,d=p.2.1∨d=p.2.2→rH S' o a (qZ d)=0
theorem K5 {o:List Int} (h:o.Nodup) {i j:Nat} (hi:i<o.length) (aw:j<o.length) (e:ix o (i:Int)=ix o (j:Int)):i=j:=by
 rw [rK hi,rK aw] at e;exact (List.getElem_inj h).1 e
theorem ac6 (S:List qw) (o:List Int) {a i:Nat} (f:qw→Int) (hi:i<o.length) (cu:i % 2=a):rH S o a f=qB S o a [(i:Int)] f+qz o.length i*f (qA S o i):=by
 unfold rH qB;have key:∀ m,qP m (fun j=>if j % 2=a then qz o.length j*f (qA S o j) else 0)=qP m (fun j=>if j % 2=a∧(j:Int) ∉ [(i:Int)] then qz o.length j*f (qA S o j) else 0)+if i<m then qz o.length i*f (qA S o i) else 0:=by
  intro m
  induction m with
  | zero=>simp [qP]
  | succ m a8 =>
    simp only [qP];rw [a8];by_cases e:m=i
    ·subst e;rw [if_neg (show ¬ m<m by omega),if_pos cu,if_neg (by simp),if_pos (show m<m+1 by omega)]
    ·have dA:(m % 2=a∧(m:Int) ∉ [(i:Int)])↔m % 2=a:=⟨fun h=>h.1,fun h=>⟨h,by simp;omega⟩⟩;(have l0:i<m+1↔i<m:=by omega);simp only [dA,l0];omega
 rw [key,if_pos hi]
theorem ac2 {S S':List qw} {o:List Int} {a i:Nat} {f:qw→Int} (h:∀ j,j<o.length→j % 2=a→j≠i→qA S' o j=qA S o j):qB S' o a [(i:Int)] f=qB S o a [(i:Int)] f:=by
 unfold qB;refine Nz fun j aw=>?_;by_cases a_:j % 2=a∧(j:Int) ∉ [(i:Int)]
 ·rw [if_pos a_,if_pos a_,h j aw a_.1 fun e=>a_.2 (by rw [e];simp)]
 ·rw [if_neg a_,if_neg a_]
theorem ac4 {S S':List qw} {o:List Int} {a:Nat} {f:qw→Int} (h:∀ j,j<o.length→j % 2=a→qA S' o j=qA S o j):rH S' o a f=rH S o a f:=by
 unfold rH;refine Nz fun j aw=>?_;by_cases a_:j % 2=a
 ·rw [if_pos a_,if_pos a_,h j aw a_]
 ·rw [if_neg a_,if_neg a_]
theorem ac1 {S:List qw} {o:List Int} {f:qw→Int} (aI:o.length=7):rH S o 0 f=-3*f (qA S o 0)-f (qA S o 2)+f (qA S o 4)+3*f (qA S o 6):=by
 unfold rH;rw [aI];simp [qP,qz];omega
theorem U9 {S:List qw} {o:List Int} {f:qw→Int} (aI:o.length=3):rH S o 1 f=0:=by
 unfold rH;rw [aI];simp [qP,qz]
theorem U7 {S:List qw} {o:List Int} {a i:Nat} {f:qw→Int} (h:(o.length=3∧a=0∧i=2)∨(o.length=5∧a=0∧i=4)∨(o.length=5∧a=1∧i=3)∨(o.length=7∧a=1∧i=5)) :
  qB S o a [(i:Int)] f+qz o.length i*f (qA S o (o.length-1-i))=0:=by
 rcases h with ⟨aI,rfl,rfl⟩ | ⟨aI,rfl,rfl⟩ | ⟨aI,rfl,rfl⟩ | ⟨aI,rfl,rfl⟩
 ·unfold qB;rw [aI];simp [qP,qz];try omega
 ·unfold qB;rw [aI];simp [qP,qz];try omega
 ·unfold qB;rw [aI];simp [qP,qz];try omega
 ·unfold qB;rw [aI];simp [qP,qz];try omega
theorem acY (h:rv p) (k:qx p.1.length o) {a i:Nat} (hi:(o.length=3∧a=0∧i=2)∨(o.length=5∧a=0∧i=4)∨(o.length=5∧a=1∧i=3)∨(o.length=7∧a=1∧i=5)):i<o.length∧i % 2=a∧JH p o a i :=
 ⟨by omega,by omega,N_.2 ⟨_,IM h.s (HD k) (i:=o.length-1-i) (by omega),U7 hi,U7 hi⟩⟩
theorem XI (h:rv p) (k:qx p.1.length o) {a:Nat} (cu:a<2):∃ l,Kt (p,()) o (a:Int)=some l∧Yx p o a l:=by
 have aa1:=qx.UK h k;have aI:=h.n;rw [←k.1] at aI;unfold Kt;rw [qS (by omega),XM h k,sa];by_cases aP:Ig p o a
 ·rw [if_pos (decide_eq_true aP)];refine ⟨[],rfl,⟨by unfold IZ;rw [if_pos aP];rfl,fun c ak=>absurd ak (by simp),by simp,fun S' pk d a1=>?_⟩⟩;rw [ac4 fun j aw a_=>(pk j aw a_).2 (by simp)];rcases a1 with rfl | rfl
  ·exact aP.1
  ·exact aP.2
 ·rw [if_neg (by simpa using aP)];rcases P_ h k (a:=a) o.length 0 (by omega) rfl (fun j aw=>absurd aw (by omega)) with ⟨i,s,ab,ae,aF,ba,bP⟩ | ⟨ab,ae⟩
  ·have iR:I7 (p,()) o (a:Int) (qi o.length) 0 []=_:=ab;rw [iR,sa];refine ⟨_,rfl,⟨?_,?_,by simp,?_⟩⟩
   ·unfold IZ;rw [if_neg aP,if_pos ⟨i,ae,aF,N_.2 ⟨s,ba,bP⟩⟩];rfl
   ·intro c ak;obtain rfl:=sQ.1 ak;exact ⟨ba,i,ae,aF,rfl⟩
   ·intro S' pk d a1
    rw [ac6 S' o _ ae aF,(pk i ae aF).1 (ix o (i:Int),s) (by simp) rfl,ac2 fun j aw a_ bJ=>(pk j aw a_).2 fun c ak=>by
     obtain rfl:=sQ.1 ak
     exact fun e=>bJ (K5 k.2.1 ae aw e).symm]
    rcases a1 with rfl | rfl
    ·exact bP.1
    ·exact bP.2
  ·have iR:I7 (p,()) o (a:Int) (qi o.length) 0 []=_:=ab;rw [iR,sa];simp only;have cO:o.length=7∧a=0:=by
    by_cases e:o.length=7∧a=0
    ·exact e
    ·exfalso;have ft:∀ i,¬ ((o.length=3∧a=0∧i=2)∨(o.length=5∧a=0∧i=4)∨(o.length=5∧a=1∧i=3)∨(o.length=7∧a=1∧i=5)):=fun i hi=>by
      obtain ⟨aJ,aN,cb⟩:=acY h k hi;exact ae i aJ aN cb
     rcases (show a=0∨a=1 by omega) with rfl | rfl <;> rcases aI with aI | aI | aI
     ·exact ft 2 (.inl ⟨aI,rfl,rfl⟩)
     ·exact ft 4 (.inr (.inl ⟨aI,rfl,rfl⟩))
     ·exact e ⟨aI,rfl⟩
     ·exact aP ⟨U9 aI,U9 aI⟩
     ·exact ft 3 (.inr (.inr (.inl ⟨aI,rfl,rfl⟩)))
     ·exact ft 5 (.inr (.inr (.inr ⟨aI,rfl,rfl⟩)))
   obtain ⟨cO,rfl⟩:=cO;have jJ:=HD k;(have ad:II o.length 0 o.length=[4,6]:=by rw [cO];decide);(have ag_:p.1.length=7:=by rw [←k.1];exact cO);have w5:I2 (p,()) o [4,6] []=some [(ix o ((4:Nat):Int),qA p.1 o 2),(ix o ((6:Nat):Int),qA p.1 o 0)]:=by
    have hT:=jJ 0 (by omega);have bj:=jJ 2 (by omega);(have afo:w (w (((7:Nat):Int)-1)-4)=((2:Nat):Int):=by rw [qO (n:=((7:Nat):Int)-1) (by omega),qO (by omega)];omega);(have w0:w (w (((7:Nat):Int)-1)-6)=((0:Nat):Int):=by rw [qO (n:=((7:Nat):Int)-1) (by omega),qO (by omega)];omega);have s1:∀ out,I2 (p,()) o [4,6] out=I2 (p,()) o [6] (out++[(ix o ((4:Nat):Int),qA p.1 o 2)]):=fun out=>by
     rw [I2,cO,qS (by omega),afo,qS (by omega),qS bj];rfl
    have s2:∀ out,I2 (p,()) o [6] out=some (out++[(ix o ((6:Nat):Int),qA p.1 o 0)]):=fun out=>by
     rw [I2.eq_2,cO,qS (by omega),w0,qS (by omega),qS hT];rfl
    rw [s1,s2];rfl
   rw [ad,w5];have aa6:ix o ((4:Nat):Int)≠ix o ((6:Nat):Int):=fun e=>absurd (K5 k.2.1 (by omega) (by omega) e) (by decide);refine ⟨_,rfl,⟨?_,?_,?_,?_⟩⟩
   ·unfold IZ;rw [if_neg aP,if_neg (by rintro ⟨i,aJ,aN,cb⟩;exact ae i aJ aN cb)];rfl
   ·intro c ak;rcases sx.1 ak with rfl | ak
    ·exact ⟨IM h.s jJ (by omega),4,by omega,rfl,rfl⟩
    ·obtain rfl:=sQ.1 ak;exact ⟨IM h.s jJ (by omega),6,by omega,rfl,rfl⟩
   ·simp only [sD,uw,List.nodup_cons,sQ,tM,not_false_eq_true,List.nodup_nil,and_true];exact aa6
   ·intro S' pk d _;rw [ac1 cO];rw [(pk 4 (by omega) rfl).1 (ix o ((4:Nat):Int),qA p.1 o 2) (by simp) rfl,(pk 6 (by omega) rfl).1 (ix o ((6:Nat):Int),qA p.1 o 0) (by simp) rfl];have ft:∀ j:Nat,j<7→j≠4→j≠6→∀ c∈[(ix o ((4:Nat):Int),qA p.1 o 2),(ix o ((6:Nat):Int),qA p.1 o 0)],c.1≠ix o (j:Int):=by
     intro j aw ba bQ c ak e;rcases sx.1 ak with rfl | ak
     ·exact ba (K5 k.2.1 (by omega) (by omega) e).symm
     ·obtain rfl:=sQ.1 ak;exact bQ (K5 k.2.1 (by omega) (by omega) e).symm
    rw [(pk 0 (by omega) rfl).2 (ft 0 (by omega) (by omega) (by omega)),(pk 2 (by omega) rfl).2 (ft 2 (by omega) (by omega) (by omega))];simp only;omega
theorem Z7 {q:qc} {o:List Int}:q5 q o=0↔Ig q o 0∧Ig q o 1:=by
 unfold q5 IF Ig;generalize q_ q o 0 q.2.1=a;generalize q_ q o 0 q.2.2=b;generalize q_ q o 1 q.2.1=c;generalize q_ q o 1 q.2.2=d;omega
theorem Ph (aB:p.1.length≤1000) (ao:o.length≤12):∃ l,Lj p o=some (if ru p o=0 then (l,0) else ([],ru p o))∧(ru p o=0→l.length=IZ p o 0+IZ p o 1∧Ht p.1.length l 0∧q5 (rM l p.1,p.2) o=0):=by
 unfold Lj;rw [Pl aB ao,sa];by_cases rL:ru p o=0
 ·rw [if_pos rL];obtain ⟨h,k⟩:=Kd.1 rL;obtain ⟨cy,gb,g9⟩:=XI h k (a:=0) (by omega);obtain ⟨l1,e1,a7⟩:=XI h k (a:=1) (by omega);have P':Kt (p,()) o 0=some cy:=gb;have Qa:Kt (p,()) o 1=some l1:=e1;have de:=TA p o 0;have bm:=TA p o 1;have ahc:=g9.len;have b7:=a7.len;have JN:=h.len;simp only;rw [P',sa,Qa,sa,qS (by omega)];refine ⟨rQ (cy++l1),by rw [if_pos rL],fun _=>?_⟩;have nR:∀ c∈cy++l1,qH c.2∧0≤c.1∧c.1<(p.1.length:Int):=by
   intro c ak;rcases tc.1 ak with ak | ak
   ·obtain ⟨aJ,i,aN,_,hq⟩:=g9.own c ak;rw [hq];exact ⟨aJ,HD k i aN⟩
   ·obtain ⟨aJ,i,aN,_,hq⟩:=a7.own c ak;rw [hq];exact ⟨aJ,HD k i aN⟩
  obtain ⟨s1,s2⟩:=aeZ (S:=cy++l1) fun c ak=>by have:=nR c ak;omega
  have aaQ:∀ c∈cy,∀ dU∈l1,c.1≠dU.1:=by
   intro c ak dU JM e;obtain ⟨_,i,aN,cb,hq⟩:=g9.own c ak;obtain ⟨_,j,db,j4,k5⟩:=a7.own dU JM;have:=K5 k.2.1 aN db (by rw [←hq,←k5];exact e);omega
  have jV:((rQ (cy++l1)).map (·.1)).Nodup:=by
   refine ((s1.map (·.1)).nodup_iff).2 ?_;rw [sT,List.nodup_append];refine ⟨g9.Vc,a7.Vc,fun x aj y aY e=>?_⟩;obtain ⟨c,ak,rfl⟩:=sA.1 aj;obtain ⟨dU,JM,rfl⟩:=sA.1 aY;exact aaQ c ak dU JM e
  have QM:Ht p.1.length (rQ (cy++l1)) 0:=by
   (refine Vi ?_ fun c ak=>by have:=nR c (s1.mem_iff.1 ak);exact ⟨this.2.1,this.2.2,this.1⟩);have aa5:=List.pairwise_map.1 jV;exact (s2.and aa5).imp fun h=>by omega
  refine ⟨by rw [WO,sB];omega,QM,?_⟩;rw [Z7];have w5:∀ i:Nat,i<o.length→(∀ c∈rQ (cy++l1),c.1≠ix o (i:Int))→qA (rM (rQ (cy++l1)) p.1) o i=qA p.1 o i:=fun i hi ak =>
   RN QM (sS _) rfl (HD k i hi).1 ak
  have hg:∀ i:Nat,∀ c∈rQ (cy++l1),c.1=ix o (i:Int)→qA (rM (rQ (cy++l1)) p.1) o i=c.2:=fun i c ak e=>by
   have:=WG QM (sS _) (S:=p.1) rfl ak;rw [e] at this;exact this
  have f0:=g9.flat (rM (rQ (cy++l1)) p.1) fun i hi a_=>⟨fun c ak=>hg i c (s1.mem_iff.2 (tc.2 (.inl ak))),fun ft=>w5 i hi fun c ak=>by
   rcases tc.1 (s1.mem_iff.1 ak) with ak | ak
   ·exact ft c ak
   ·obtain ⟨_,j,db,j4,k5⟩:=a7.own c ak;intro e;have:=K5 k.2.1 db hi (by rw [←k5];exact e)
    omega⟩
  have f1:=a7.flat (rM (rQ (cy++l1)) p.1) fun i hi a_=>⟨fun c ak=>hg i c (s1.mem_iff.2 (tc.2 (.inr ak))),fun ft=>w5 i hi fun c ak=>by
   rcases tc.1 (s1.mem_iff.1 ak) with ak | ak
   ·obtain ⟨_,j,db,j4,k5⟩:=g9.own c ak;intro e;have:=K5 k.2.1 db hi (by rw [←k5];exact e);omega
   ·exact ft c ak⟩
  exact ⟨⟨f0 _ (.inl rfl),f0 _ (.inr rfl)⟩,f1 _ (.inl rfl),f1 _ (.inr rfl)⟩
 ·rw [if_neg rL];simp only;rw [if_pos (by simpa using rL)];exact ⟨[],by rw [if_neg rL],fun h=>absurd h rL⟩
end
end Go.Proofs.Ytkoioidpbbbaiaa.Ab


namespace Go.Proofs.Ytkoioidpbbbaiaa.Ab
open Go
set_option maxRecDepth 20000
set_option maxHeartbeats 4000000

end Go.Proofs.Ytkoioidpbbbaiaa.Ab


namespace Go.Proofs.Ytkoioidpbbbaiaa.Ab
open Go
set_option maxRecDepth 20000
set_option maxHeartbeats 1000000
theorem aff (n:Nat):(qi n).length=n:=by simp [qi]
section
variable {o:List Int}
end
end Go.Proofs.Ytkoioidpbbbaiaa.Ab


namespace Go.Proofs.Ytkoioidpbbbaiaa.Ab
open Go
set_option maxRecDepth 20000
set_option maxHeartbeats 4000000
noncomputable def Wo:gE :=
 .ov false [p0 7 [.jq 18] .mU]
theorem ab4:ey Try.prog Ju (q6 Try.prog 20 0) 0=some Wo:=by kernel_rfl
noncomputable def Ws:gE :=
 .block 1 (.seq (.ov false [p0 19 [.Bs 4] (.zE .one),p0 20 [.jq 7] .mU,p0 21 [.cv (.func 41 [] []),.nc 19,.nc 20] (.call 3),p0 22 [.Bs 21,.cv (.int .i64 0)] (.bin .eql)]) (.cond (.nc 22) (.ov false [p0 23 [.nc 6] (.zE .one),p0 24 [.Bs 23,.cv (.int .i64 1)] (.bin .add),⟨none,[.jq 6,.jq 24],none,none,.st 1⟩]) .skip))
theorem ab8:ey Try.prog Ju (q7 Try.prog 20 0) 0=some Ws:=by kernel_rfl
def JI (b:qc×Unit) (s:Int) (o:List Int):Option Int:=(JY b o).bind fun c=>some (if decide (c=0)=true then w (s+1) else s)
def JB (p:qc):Option (Int×Int) :=
 (rz p []).bind fun r=>match r with
 | (none,q)=>if decide (q≠0)=true then some (0,q) else none
 | (some b,q)=>if decide (q≠0)=true then some (0,q) else
   qI (0<b.1.1.length∧b.1.1.length≤7) <|
   (Ii (JI b) (qV b.1.1.length (qi b.1.1.length)) 0).bind fun n=>some (n,0)
theorem aeD {b:qc×Unit} {o:List Int} {g9:ar} {s t:Int} (ah:JI b s o=some t) {yh fA gv Gi rI HI u8 HJ HF HG HH Mh Mi Mj u16 Mk Ml Mm Mn Mo Mp IQ Mq Mr:I} (he:o≠[]) (Y:List ar) :
  ∃ Z,Sem Try.prog (.yield [g9,ar.cells [lp b],ar.cells [h0 s]].length) [rX o] (([g9,ar.cells [lp b],ar.cells [h0 s]]++[ar.loop .ready none 20 [yh,fA,gv,Gi,.ptr 1 0,rI,.ptr 2 0,HI,u8,HJ,HF,HG,HH,Mh,Mi,Mj,u16,Mk,Ml,Mm,Mn,Mo,Mp,IQ,Mq,Mr] [18] (q6 Try.prog 20 0) (q7 Try.prog 20 0) Ju])++Y) 0 (.bool true) (([g9,ar.cells [lp b],ar.cells [h0 t]]++[ar.loop .ready none 20 [yh,fA,gv,Gi,.ptr 1 0,rI,.ptr 2 0,HI,u8,HJ,HF,HG,HH,Mh,Mi,Mj,u16,Mk,Ml,Mm,Mn,Mo,Mp,IQ,Mq,Mr] [18] (q6 Try.prog 20 0) (q7 Try.prog 20 0) Ju])++(Y++Z)):=by
 refine ⟨[],?_⟩;rw [sM];obtain ⟨gb,e,rfl⟩:=List.exists_cons_of_ne_nil he;unfold JI at ah;obtain ⟨c,ak,ah⟩:=p8 ah;obtain rfl:=Option.some.inj ah;refine O2 eG ab4 ab8 (It _ _ _) rfl (Iw (by simp)) ?_;unfold Wo;conv=>whnf
 refine ⟨rfl,It _ _ _,?_⟩;rw [Jl];unfold Ws;conv=>whnf
 refine ⟨p4 (H0 b) (p4 (rE (fun _=>rfl) _ _ _) rfl),_,adv (NS ak),?_⟩;conv=>whnf
 cases a1:decide (c=0)
 ·conv=>whnf
  show _∧(([g9,ar.cells [lp b],ar.cells [h0 s]]++[ar.loop .busy none 20 [yh,fA,gv,Gi,.ptr 1 0,rI,.ptr 2 0,HI,u8,HJ,HF,HG,HH,Mh,Mi,Mj,u16,Mk,Ml,Mm,Mn,Mo,Mp,IQ,Mq,Mr] [18] (q6 Try.prog 20 0) (q7 Try.prog 20 0) Ju])++Y)[[g9,ar.cells [lp b],ar.cells [h0 s]].length]?=_∧lI ((([g9,ar.cells [lp b],ar.cells [h0 s]]++[ar.loop .busy none 20 [yh,fA,gv,Gi,.ptr 1 0,rI,.ptr 2 0,HI,u8,HJ,HF,HG,HH,Mh,Mi,Mj,u16,Mk,Ml,Mm,Mn,Mo,Mp,IQ,Mq,Mr] [18] (q6 Try.prog 20 0) (q7 Try.prog 20 0) Ju])++Y).set [g9,ar.cells [lp b],ar.cells [h0 s]].length _) _;exact ⟨rfl,It _ _ _,by rw [Jl];exact lI.refl _⟩
 ·conv=>whnf
  show _∧(([g9,ar.cells [lp b],ar.cells [h0 (w (s+1))]]++[ar.loop .busy none 20 [yh,fA,gv,Gi,.ptr 1 0,rI,.ptr 2 0,HI,u8,HJ,HF,HG,HH,Mh,Mi,Mj,u16,Mk,Ml,Mm,Mn,Mo,Mp,IQ,Mq,Mr] [18] (q6 Try.prog 20 0) (q7 Try.prog 20 0) Ju])++Y)[[g9,ar.cells [lp b],ar.cells [h0 (w (s+1))]].length]?=_∧lI ((([g9,ar.cells [lp b],ar.cells [h0 (w (s+1))]]++[ar.loop .busy none 20 [yh,fA,gv,Gi,.ptr 1 0,rI,.ptr 2 0,HI,u8,HJ,HF,HG,HH,Mh,Mi,Mj,u16,Mk,Ml,Mm,Mn,Mo,Mp,IQ,Mq,Mr] [18] (q6 Try.prog 20 0) (q7 Try.prog 20 0) Ju])++Y).set [g9,ar.cells [lp b],ar.cells [h0 (w (s+1))]].length _) _;exact ⟨rfl,It _ _ _,by rw [Jl];exact lI.refl _⟩
theorem RZ {p:qc} {v:Int×Int} (h:JB p=some v):qt 20 [.agg [.av (p.1.flatMap p7) p.1.length .shared,h0 p.2.1,h0 p.2.2]] (.tuple [h0 v.1,h0 v.2]):=by
 unfold JB at h;obtain ⟨⟨aS,bj⟩,ai,h⟩:=p8 h;refine qD eG abO rfl (IL (p4 rfl (p4 rfl rfl))) fun Q bp=>?_;have jJ:∀ T H,HQ [.tmp 2,.tmp 3] (.tuple [h0 v.1,h0 v.2]) .ret T H→Q .ret T H:=fun T H bE=>bp _ T H bE;unfold VL VN VM;obtain ⟨a7,cf⟩:∃ c,Q'=c:=⟨_,rfl⟩;rw [cf];conv=>whnf
 refine ⟨qd.pl,_,Mx ai,?_⟩;rcases aS with _ | b
 ·conv=>whnf
  refine bs h (fun af h=>?_) fun af h=>?_
  ·rw [af];(conv=>whnf);obtain rfl:=Option.some.inj h;exact jJ _ _ (Ib rfl rfl)
  ·cases h
 ·conv=>whnf
  refine bs h (fun af h=>?_) fun af h=>?_
  ·rw [af];(conv=>whnf);obtain rfl:=Option.some.inj h;exact jJ _ _ (Ib rfl rfl)
  ·rw [af];(conv=>whnf);subst cf;unfold Q';obtain ⟨⟨Di,LP⟩,h⟩:=Hj h;obtain ⟨n,ao,h⟩:=p8 h;obtain rfl:=Option.some.inj h;obtain ⟨F,MO,KG,bG⟩:=Oj ao;obtain ⟨a9,ca⟩:∃ c,gE.AM (.nc 17) [18] (q6 Try.prog 20 0) (q7 Try.prog 20 0)=c:=⟨_,rfl⟩;rw [ca];(conv=>whnf);refine ⟨p4 (H0 b) rfl,_,R3 (b:=b) (v:=()) rfl,?_⟩;(conv=>whnf);subst ca;have pw:[I.bS [lp b]].all (cr 7)=true:=p4 (Ia (p4 (H0 b) rfl)) rfl;refine Ww (f:=rX) (WB (b:=b) LP Di) (fun i=>[ar.cells [.av (p.1.flatMap p7) p.1.length .shared,h0 p.2.1,h0 p.2.2],ar.cells [lp b],ar.cells [h0 (F i)]]) (by exact rfl) (by rw [MO];exact rfl) (fun _=>rfl) ?_ (rl:=none) (by exact rfl) (Hn:=[ar.cells [.av (p.1.flatMap p7) p.1.length .shared,h0 p.2.1,h0 p.2.2],ar.cells [lp b],ar.cells [h0 n]]) (by rw [KG]) ?_
   ·intro i hi Y;exact aeD (bG i hi) (QT Di _ (tK hi)) Y
   ·intro qy;(conv=>whnf);exact jJ _ _ (Ib rfl rfl)

noncomputable def XX:gE :=
 p2 [p0 1 [.jq 0] .box,p' 2 0,p' 3 0] (p2 [p0 7 [.nc 1] (.zE (.str 3)),p0 8 [.cv (.func 33 [] []),.nc 7] (.call 3),p1 6 8,qo 9 6 0,p0 10 [.Bs 6] (.ext 1),p1 4 9,p1 5 10] (.seq (p2 [p3 11 5,qu 12 11 0 .neq] (.cond (.nc 12) (p2 [p1 13 5,p' 2 0,p1 3 13] .ret) .skip)) (p2 [p0 14 [.Bs 1] (.zE (.str 3)),p1 15 4,p0 16 [.cv (.func 14 [] []),.nc 14,.nc 15] (.call 3),qo 17 16 0,p0 18 [.Bs 16] (.ext 1),p1 2 17,p1 3 18] .ret)))
theorem ack:qj Try.prog SN 32=some (XX,19,[.tmp 2,.tmp 3]):=by kernel_rfl
def Km (p:(qg×(Int×Int))):Option (Int×Int) :=
 (JW p).bind fun aS =>
 if (decide (aS.2≠(0:Int)))=true then
  some ((0:Int),aS.2)
 else
  (Im p aS.1).bind fun bj =>
  some (bj.1,bj.2)
theorem Xq {p:(qg×(Int×Int))} {v:(Int×Int)} (h:Km p=some v):qt 32 [(.agg [(.av (p.1.flatMap p7) p.1.length .shared),(h0 p.2.1),(h0 p.2.2)])] (.tuple [(h0 v.1),(h0 v.2)]):=by
 refine qD eG ack rfl (IL (p4 rfl (p4 rfl rfl))) fun Q bp=>?_;have jJ:qC [.tmp 2,.tmp 3] Q (fun v=>(.tuple [(h0 v.1),(h0 v.2)])) v:=fun T H bE=>bp _ T H bE;unfold Km at h;unfold XX;conv=>whnf
 obtain ⟨aS,gM,h⟩:=p8 h;refine ⟨qd.pl,_,RX gM,?_⟩;conv=>whnf
 refine bs h (fun gN h=>?_) fun gN h=>?_
 ·rw [gN];conv=>whnf
  exact p9 h jJ rfl rfl
 ·rw [gN];conv=>whnf
  obtain ⟨bj,qp,h⟩:=p8 h;refine ⟨qd.pl,_,Mv qp,?_⟩;conv=>whnf
  exact p9 h jJ rfl rfl

end Go.Proofs.Ytkoioidpbbbaiaa.Ab


namespace Go.Proofs.Ytkoioidpbbbaiaa.Ab
open Go
set_option maxRecDepth 20000
set_option maxHeartbeats 4000000

end Go.Proofs.Ytkoioidpbbbaiaa.Ab


namespace Go.Proofs.Ytkoioidpbbbaiaa.Ab
open Go
set_option maxRecDepth 20000
set_option maxHeartbeats 1000000
def rk (p:qc):List (List Int):=qV p.1.length (qi p.1.length)
theorem LU {p:qc} {o:List Int}:o∈rk p↔qx p.1.length o:=adb.symm
theorem PR {p:qc} (h:rv p):(rk p).length≤100000:=UO h.len.2
theorem YG {p:qc}:(rk p)[0]?=some (qi p.1.length):=UN _ _ (aff _)
theorem all_cons {p:qc}:∃ r,rk p=qi p.1.length::r:=by
 have:=YG (p:=p);cases h:rk p with
 | nil=>rw [h] at this;cases this
 | cons a r=>rw [h] at this;exact ⟨r,by rw [Option.some.inj this]⟩
def HA (p:qc) (b o:List Int):List Int:=if q5 p o<q5 p b then o else b
def LG (p:qc):List Int:=((rk p).drop 1).foldl (HA p) (qi p.1.length)
def Qg (p:qc):Nat:=((rk p).filter fun o=>decide (q5 p o=0)).length
section
variable {p:qc}
theorem afd {α:Type} {l:List α} {j:Nat} (aw:j<l.length):l.take (j+1)=l.take j++[l[j]]:=uV aw
theorem Zu:(rk p).foldl (HA p) (qi p.1.length)=LG p:=by
 unfold LG;obtain ⟨r,ai⟩:=all_cons (p:=p);rw [ai];show List.foldl _ (HA p _ _) r=_;rw [show HA p (qi p.1.length) (qi p.1.length)=qi p.1.length by unfold HA;split <;> rfl];rfl
theorem W5 (n:Nat):qx n (qi n):=M_.2 (.refl _)
theorem af_ (h:rv p) {x y:List Int} (aj:qx p.1.length x) (aY:qx p.1.length y):Kq (p,()) x y=some (decide (q5 p x<q5 p y)):=by
 unfold Kq;rw [NR h aj,sa,NR h aY,sa]
theorem QR (h:rv p):∀ (m j:Nat) (b:List Int),1+j≤(rk p).length→(rk p).length-(1+j)<m→b=(((rk p).drop 1).take j).foldl (HA p) (qi p.1.length)→qx p.1.length b →
  Kp (rk p) (Kq (p,())) (fun z=>some z) m b (j:Int)=some (LG p)
 | 0,_,_,_,h,_,_=>absurd h (by omega)
 | m+1,j,b,aw,hm,af,bT=>by
   have aa3:=PR h;rw [Kp];have e1:((1:Int)).toNat=1:=rfl;rw [e1];(have el:((rk p).drop 1).length=(rk p).length-1:=by simp);by_cases aR:j<((rk p).drop 1).length
   ·rw [if_pos (decide_eq_true (by omega)),qS (by omega),rK aR];have kL:((rk p).drop 1)[j]∈rk p:=List.mem_of_mem_drop (tK aR);have al:=LU.1 kL;rw [af_ h al bT,sa,Jo j (by omega)];have bw:HA p b ((rk p).drop 1)[j]=(((rk p).drop 1).take (j+1)).foldl (HA p) (qi p.1.length):=by
     rw [afd aR,List.foldl_append,←af];rfl
    by_cases ak:q5 p ((rk p).drop 1)[j]<q5 p b
    ·rw [if_pos (decide_eq_true ak)];refine QR h m (j+1) _ (by omega) (by omega) ?_ al;rw [←bw];unfold HA;rw [if_pos ak]
    ·rw [if_neg (by simpa using ak)];refine QR h m (j+1) _ (by omega) (by omega) ?_ bT;rw [←bw];unfold HA;rw [if_neg ak]
   ·rw [if_neg (by simpa using by omega)];rw [tb (by omega)] at af;rw [af];rfl
theorem RW (aB:p.1.length≤1000):JW p=some (if ri p=0 then (LG p,0) else ([],ri p)):=by
 unfold JW;rw [R2 aB,sa];by_cases h:ri p=0
 ·rw [if_pos h,if_pos h];have ad:=LJ.1 h;have ao:=ad.len;simp only;rw [if_neg (by decide),qS (show 0<p.1.length∧p.1.length≤7 by omega)];show (NT (rk p) (Kq (p,()))).bind _=_;obtain ⟨r,ai⟩:=all_cons (p:=p);have aQ:0<(rk p).length:=by rw [ai];simp
  unfold NT;rw [qS (by omega),qS (by omega)];have gb:ix (rk p) (0:Int)=qi p.1.length:=by rw [ai];rfl
  rw [gb];have:=QR ad qn 0 (qi p.1.length) (by omega) (I8 (by have:=PR ad;omega)) rfl (W5 _);rw [show ((0:Nat):Int)=0 from rfl] at this;rw [this,sa]
 ·rw [if_neg h,if_neg h];simp only;rw [if_pos (decide_eq_true h)]
theorem ZV (q:List Int→Bool) (l:List (List Int)):(l.filter q).length≤l.length:=List.length_filter_le _ _
theorem TJ (h:rv p):∀ (l r:List (List Int)),rk p=r++l→Ii (JI (p,())) l ((r.filter fun o=>decide (q5 p o=0)).length:Int)=some ((Qg p:Int))
 | [],r,e=>by rw [sM] at e;subst e;rfl
 | o::l,r,e=>by
   have aa3:=PR h;have al:qx p.1.length o:=LU.1 (by rw [e];simp);(have hlen:r.length+(l.length+1)=(rk p).length:=by rw [e];simp);have jM:=ZV (fun o=>decide (q5 p o=0)) r;have a8:=TJ h l (r++[o]) (by rw [e];simp);rw [List.filter_append,sB] at a8;show (JI (p,()) _ o).bind (Ii (JI (p,())) l)=_;unfold JI;rw [NR h al,sa,sa];by_cases ak:q5 p o=0
   ·rw [if_pos (decide_eq_true ak),Jo _ (by omega)];rw [show ([o].filter fun o=>decide (q5 p o=0)).length=1 by simp [ak]] at a8;exact a8
   ·rw [if_neg (by simpa using ak)];rw [show ([o].filter fun o=>decide (q5 p o=0)).length=0 by simp [ak]] at a8;exact a8
theorem RY (aB:p.1.length≤1000):JB p=some (if ri p=0 then ((Qg p:Int),0) else (0,ri p)):=by
 unfold JB;rw [R2 aB,sa];by_cases h:ri p=0
 ·rw [if_pos h,if_pos h];have ad:=LJ.1 h;have ao:=ad.len;simp only;rw [if_neg (by decide),qS (show 0<p.1.length∧p.1.length≤7 by omega)];have:=TJ ad (rk p) [] rfl;show (Ii (JI (p,())) (rk p) 0).bind _=_;have this:Ii (JI (p,())) (rk p) 0=some ((Qg p:Int)):=this;rw [this,sa]
 ·rw [if_neg h,if_neg h];simp only;rw [if_pos (decide_eq_true h)]
theorem Zv (p:qc) (E:List (List Int)):∀ (b:List Int),(E.foldl (HA p) b=b∨E.foldl (HA p) b∈E)∧q5 p (E.foldl (HA p) b)≤q5 p b∧∀ o∈E,q5 p (E.foldl (HA p) b)≤q5 p o:=by
 induction E with
 | nil=>intro b;exact ⟨.inl rfl,sS _,by simp⟩
 | cons a E a8 =>
   intro b;obtain ⟨ab,ae,aF⟩:=a8 (HA p b a);have af:(HA p b a=b∨HA p b a=a)∧q5 p (HA p b a)≤q5 p b∧q5 p (HA p b a)≤q5 p a:=by
    unfold HA;split
    ·exact ⟨.inr rfl,by omega,by omega⟩
    ·exact ⟨.inl rfl,by omega,by omega⟩
   rw [List.foldl_cons];refine ⟨?_,by omega,fun o aq=>?_⟩
   ·rcases ab with ab | ab
    ·rcases af.1 with e | e
     ·left;rw [ab,e]
     ·right;rw [ab,e];simp
    ·right;simp [ab]
   ·rcases sx.1 aq with rfl | aq
    ·omega
    ·exact aF o aq
theorem Zw (p:qc):qx p.1.length (LG p):=by
 rw [←Zu];obtain ⟨ab,_,_⟩:=Zv p (rk p) (qi p.1.length);rcases ab with ab | ab
 ·rw [ab];exact W5 _
 ·exact LU.1 ab
theorem Xp (aB:p.1.length≤1000):Km p=some (if ri p=0 then (q5 p (LG p),0) else (0,ri p)):=by
 unfold Km;rw [RW aB,sa];by_cases h:ri p=0
 ·rw [if_pos h,if_pos h];have ad:=LJ.1 h;have af:=Zw p;simp only;rw [if_neg (by simp),Lk aB (by rw [af.1];have:=ad.len;omega),if_pos (Kd.2 ⟨ad,af⟩)];rfl
 ·rw [if_neg h,if_neg h];simp only;rw [if_pos (decide_eq_true h)]
end
end Go.Proofs.Ytkoioidpbbbaiaa.Ab
