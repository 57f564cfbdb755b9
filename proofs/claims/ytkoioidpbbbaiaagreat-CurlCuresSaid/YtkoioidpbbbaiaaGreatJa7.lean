
import Derived.Test.YtkoioidpbbbaiaaGreatJa5
import Derived.Test.YtkoioidpbbbaiaaGreatJa6
import Derived.KernelRfl
import Derived.Test.YtkoioidpbbbaiaaGreatProg
set_option linter.unusedSimpArgs false
set_option linter.unusedVariables false
set_option linter.unusedSectionVars false

open Bool renaming and_eq_true→su,and_self→uh,and_true→tx,eq_iff_iff→tA,or_eq_true→tC
open Int renaming add_zero→tJ,le_refl→sY,max_assoc→vO,mul_comm→uE,mul_le_mul_of_nonneg_right→vH,toNat_natCast→tD
open List renaming all_cons→tH,all_nil→uj,append_assoc→sC,drop_eq_getElem_cons→sV,drop_of_length_le→uR,drop_zero→tu,flatMap_append→uB,getElem?_append→sr,getElem?_append_left→sk,getElem?_eq_none→tO,getElem?_eq_some_iff→sd,getElem?_set_ne→sf,getElem?_set_self→sn,length_append→sD,length_eq_zero_iff→sT,length_set→ta,map_append→sR,map_cons→sI,mem_append→sU,mem_filter→tc,mem_map→sH,mem_map_of_mem→tn,mem_of_getElem?→sA,mem_singleton→sK,take_of_length_le→tb
open Nat renaming ble_eq_true_of_le→tw,le_refl→se,log2_two_pow→vQ,lt_succ_self→sg,pow_lt_pow_iff_right→uQ,testBit_two_pow→uA,zero_add→sG,zero_le→sE
open Option renaming bind_some→sc
namespace Go.Proofs.YtkoioidpbbbaiaaGreat.Ab
open Go
set_option maxRecDepth 20000
set_option maxHeartbeats 4000000
noncomputable def aaj:gB :=
 p5 [p3 2 [.jm 0] .box,qh 4 0,qh 5 0] (p5 [p3 9 [.Bs 2] (.zE (.str 3)),p6 10 1,p3 11 [.Bs 10] (.yB 1 1 [.av [] 0 .full] [0]),p3 12 [.cv (.func 40 [] []),.m_ 9,.m_ 11] (.call 3),p4 8 12,qR 13 8 0,p3 14 [.Bs 8] (.ext 1),p4 6 13,p4 7 14] (.seq (p5 [p6 15 7,qv 16 15 0 .neq] (.cond (.m_ 16) (p5 [p4 17 7,qh 4 0,p4 5 17] .ret) .skip)) (p5 [p4 18 6,p4 19 1,p3 20 [.cv (.func 41 [] []),.m_ 18,.m_ 19] (.call 3),p4 4 20,qh 5 0] .ret)))
theorem aeT:qu Tryz.prog Uj 29=some (aaj,21,[.tmp 4,.tmp 5]):=by qb
def Kk (p:(qk×(Int×Int))) (order:qa):Option (Int×Int) :=
 (rX p [order]).bind fun aS =>
 match aS with
 | (none,q1) =>
   if (decide (q1≠(0:Int)))=true then
    some ((0:Int),q1)
   else
    none
 | (some bT,q1) =>
   if (decide (q1≠(0:Int)))=true then
    some ((0:Int),q1)
   else
    (Kl (bT.1,()) order).bind fun bh =>
    some (bh,(0:Int))
theorem Tl {p:(qk×(Int×Int))} {order:qa} {v:(Int×Int)} (h:Kk p order=some v):qw 29 [(.agg [(.av (p.1.flatMap p_) p.1.length .shared),(hX p.2.1),(hX p.2.2)]),(.av (order.map hX) order.length .shared)] (.tuple [(hX v.1),(hX v.2)]):=by
 refine qO eD aeT rfl (Is (p7 rfl (p7 rfl rfl))) fun Q bo=>?_;have jG:qL [.tmp 4,.tmp 5] Q (fun v=>(.tuple [(hX v.1),(hX v.2)])) v:=fun T H bD=>bo _ T H bD;unfold Kk at h;unfold aaj;conv=>whnf
 obtain ⟨aS,gJ,h⟩:=p' h;rcases aS with ⟨_ | bT,q1⟩
 ·refine ⟨(p7 (H4 (p7 (HC (fun _=>(p7 rfl (p7 rfl rfl))) _ _ _) (p7 rfl (p7 rfl rfl)))) (p7 (Pf (p7 (rM (fun _=>rfl) _ _ _) rfl)) rfl)),_,MX gJ,?_⟩;conv=>whnf
  refine bs h (fun gK h=>?_) fun gK h=>?_
  ·rw [gK];(conv=>whnf);exact qe h jG rfl rfl
  ·rw [gK];(conv=>whnf);exact rA h
 ·refine ⟨(p7 (H4 (p7 (HC (fun _=>(p7 rfl (p7 rfl rfl))) _ _ _) (p7 rfl (p7 rfl rfl)))) (p7 (Pf (p7 (rM (fun _=>rfl) _ _ _) rfl)) rfl)),_,MX gJ,?_⟩;conv=>whnf
  refine bs h (fun qt h=>?_) fun qt h=>?_
  ·rw [qt];(conv=>whnf);exact qe h jG rfl rfl
  ·rw [qt];(conv=>whnf);obtain ⟨bh,qH,h⟩:=p' h;refine ⟨qj.pl,_,Oh qH,?_⟩;(conv=>whnf);exact qe h jG rfl rfl

noncomputable def aal:gB :=
 p5 [p3 3 [.jm 0] .box,qh 6 0,qh 7 0,qh 8 0] (p5 [p3 13 [.m_ 3] (.zE (.str 3)),p6 14 1,p3 15 [.Bs 14] (.yB 1 1 [.av [] 0 .full] [0]),p3 16 [.cv (.func 40 [] []),.m_ 13,.m_ 15] (.call 3),p4 12 16,qR 17 12 0,p3 18 [.Bs 12] (.ext 1),p4 9 17,p4 10 18] (.seq (.block 0 (p5 [p6 20 10,qv 21 20 0 .neq,p4 19 21] (.cond (.m_ 19) (p5 [p4 22 10,qh 6 0,qh 7 0,p4 8 22] .ret) (p5 [p3 24 [.m_ 3] (.yM 1),qK 25 24 0,qm 26 25,qK 27 3 1,qK 28 27 1,qm 29 28,p6 30 2,p3 31 [.Bs 30] (.yB 1 1 [.int .i64 0] [0]),p3 32 [.cv (.func 50 [] []),.m_ 26,.m_ 29,.m_ 31] (.call 3),p3 33 [.Bs 32] (.un .not),p4 23 33] (.cond (.m_ 23) (p5 [qh 6 0,qh 7 0,qh 8 3] .ret) .skip))))) (p5 [p4 34 9,p4 35 1,p4 36 2,p3 37 [.cv (.func 63 [] []),.m_ 34,.m_ 35,.m_ 36] (.call 3),p3 11 [] (.alloc [.int .i64 0,.int .i64 0]),⟨none,[.m_ 11,.jm 37],none,none,.st 2⟩] (.seq (ri [p3 38 [.m_ 11,.cv (.int .i64 0)] (.zu 2 1),qm 39 38,p3 40 [.m_ 11,.cv (.int .i64 1)] (.zu 2 1),qm 41 40,p4 6 39,p4 7 41,qh 8 0]) .ret))))
theorem aeV:qu Tryz.prog Ul 30=some (aal,42,[.tmp 6,.tmp 7,.tmp 8]):=by qb
def KS (p:(qk×(Int×Int))) (order:qa) (rF:Int):Option (Int×Int×Int) :=
 (rX p [order]).bind fun aS =>
 match aS with
 | (none,q1) =>
   if (decide (q1≠(0:Int)))=true then
    some ((0:Int),(0:Int),q1)
   else
    (IU p.2.1 p.2.2 [rF]).bind fun bh =>
    if bh=true then
     none
    else
     some ((0:Int),(0:Int),(3:Int))
 | (some bT,q1) =>
   if (decide (q1≠(0:Int)))=true then
    some ((0:Int),(0:Int),q1)
   else
    (IU p.2.1 p.2.2 [rF]).bind fun eH =>
    if eH=true then
     (LV (bT.1,()) order rF).bind fun qQ =>
     some (qQ.1,qQ.2,(0:Int))
    else
     some ((0:Int),(0:Int),(3:Int))
theorem ZF {p:(qk×(Int×Int))} {order:qa} {rF:Int} {v:(Int×Int×Int)} (h:KS p order rF=some v):qw 30 [(.agg [(.av (p.1.flatMap p_) p.1.length .shared),(hX p.2.1),(hX p.2.2)]),(.av (order.map hX) order.length .shared),(hX rF)] (.tuple [(hX v.1),(hX v.2.1),(hX v.2.2)]):=by
 refine qO eD aeV rfl (Is (p7 rfl (p7 rfl (p7 rfl rfl)))) fun Q bo=>?_;have jG:qL [.tmp 6,.tmp 7,.tmp 8] Q (fun v=>(.tuple [(hX v.1),(hX v.2.1),(hX v.2.2)])) v:=fun T H bD=>bo _ T H bD;unfold KS at h;unfold aal;conv=>whnf
 obtain ⟨aS,gJ,h⟩:=p' h;rcases aS with ⟨_ | bT,q1⟩
 ·refine ⟨(p7 (H4 (p7 (HC (fun _=>(p7 rfl (p7 rfl rfl))) _ _ _) (p7 rfl (p7 rfl rfl)))) (p7 (Pf (p7 (rM (fun _=>rfl) _ _ _) rfl)) rfl)),_,MX gJ,?_⟩;conv=>whnf
  refine bs h (fun gK h=>?_) fun gK h=>?_
  ·rw [gK];(conv=>whnf);exact qe h jG rfl rfl
  ·rw [gK];(conv=>whnf);obtain ⟨bh,qt,h⟩:=p' h;refine ⟨(p7 rfl (p7 rfl (p7 rfl rfl))),_,KX qt,?_⟩;(conv=>whnf);cases bh
   ·(conv=>whnf);replace h:=rq rfl h;exact qe h jG rfl rfl
   ·(conv=>whnf);replace h:=rp rfl h;exact rA h
 ·refine ⟨(p7 (H4 (p7 (HC (fun _=>(p7 rfl (p7 rfl rfl))) _ _ _) (p7 rfl (p7 rfl rfl)))) (p7 (Pf (p7 (rM (fun _=>rfl) _ _ _) rfl)) rfl)),_,MX gJ,?_⟩;conv=>whnf
  refine bs h (fun qH h=>?_) fun qH h=>?_
  ·rw [qH];(conv=>whnf);exact qe h jG rfl rfl
  ·rw [qH];(conv=>whnf);obtain ⟨eH,qX,h⟩:=p' h;refine ⟨(p7 rfl (p7 rfl (p7 rfl rfl))),_,KX qX,?_⟩;(conv=>whnf);cases eH
   ·(conv=>whnf);replace h:=rq rfl h;exact qe h jG rfl rfl
   ·(conv=>whnf);replace h:=rp rfl h;obtain ⟨qQ,q9,h⟩:=p' h;refine ⟨qj.pl,_,Tz q9,?_⟩;(conv=>whnf);refine ⟨by decide,?_⟩;(conv=>whnf);refine ⟨by decide,?_⟩;(conv=>whnf);exact qe h jG rfl rfl

noncomputable def Qf:gB :=
 .loop (some (qd false [1,2,2,2,29])) (.seq (p5 [p6 12 6,p3 13 [.m_ 2] (.yM 1),qK 14 13 1,qm 15 14,qq 16 12 15 .leq] (.cond (.m_ 16) .skip (.exit 0))) (.seq (.block 1 (.seq (ri [p3 19 [.m_ 2] (.zE (.str 3)),p6 20 1,p6 21 6,p3 22 [.cv (.func 65 [] []),.m_ 19,.m_ 20,.m_ 21,.cv (.int .i64 0)] (.call 3),p3 23 [.m_ 2] (.zE (.str 3)),p6 24 1,p6 25 6,p3 26 [.cv (.func 65 [] []),.m_ 23,.m_ 24,.m_ 25,.cv (.int .i64 1)] (.call 3),p4 7 22,p4 8 26]) (qF [p4 27 5,p6 28 7,p4 29 7,p3 30 [.Bs 29] (.un .neg),p6 31 8,p4 32 8,p3 33 [.Bs 32] (.un .neg),p3 34 [.jm 27,.jm 28,.jm 30,.jm 31,.jm 33] .max,p4 5 34]))) (qF [p4 17 6,qW 18 17 1,p4 6 18])))
noncomputable def aat:gB :=
 p5 [p3 2 [.jm 0] .box,qh 4 0] (p5 [qh 5 0] (.seq (p5 [p3 9 [.m_ 2] (.yM 1),qK 10 9 0,qm 11 10,p4 6 11] (.block 0 Qf)) (p5 [p4 35 5,p4 4 35] .ret)))
theorem ae3:qu Tryz.prog QN 39=some (aat,36,[.tmp 4]):=by qb
def LN (p:(qk×(Int×Int))) (order:qa) (qc:Int→Option Int):Nat→Int→Int→Option Int
 | 0,_,_=>none
 | m+1,s1,s2 =>
   if (decide (s2≤p.2.2))=true then
    (JN p order s2 (0:Int)).bind fun aS =>
    (JN p order s2 (1:Int)).bind fun bh =>
    LN p order qc m (max (max (max (max s1 aS) (w (-aS))) bh) (w (-bh))) (w (s2+(1:Int)))
   else
    qc s1
def LM (p:(qk×(Int×Int))) (order:qa):Option Int :=
 LN p order (fun yn =>
   some yn) qi (0:Int) p.2.1
theorem aiG {p:(qk×(Int×Int))} {order:qa} {qc:Int→Option Int} {s1:Int} {s2:Int} {v:Int} {Q:rS}   (ra:∀ (yn:Int) (bw:ar) (qf:List I),qc yn=some v→rm 36 [(5,(hX yn))] qf→Q (.exit 0) qf [bw]) {T:List I} (bZ:eW (qd false [1,2,2,2,29]) T=qg 36 [(1,(qz order .shared)),(2,(.ptr 0 0)),(5,(hX s1)),(6,(hX s2))]) (h:LN p order qc qi s1 s2=some v) :
  dN Tryz.prog QN 39 0 none Qf T [ar.cells [(qZ p.1 .shared),(hX p.2.1),(hX p.2.2)]] Q:=by
 unfold Qf;refine wp_loop bZ ?_;refine .intro (fun m T H=>∃ (s1 s2:Int),T=qg 36 [(1,(qz order .shared)),(2,(.ptr 0 0)),(5,(hX s1)),(6,(hX s2))]∧H=[ar.cells [(qZ p.1 .shared),(hX p.2.1),(hX p.2.2)]]∧LN p order qc m s1 s2=some v) qi ⟨s1,s2,rfl,rfl,h⟩ ?_;clear h bZ;rintro m T H ⟨s1,s2,rfl,rfl,h⟩;cases m
 ·exact rA h
 rename_i m;rw [LN.eq_2] at h;conv=>whnf
 refine bs h (fun gJ h=>?_) fun gJ h=>?_
 ·rw [gJ];conv=>whnf
  obtain ⟨aS,gK,h⟩:=p' h;refine ⟨qj.pl,_,M0 gK,rC,?_⟩;conv=>whnf
  obtain ⟨bh,qt,h⟩:=p' h;refine ⟨qj.pl,_,M0 qt,(K6 (fun _ e=>by simp at e) rC),?_⟩;conv=>whnf
  exact ⟨m,sg m,(max (max (max (max s1 aS) (w (-aS))) bh) (w (-bh))),(w (s2+(1:Int))),rfl,rfl,h⟩
 ·rw [gJ];conv=>whnf
  exact ra _ _ _ h ⟨rfl,rfl⟩
theorem ZH {p:(qk×(Int×Int))} {order:qa} {v:Int} (h:LM p order=some v):qw 39 [(.agg [(.av (p.1.flatMap p_) p.1.length .shared),(hX p.2.1),(hX p.2.2)]),(.av (order.map hX) order.length .shared)] (hX v):=by
 refine qO eD ae3 rfl rfl fun Q bo=>?_;have jG:qL [.tmp 4] Q (fun v=>(hX v)) v:=fun T H bD=>bo _ T H bD;unfold LM at h;unfold aat;obtain ⟨r_,qD⟩:∃ c,Qf=c:=⟨_,rfl⟩;rw [qD];conv=>whnf
 subst qD;refine aiG ?_ (by exact rfl) h;intro yn bw qf h qA;obtain ⟨rr,rfl⟩:=qA.ex;conv=>whnf
 exact qe h jG rfl rfl

noncomputable def aay:gB :=
 p5 [p3 2 [.jm 0] .box,qh 4 0] (.seq (ri [p3 9 [.m_ 2] (.zE (.str 3)),p6 10 1,p3 11 [.m_ 2] (.yM 1),qK 12 11 0,qm 13 12,p3 14 [.cv (.func 65 [] []),.m_ 9,.m_ 10,.m_ 13,.cv (.int .i64 0)] (.call 3),p3 15 [.m_ 2] (.zE (.str 3)),p6 16 1,p3 17 [.m_ 2] (.yM 1),qK 18 17 0,qm 19 18,p3 20 [.cv (.func 65 [] []),.m_ 15,.m_ 16,.m_ 19,.cv (.int .i64 1)] (.call 3),p4 5 14,p4 6 20]) (.seq (ri [p3 21 [.m_ 2] (.zE (.str 3)),p6 22 1,p3 23 [.m_ 2] (.yM 1),qK 24 23 1,qm 25 24,p3 26 [.cv (.func 65 [] []),.m_ 21,.m_ 22,.m_ 25,.cv (.int .i64 0)] (.call 3),p3 27 [.m_ 2] (.zE (.str 3)),p6 28 1,p3 29 [.m_ 2] (.yM 1),qK 30 29 1,qm 31 30,p3 32 [.cv (.func 65 [] []),.m_ 27,.m_ 28,.m_ 31,.cv (.int .i64 1)] (.call 3),p4 7 26,p4 8 32]) (p5 [p6 33 5,p4 34 5,p3 35 [.Bs 34] (.un .neg),p6 36 6,p4 37 6,p3 38 [.Bs 37] (.un .neg),p6 39 7,p4 40 7,p3 41 [.Bs 40] (.un .neg),p6 42 8,p4 43 8,p3 44 [.Bs 43] (.un .neg),p3 45 [.jm 33,.jm 35,.jm 36,.jm 38,.jm 39,.jm 41,.jm 42,.jm 44] .max,p4 4 45] .ret)))
theorem ae8:qu Tryz.prog Ux 47=some (aay,46,[.tmp 4]):=by qb
def LQ (p:(qk×(Int×Int))) (order:qa):Option Int :=
 (JN p order p.2.1 (0:Int)).bind fun aS =>
 (JN p order p.2.1 (1:Int)).bind fun bh =>
 (JN p order p.2.2 (0:Int)).bind fun eH =>
 (JN p order p.2.2 (1:Int)).bind fun qQ =>
 some (max (max (max (max (max (max (max aS (w (-aS))) bh) (w (-bh))) eH) (w (-eH))) qQ) (w (-qQ)))
theorem Tv {p:(qk×(Int×Int))} {order:qa} {v:Int} (h:LQ p order=some v):qw 47 [(.agg [(.av (p.1.flatMap p_) p.1.length .shared),(hX p.2.1),(hX p.2.2)]),(.av (order.map hX) order.length .shared)] (hX v):=by
 refine qO eD ae8 rfl rfl fun Q bo=>?_;have jG:qL [.tmp 4] Q (fun v=>(hX v)) v:=fun T H bD=>bo _ T H bD;unfold LQ at h;unfold aay;conv=>whnf
 obtain ⟨aS,gJ,h⟩:=p' h;refine ⟨qj.pl,_,M0 gJ,rC,?_⟩;conv=>whnf
 obtain ⟨bh,gK,h⟩:=p' h;refine ⟨qj.pl,_,M0 gK,(K6 (fun _ e=>by simp at e) rC),?_⟩;conv=>whnf
 obtain ⟨eH,qt,h⟩:=p' h;refine ⟨qj.pl,_,M0 qt,rC,?_⟩;conv=>whnf
 obtain ⟨qQ,qH,h⟩:=p' h;refine ⟨qj.pl,_,M0 qH,(K6 (fun _ e=>by simp at e) rC),?_⟩;conv=>whnf
 exact qe h jG rfl rfl
end Go.Proofs.YtkoioidpbbbaiaaGreat.Ab


namespace Go.Proofs.YtkoioidpbbbaiaaGreat.Ab
open Go
set_option maxRecDepth 20000
set_option maxHeartbeats 1000000
abbrev rv (p:qn) (o:List Int) (a:Nat) (d:Int):Int:=r2 p.1 o a (rf d)
def I0 (p:qn) (o:List Int) (d:Int):Int:=max (max (rv p o 0 d) (-(rv p o 0 d))) (max (rv p o 1 d) (-(rv p o 1 d)))
def q' (p:qn) (o:List Int):Int:=max (I0 p o p.2.1) (I0 p o p.2.2)
theorem acI (p:qn) (o:List Int) (d:Int):0≤I0 p o d:=by unfold I0;omega
theorem acx (p:qn) (o:List Int):0≤q' p o:=by have:=acI p o p.2.1;unfold q';omega
theorem rk.len {p:qn} (h:rk p):3≤p.1.length∧p.1.length≤7:=by have:=h.n;omega
theorem qB.len {p:qn} {o:List Int} (h:rk p) (k:qB p.1.length o):o.length≤10:=by have:=h.len;have:=k.1;omega
theorem JW {p:qn} {o:List Int} {a:Nat} {d:Int} (h:rk p) (k:qB p.1.length o) (a1:0≤d∧d≤50):-60000≤rv p o a d∧rv p o a d≤60000 :=
 afD (B:=600) (qB.len h k) (by omega) fun i hi=>L8 (Iv h.s (rY k) hi) a1
theorem U1 (p:qn) (o:List Int) (a:Nat) {lo d hi:Int} (ab:lo≤d) (ae:d≤hi):(rv p o a lo≤rv p o a d∧rv p o a d≤rv p o a hi)∨(rv p o a hi≤rv p o a d∧rv p o a d≤rv p o a lo):=by
 simp only [rv,afF];generalize r2 p.1 o a Prod.snd=B;rcases Int.le_total 0 B with h | h
 ·have:=Int.mul_le_mul_of_nonneg_left ab h;have:=Int.mul_le_mul_of_nonneg_left ae h;omega
 ·have:=Int.mul_le_mul_of_nonpos_left h ab;have:=Int.mul_le_mul_of_nonpos_left h ae;omega
theorem acH {p:qn} {o:List Int} {lo d hi:Int} (ab:lo≤d) (ae:d≤hi):I0 p o d≤max (I0 p o lo) (I0 p o hi):=by
 have a:=U1 p o 0 ab ae;have b:=U1 p o 1 ab ae;unfold I0;omega
theorem afx (a b c d:Int):max (max (max (max (max (max (max (max 0 a) (-a)) b) (-b)) c) (-c)) d) (-d)=max (max (max a (-a)) (max b (-b))) (max (max c (-c)) (max d (-d))):=by
 rw [show max (max 0 a) (-a)=max a (-a) by omega];simp only [vO]
theorem afw (a b c d:Int):max (max (max (max (max (max (max a (-a)) b) (-b)) c) (-c)) d) (-d)=max (max (max a (-a)) (max b (-b))) (max (max c (-c)) (max d (-d))):=by
 simp only [vO]
section
variable {p:qn} {o:List Int}
theorem Og (h:rk p) (k:qB p.1.length o):Kl (p,()) o=some (q' p o):=by
 have hle:=h.le;have bC:=h.lo;have GO:=h.hi;unfold Kl;have fI:=qB.len h k;rw [Ty (b:=(p,())) h.s (rY k) fI k.1.symm (show 0≤p.2.1∧p.2.1≤50 by omega),sc,Ty (b:=(p,())) h.s (rY k) fI k.1.symm (show 0≤p.2.2∧p.2.2≤50 by omega),sc];have aA:=JW (a:=0) h k (show 0≤p.2.1∧p.2.1≤50 by omega);have aG:=JW (a:=1) h k (show 0≤p.2.1∧p.2.1≤50 by omega);have aT:=JW (a:=0) h k (show 0≤p.2.2∧p.2.2≤50 by omega);have bq:=JW (a:=1) h k (show 0≤p.2.2∧p.2.2≤50 by omega);simp only;rw [qG (n := -(rv p o 0 p.2.1)) (by omega),qG (n := -(rv p o 1 p.2.1)) (by omega),qG (n := -(rv p o 0 p.2.2)) (by omega),qG (n := -(rv p o 1 p.2.2)) (by omega)];exact congrArg some (afx _ _ _ _)
theorem M1 (h:rk p) (k:qB p.1.length o) {d:Int} (a1:0≤d∧d≤50) {a:Nat}:JN p o d (a:Int)=some (rv p o a d):=ai_ h.s (rY k) (qB.len h k) a1
theorem Tu (h:rk p) (k:qB p.1.length o):LQ p o=some (q' p o):=by
 have hle:=h.le;have bC:=h.lo;have GO:=h.hi;unfold LQ;rw [show (0:Int)=((0:Nat):Int) from rfl,show (1:Int)=((1:Nat):Int) from rfl];rw [M1 h k (by omega),sc,M1 h k (by omega),sc,M1 h k (by omega),sc,M1 h k (by omega),sc];have aA:=JW (a:=0) h k (show 0≤p.2.1∧p.2.1≤50 by omega);have aG:=JW (a:=1) h k (show 0≤p.2.1∧p.2.1≤50 by omega);have aT:=JW (a:=0) h k (show 0≤p.2.2∧p.2.2≤50 by omega);have bq:=JW (a:=1) h k (show 0≤p.2.2∧p.2.2≤50 by omega);rw [qG (n := -(rv p o 0 p.2.1)) (by omega),qG (n := -(rv p o 1 p.2.1)) (by omega),qG (n := -(rv p o 0 p.2.2)) (by omega),qG (n := -(rv p o 1 p.2.2)) (by omega)];exact congrArg some (afw _ _ _ _)
theorem acS {n:Nat} (h:n≤1000000):n<qi:=r6 h
theorem Wl (h:rk p) (k:qB p.1.length o):∀ (m i:Nat) (s:Int),p.2.1+i≤p.2.2+1→(p.2.2+1-(p.2.1+i)).toNat<m→0≤s→s≤q' p o→(0<i→I0 p o p.2.1≤s)→(p.2.1+i=p.2.2+1→I0 p o p.2.2≤s) →
  LN p o (fun z=>some z) m s (p.2.1+i)=some (q' p o)
 | 0,_,_,_,h,_,_,_,_=>absurd h (by omega)
 | m+1,i,s,hi,hm,aQ,ab,ae,aF=>by
   have hle:=h.le;have bC:=h.lo;have GO:=h.hi;rw [LN];by_cases aR:p.2.1+i≤p.2.2
   ·rw [if_pos (decide_eq_true aR)];rw [show (0:Int)=((0:Nat):Int) from rfl,M1 h k (d:=p.2.1+i) (by omega),sc];rw [show (1:Int)=((1:Nat):Int) from rfl,M1 h k (d:=p.2.1+i) (by omega),sc];have aA:=JW (a:=0) h k (show 0≤p.2.1+i∧p.2.1+i≤50 by omega);have aG:=JW (a:=1) h k (show 0≤p.2.1+i∧p.2.1+i≤50 by omega);rw [qG (n := -(rv p o 0 (p.2.1+i))) (by omega),qG (n := -(rv p o 1 (p.2.1+i))) (by omega),qG (by omega)];(have e:max (max (max (max s (rv p o 0 (p.2.1+i))) (-(rv p o 0 (p.2.1+i)))) (rv p o 1 (p.2.1+i))) (-(rv p o 1 (p.2.1+i)))=max s (I0 p o (p.2.1+i)):=by unfold I0;simp only [vO]);have b:=acH (p:=p) (o:=o) (lo:=p.2.1) (d:=p.2.1+i) (hi:=p.2.2) (by omega) aR;rw [e,show p.2.1+(i:Int)+((1:Nat):Int)=p.2.1+((i+1:Nat):Int) by omega];refine Wl h k m (i+1) _ (by omega) (by omega) (by omega) (by unfold q' at *;omega) (fun _=>?_) (fun he=>?_)
    ·by_cases f_:i=0
     ·subst f_;simp only [Int.natCast_zero,tJ];omega
     ·have:=ae (by omega);omega
    ·rw [show p.2.1+(i:Int)=p.2.2 by omega];omega
   ·rw [if_neg (by simpa using by omega)];have:=ae (by omega);have:=aF (by omega);congr 1;unfold q' at *;omega
theorem ZG (h:rk p) (k:qB p.1.length o):LM p o=some (q' p o):=by
 have hle:=h.le;have bC:=h.lo;have GO:=h.hi;unfold LM;have:=Wl h k qi 0 0 (by omega) (acS (by omega)) (by omega) (acx p o) (fun h=>absurd h (by omega)) (fun h=>by omega);simpa using this
theorem Tk (aB:p.1.length≤1000) (ao:o.length≤12):Kk p o=some (if rV p o=0 then (q' p o,0) else (0,rV p o)):=by
 unfold Kk;rw [PX aB ao,sc];by_cases h:rV p o=0
 ·rw [if_pos h,if_pos h];obtain ⟨ab,ae⟩:=Lp.1 h;simp only;rw [if_neg (by decide),Og ab ae];rfl
 ·rw [if_neg h,if_neg h];simp only;rw [if_pos (decide_eq_true h)]
theorem ZE (aB:p.1.length≤1000) (ao:o.length≤12) (d:Int):KS p o d=some (if rV p o=0 then (if p.2.1≤d∧d≤p.2.2 then (rv p o 0 d,rv p o 1 d,0) else (0,0,3)) else (0,0,rV p o)):=by
 unfold KS;rw [PX aB ao,sc];by_cases h:rV p o=0
 ·rw [if_pos h,if_pos h];obtain ⟨ab,ae⟩:=Lp.1 h;have hle:=ab.le;have bC:=ab.lo;have GO:=ab.hi;simp only;rw [if_neg (by decide),MZ,sc];by_cases a1:p.2.1≤d∧d≤p.2.2
  ·rw [if_pos (by simp [a1.1,a1.2]),if_pos a1,Ty (b:=(p,())) ab.s (rY ae) (qB.len ab ae) ae.1.symm (by omega)];rfl
  ·rw [if_neg (by simpa using a1),if_neg a1]
 ·rw [if_neg h,if_neg h];simp only;rw [if_pos (decide_eq_true h)]
end
end Go.Proofs.YtkoioidpbbbaiaaGreat.Ab


namespace Go.Proofs.YtkoioidpbbbaiaaGreat.Ab
open Go
noncomputable def Pn:gB :=
 .seq (ri [p3 37 [.m_ 10] (.zE (.str 2)), p3 38 [] (.build [.int .i64 0, .int .i64 0] []), p3 39 [.Bs 37, .Bs 38] (.other (Oper.mk (some 39) (Op.binOp .eql 117 (Operand.tmp 37) (Operand.tmp 38) 117) 4 "press.go:129" (Array.mk [Edge.mk 0 Ground.data, Edge.mk 1 Ground.data]) none) 0), p4 40 39, ch 41 [.jm 11] 40 false .mR, ch 42 [.jm 41] 40 false .mR, ch 43 [.m_ 10] 42 true (.yM 0), ch 44 [.Bs 43] 42 true (.zE .one), ch 45 [.m_ 10] 42 true (.yM 1), ch 46 [.Bs 45] 42 true (.zE .one), ch 47 [.jm 0] 42 true .mR, ch 48 [.Bs 47] 42 true .z4, ch 49 [.Bs 48] 42 true (.yM 0), ch 50 [.Bs 49] 42 true (.yM 1), ch 51 [.Bs 50] 42 true (.yM 0), ch 52 [.Bs 51] 42 true (.zE .one), ch 53 [.Bs 46, .Bs 52] 42 true (.bin .mul), ch 54 [.Bs 44, .Bs 53] 42 true (.bin .add), ch 55 [.Bs 54, .cv (.int .i64 0)] 42 true (.bin .eql), ch 56 [.m_ 42, .Bs 55, .cv (.bool false)] 40 false .pick, p3 57 [.m_ 40, .cv (.bool true), .Bs 56] .pick, p3 8 [.cv (.av [] 0 .full)] (.nil 3), p4 9 57]) .ret
noncomputable def SE:gB :=
 .ou false [p6 80 0,p3 81 [.Bs 80] .z4,qK 82 81 3,qm 83 82,p6 84 0,p6 85 3,p3 86 [.Bs 85,.cv (.int .i64 0)] (.kV 1),qm 87 86,p3 88 [.cv (.func 77 [] []),.jm 84,.jm 87] (.call 9),p6 89 12,⟨none,[.Bs 83,.Bs 88,.Bs 89],none,none,.zR (.int .i64)⟩]
noncomputable def Po:gB :=
 p5 [p6 73 0,p6 74 0,p6 75 3,p3 76 [.Bs 75,.cv (.int .i64 0)] (.kV 1),qm 77 76,p3 78 [.cv (.func 77 [] []),.jm 74,.jm 77] (.call 9),p3 79 [.cv (.func 81 [] []),.m_ 73,.m_ 78] (.call 2),p4 12 79] SE
noncomputable def SF:gB :=
 .ou true [p3 98 [.m_ 10] (.yM 0),qm 99 98,p3 100 [.Bs 99] (.un .neg),p3 101 [.m_ 10] (.yM 1),qm 102 101,p4 103 0,p3 104 [.Bs 103] .z4,qK 105 104 0,qK 106 105 1,qK 107 106 0,qm 108 107,qq 109 102 108 .mul,qq 110 100 109 .sub,p3 111 [.Bs 110,.cv (.int .i64 0)] (.build [.int .i64 0,.int .i64 0] [(0,1),(1,1)]),⟨none,[.m_ 14,.jm 111],none,none,.st 2⟩]
noncomputable def Yg:gB :=
 .seq (ri [p4 120 1,p4 121 3,p3 122 [.Bs 121,.cv (.int .i64 0)] (.kV 1),qm 123 122,rn 124 120 123 1,qm 125 124,p3 126 [.Bs 15] (.zE (.str 2)),p3 127 [.Bs 125,.Bs 126] (.build [.int .i64 0,.int .i64 0,.int .i64 0] [(0,1),(1,2)]),p3 128 [.Bs 127] (.yB 1 3 [.int .i64 0,.int .i64 0,.int .i64 0] [0]),p4 8 128,p3 9 [.cv (.bool true)] .mR]) .ret
noncomputable def Pp:gB :=
 .seq (p5 [p4 118 13,p3 119 [.Bs 118] (.un .not)] (.cond (.m_ 119) (p5 [p3 8 [.cv (.av [] 0 .full)] (.nil 3),p3 9 [.cv (.bool false)] .mR] .ret) .skip)) Yg
noncomputable def Pq:gB :=
 p5 [p4 113 12,p3 114 [.Bs 14] (.zE (.str 2)),p3 115 [.Bs 113,.Bs 114] (.zQ (.str 2) true (some (.agg [.int .i64 0,.int .i64 0]))),p4 112 115,qR 116 112 0,p3 117 [.Bs 112] (.ext 1),p3 15 [] (.alloc [.int .i64 0,.int .i64 0]),⟨none,[.m_ 15,.jm 116],none,none,.st 2⟩,p4 13 117] Pp
noncomputable def NV:gB :=
 p5 [p3 90 [.m_ 10] (.yM 0),qm 91 90,p3 92 [.Bs 91] (.un .neg),p3 93 [.m_ 10] (.yM 1),qm 94 93,p3 95 [.Bs 94] (.un .neg),p3 96 [.Bs 92,.Bs 95] (.build [.int .i64 0,.int .i64 0] [(0,1),(1,1)]),p3 14 [] (.alloc [.int .i64 0,.int .i64 0]),⟨none,[.m_ 14,.jm 96],none,none,.st 2⟩] (.seq (p5 [p4 97 11] (.cond (.m_ 97) SF .skip)) Pq)
noncomputable def ME:gB :=
 p5 [p6 59 0,p3 60 [.Bs 59] .z4,qK 61 60 3,qm 62 61,p6 63 0,p6 64 3,p3 65 [.Bs 64,.cv (.int .i64 0)] (.kV 1),qm 66 65,p3 67 [.cv (.func 77 [] []),.jm 63,.jm 66] (.call 9),p3 68 [.Bs 62,.Bs 67] (.zQ (.int .i64) true (some .a0)),p4 58 68,qR 69 58 0,qR 70 58 1,p4 12 69,p4 13 70] (.seq (p5 [p4 71 13,p3 72 [.Bs 71] (.un .not)] (.cond (.m_ 72) Po .skip)) NV)
noncomputable def NU:gB :=
 .seq (ri [p6 21 0,p3 22 [.Bs 21] .z4,qK 23 22 0,qK 24 23 1,qK 25 24 0,qm 26 25,p6 27 0,p3 28 [.Bs 27] .z4,qK 29 28 0,qK 30 29 1,qK 31 30 1,qm 32 31,qq 33 26 32 .eql,p4 11 33]) (.seq (p5 [p6 34 3,q2 35 34,qv 36 35 0 .eql] (.cond (.m_ 36) Pn .skip)) ME)
noncomputable def SD:gB :=
 p5 [p6 16 0,p6 17 1,p4 18 2,p6 19 3,p3 20 [.cv (.func 80 [] []),.jm 16,.jm 17,.jm 18,.jm 19] (.call 9),p3 10 [] (.alloc [.int .i64 0,.int .i64 0]),⟨none,[.m_ 10,.jm 20],none,none,.st 2⟩] NU
noncomputable def Pm:gB :=
 p5 [p3 8 [.cv (.av [] 0 .full)] (.nil 3),p3 9 [.cv (.bool false)] .mR] SD
theorem R1:qu Go.Proofs.Tryz.prog L6 60=some (Pm,129,[.tmp 8,.tmp 9]):=by qb
end Go.Proofs.YtkoioidpbbbaiaaGreat.Ab


namespace Go.Proofs.YtkoioidpbbbaiaaGreat.Ab
open Go
set_option maxRecDepth 20000
set_option maxHeartbeats 4000000
abbrev sa:=((List (Int×Int))×(Int×Int))×Unit
abbrev r1 (b:sa) (m:Nat):I:=.bR [.av (b.1.1.flatMap p_) b.1.1.length .shared,hX b.1.2.1,hX b.1.2.2,.map m]
def HX (b:sa) (m:Nat) (H:List ar):Prop:=∃ (es:List (Nat×I×I)) (IX:Nat),H[m]?=some (.map es IX) ∧
 ∀ e∈es,∃ (x:Int) (id c:Nat) (A:ru),e.2.1=hX x∧e.2.2=.map id∧id≠m∧H[id]?=some (.map (rz A) c)∧M6 b x=some A
theorem HX.more {b:sa} {m:Nat} {H:List ar} (h:HX b m H) (Z:List ar):HX b m (H++Z):=by
 obtain ⟨es,IX,ab,ae⟩:=h;refine ⟨es,IX,by rw [sk (sd.1 ab).1];exact ab,fun e he=>?_⟩;obtain ⟨x,id,c,A,aA,aG,aT,bq,bf⟩:=ae e he;exact ⟨x,id,c,A,aA,aG,aT,by rw [sk (sd.1 bq).1];exact bq,bf⟩
theorem Vj {x:Int}:∀ {es:List (Nat×I×I)} {n:Nat},(∀ e∈es,∃ y:Int,e.2.1=hX y)→(∃ i e,fE (hX x) es n=some (some (n+i))∧es[i]?=some e∧e.2.1=hX x)∨fE (hX x) es n=some none
 | [],n,_=>.inr rfl
 | (i,k,v)::es,n,h=>by
   obtain ⟨y,aY⟩:=h (i,k,v) (by simp);simp only at aY;subst aY;have he:gH (hX x) (hX y)=some (decide (x=y)):=by
    simp only [gH,if_true,Option.some.injEq];rw [tA];simp
   by_cases e:x=y
   ·subst e;refine .inl ⟨0,_,?_,rfl,rfl⟩;simp only [fE,he,decide_true];rfl
   ·rcases Vj (x:=x) (es:=es) (n:=n+1) (fun e he=>h e (by simp [he])) with ⟨j,b9,ab,ae,aF⟩ | ab
    ·refine .inl ⟨j+1,b9,?_,by simpa using ae,aF⟩;simp only [fE,he];rw [decide_eq_false e];show fE (hX x) es (n+1)=_;rw [ab];congr 2;omega
    ·refine .inr ?_;simp only [fE,he];rw [decide_eq_false e];exact ab
def Ij (m:Nat) (H H':List ar):Prop:=H.length≤H'.length∧∀ j,j≠m→j<H.length→H'[j]?=H[j]?
def Ix (b:sa) (order:List Int) (qo:Int) (Ll:List Int):Option (List qC×Bool) :=
 (LY b order qo Ll).bind fun left =>
 match Ll with
 | []=>some ([],decide (left=(0,0)) || (decide (b.1.2.1=b.1.2.2) && decide (w (left.1+w (left.2*b.1.2.1))=0)))
 | cu::_ =>
   (Kp b cu).bind fun x=>(M6 b x).bind fun A =>
   match JD A (if b.1.2.1=b.1.2.2 then (w (w (-left.1)-w (left.2*b.1.2.1)),0) else (w (-left.1),w (-left.2))) with
   | none=>some ([],false)
   | some s=>qs (0≤cu∧cu<(order.length:Int)) <| some ([(ix order cu,s)],true)
theorem ZV {b:sa} {order:List Int} {qo:Int} {v:List qC×Bool} (h:Ix b order qo []=some v) {m lo:Nat} {H:List ar} (bC:lo≤H.length) :
  v.1=[]∧∃ o,Sem Tryz.prog (.fn 60) [r1 b m,.av (order.map hX) order.length .shared,hX qo,.av [] 0 .full] H lo (.tuple [.av [] 0 .shared,B v.2]) (H++[o]):=by
 unfold Ix at h;obtain ⟨left,ao,h⟩:=p' h;obtain rfl:=Option.some.inj h;refine ⟨rfl,.cells [hX left.1,hX left.2],?_⟩;refine rL eD R1 rfl (a'.append _ _ _) fun Q bo=>?_;unfold Pm SD;obtain ⟨ab0,Kz⟩:∃ c,NU=c:=⟨_,rfl⟩;rw [Kz];conv=>whnf
 refine ⟨_,_,call9 (bs:=[lj b,.av (order.map hX) order.length .shared,hX qo,.av (([]:List Int).map hX) ([]:List Int).length .shared]) rfl (p7 (Ie b) (p7 (rM (fun _=>rfl) _ _ _) (p7 rfl (p7 rfl rfl)))) (P6 ao),?_⟩;conv=>whnf
 rw [tw bC];refine Ew (x:=ar.cells [hX 0,hX 0]) (by first | exact q7.h | rfl | (simp [sr,I.settle];done)) ?_
 conv=>whnf
 rw [HK];subst Kz;unfold NU;obtain ⟨B9,Lb⟩:∃ c,ME=c:=⟨_,rfl⟩;obtain ⟨a7,cc⟩:∃ c,Pn=c:=⟨_,rfl⟩;rw [Lb,cc];conv=>whnf
 subst cc;unfold Pn;conv=>whnf
 refine Ew (x:=ar.cells [hX left.1,hX left.2]) (by first | exact q7.h | rfl | (simp [sr,I.settle];done)) ?_
 conv=>whnf
 refine ⟨.bool (decide (left=(0,0))),_,fun C=>Xa rfl rfl (aa5 (fs:=acR Tryz.prog 117) (by qb) (by qb) (by qb) (by qb) (by qb) _ _ _ _ (.inl rfl)),?_⟩;conv=>whnf
 by_cases bj:left=(0,0)
 ·rw [decide_eq_true bj];conv=>whnf
  rw [decide_eq_true bj] at bo;exact bo _ _ _ ⟨.inr rfl,lF.refl _,rfl⟩
 ·rw [decide_eq_false bj];rw [decide_eq_false bj] at bo;conv=>whnf
  by_cases aq:b.1.2.1=b.1.2.2
  ·rw [decide_eq_true aq];rw [decide_eq_true aq] at bo;(conv=>whnf);refine Ew (x:=ar.cells [hX left.1,hX left.2]) (by first | exact q7.h | rfl | (simp [sr,I.settle];done)) ?_
   (conv=>whnf);refine Ew (x:=ar.cells [hX left.1,hX left.2]) (by first | exact q7.h | rfl | (simp [sr,I.settle];done)) ?_
   (conv=>whnf);exact bo _ _ _ ⟨.inr rfl,lF.refl _,rfl⟩
  ·rw [decide_eq_false aq];rw [decide_eq_false aq] at bo;(conv=>whnf);exact bo _ _ _ ⟨.inr rfl,lF.refl _,rfl⟩
theorem Y9 {b:sa} {order:List Int} {cu:Int} {left:rb} {A:ru} {v:List qC×Bool} (h:(match JD A (if b.1.2.1=b.1.2.2 then (w (w (-left.1)-w (left.2*b.1.2.1)),0) else (w (-left.1),w (-left.2))) with
  | none=>some ([],false)
  | some s=>qs (0≤cu∧cu<(order.length:Int)) <| some ([(ix order cu,s)],true))=some v) {m lo p10 id c:Nat} {H:List ar} {Zf Zk Zl Zm PI Zn PK Za:I} (bC:lo≤H.length) (dk:H[p10]?=some (.cells [hX left.1,hX left.2])) (aE:H[id]?=some (.map (rz A) c)) {Q:cN→List I→List ar→Prop}
  (bo:∀ T bw bJ,(r0 (H++[bw,bJ]) T [.tmp 8,.tmp 9]).map jd=some (.tuple [.av (v.1.flatMap qy) v.1.length .shared,B v.2])→Q .ret T (H++[bw,bJ])) :
  dN Tryz.prog L6 60 lo none NV (qg 129 [(0,r1 b m),(1,.av (order.map hX) order.length .shared),(3,.av [hX cu] 1 (.own 1)),(8,Zn),(9,PK),(10,.ptr p10 0),(11,.bool (decide (b.1.2.1=b.1.2.2))),(12,.map id),(13,Za),(36,Zf),(58,Zk),(72,Zl),(73,Zm),(78,PI)]) H Q:=by
 have Kz:∀ Z,(H++Z)[p10]?=some (.cells [hX left.1,hX left.2]):=fun Z=>by rw [sk (sd.1 dk).1];exact dk
 have gid:∀ Z,(H++Z)[id]?=some (.map (rz A) c):=fun Z=>by rw [sk (sd.1 aE).1];exact aE
 obtain ⟨JK,NF⟩:∃ JK,JK=(if b.1.2.1=b.1.2.2 then (w (w (-left.1)-w (left.2*b.1.2.1)),0) else (w (-left.1),w (-left.2))):=⟨_,rfl⟩;rw [←NF] at h;have fin:∀ v0 Zo,dN Tryz.prog L6 60 lo none Pq (qg 129 [(0,v0),(1,.av (order.map hX) order.length .shared),(3,.av [hX cu] 1 (.own 1)),(8,Zn),(9,PK),(10,.ptr p10 0),(12,.map id),(13,Za),(14,.ptr H.length 0),(36,Zf),(58,Zk),(72,Zl),(73,Zm),(78,PI),(97,Zo)]) (H++[ar.cells [hX JK.1,hX JK.2]]) Q:=by
  intro v0 Zo;unfold Pq;obtain ⟨fY,Hp⟩:∃ c,Pp=c:=⟨_,rfl⟩;rw [Hp];conv=>whnf
  refine Ew (x:=ar.cells [hX JK.1,hX JK.2]) (by first | exact q7.h | rfl | (simp [sr,I.settle];done)) ?_
  conv=>whnf
  rcases aeD JK A with ⟨s,i,e,aJ,aN,b',hn⟩ | ⟨aJ,aN⟩
  ·rw [aJ] at h;obtain ⟨jQ,h⟩:=rW h;obtain rfl:=Option.some.inj h;refine ⟨rfl,_,_,gid _,some i,aN,e,b',?_⟩;rw [hn];(conv=>whnf);rw [tw (show lo≤(H++[ar.cells [hX JK.1,hX JK.2]]).length by simp;omega)];refine Ew (x:=ar.cells [hX 0,hX 0]) (by first | exact q7.h | rfl | (simp [sr,I.settle];done)) ?_
   (conv=>whnf);rw [HK];subst Hp;unfold Pp Yg;(conv=>whnf);refine ⟨⟨sY _,by decide⟩,?_⟩;(conv=>whnf);refine ⟨jQ,?_⟩;rw [rj hX order cu jQ];(conv=>whnf);refine Ew (x:=ar.cells [hX s.1,hX s.2]) (by first | exact q7.h | rfl | (simp [sr,I.settle];done)) ?_
   (conv=>whnf);rw [sC];exact bo _ _ _ rfl
  ·rw [aJ] at h;obtain rfl:=Option.some.inj h;refine ⟨rfl,_,_,gid _,none,aN,_,rfl,?_⟩;(conv=>whnf);rw [tw (show lo≤(H++[ar.cells [hX JK.1,hX JK.2]]).length by simp;omega)];refine Ew (x:=ar.cells [hX 0,hX 0]) (by first | exact q7.h | rfl | (simp [sr,I.settle];done)) ?_
   (conv=>whnf);rw [HK];subst Hp;unfold Pp;(conv=>whnf);rw [sC];exact bo _ _ _ rfl
 unfold NV;obtain ⟨nr,Md⟩:∃ c,Pq=c:=⟨_,rfl⟩;obtain ⟨b5,iM⟩:∃ c,SF=c:=⟨_,rfl⟩;rw [Md,iM];conv=>whnf
 refine Ew dk ?_;conv=>whnf
 refine Ew dk ?_;conv=>whnf
 rw [tw bC];refine Ew (x:=ar.cells [hX 0,hX 0]) (by first | exact q7.h | rfl | (simp [sr,I.settle];done)) ?_
 conv=>whnf
 rw [HK];by_cases aq:b.1.2.1=b.1.2.2
 ·rw [decide_eq_true aq];rw [if_pos aq] at NF;conv=>whnf
  subst iM;unfold SF;conv=>whnf
  refine Ew (Kz _) ?_;conv=>whnf
  refine Ew (Kz _) ?_;conv=>whnf
  rw [tw bC];refine Ew (x:=ar.cells [hX (w (-left.1)),hX (w (-left.2))]) (by first | exact q7.h | rfl | (simp [sr,I.settle];done)) ?_
  conv=>whnf
  rw [HK];subst Md;rw [NF] at fin;exact fin _ _
 ·rw [decide_eq_false aq];rw [if_neg aq] at NF;conv=>whnf
  subst Md;rw [NF] at fin;exact fin _ _
theorem Vi {H:List ar} {bw bJ:ar}:lF (H++[bw,bJ]) (H++[.dead,.dead]):=by
 refine ⟨by simp,fun id o aq=>?_⟩;by_cases h:id<H.length
 ·rw [sk h] at aq ⊢;exact .inr aq
 ·rw [List.getElem?_append_right (by omega)] at aq;refine .inl ?_
  match ae:id-H.length with
  | 0=>rw [ae] at aq;exact (Option.some.inj aq).symm
  | 1=>rw [ae] at aq;exact (Option.some.inj aq).symm
  | n+2=>rw [ae] at aq;cases aq
theorem ZW {b:sa} {order:List Int} {qo cu:Int} {v:List qC×Bool} (h:Ix b order qo [cu]=some v) {m lo:Nat} {H:List ar} (bC:lo≤m) (bF:HX b m H) :
  ∃ H',HX b m H'∧Ij m H H'∧Sem Tryz.prog (.fn 60) [r1 b m,.av (order.map hX) order.length .shared,hX qo,.av [hX cu] 1 (.uniq 1)] H lo (.tuple [.av (v.1.flatMap qy) v.1.length .shared,B v.2]) H':=by
 unfold Ix at h;obtain ⟨left,ao,h⟩:=p' h;obtain ⟨x,aj,h⟩:=p' h;obtain ⟨A,aL,h⟩:=p' h;have OW:=bF;obtain ⟨es,IX,hm,Jz⟩:=OW;have en:=(sd.1 hm).1;have V0:∀ Z,(H++Z)[m]?=some (.map es IX):=fun Z=>by rw [sk en];exact hm
 have aj1:([r1 b m,.av (order.map hX) order.length .shared,hX qo,.av [hX cu] 1 .shared]:List I).map I.gr=[lj b,.av (order.map hX) order.length .shared,hX qo,.av [hX cu] 1 .shared]:=rfl;have start:∀ (Q:cN→List I→List ar→Prop),dN Tryz.prog L6 60 lo none ME (qg 129 [(0,r1 b m),(1,.av (order.map hX) order.length .shared),(3,.av [hX cu] 1 (.own 1)),(8,.av [] 0 (.uniq 3)),(9,.bool false),(10,.ptr H.length 0),(11,.bool (decide (b.1.2.1=b.1.2.2))),(36,.bool false)]) (H++[ar.cells [hX left.1,hX left.2]]) Q →
   dN Tryz.prog L6 60 lo none Pm (qg 129 [(0,r1 b m),(1,.av (order.map hX) order.length .shared),(2,hX qo),(3,.av [hX cu] 1 (.uniq 1))]) H Q:=by
  intro Q a_;unfold Pm SD;obtain ⟨ab0,Kz⟩:∃ c,NU=c:=⟨_,rfl⟩;rw [Kz];conv=>whnf
  refine ⟨_,_,call9 (bs:=[lj b,.av (order.map hX) order.length .shared,hX qo,.av (([cu]:List Int).map hX) ([cu]:List Int).length .shared]) rfl (p7 (Ie b) (p7 (rM (fun _=>rfl) _ _ _) (p7 rfl (p7 rfl rfl)))) (P6 ao),?_⟩;conv=>whnf
  rw [tw (show lo≤H.length by omega)];refine Ew (x:=ar.cells [hX 0,hX 0]) (by first | exact q7.h | rfl | (simp [sr,I.settle];done)) ?_
  conv=>whnf
  rw [HK];subst Kz;unfold NU;obtain ⟨B9,Lb⟩:∃ c,ME=c:=⟨_,rfl⟩;obtain ⟨a7,cc⟩:∃ c,Pn=c:=⟨_,rfl⟩;rw [Lb,cc];conv=>whnf
  subst Lb;exact a_
 have adA:∀ e∈es,∃ y:Int,e.2.1=hX y:=fun e he=>by
  obtain ⟨y,_,_,_,ab,_⟩:=Jz e he;exact ⟨y,ab⟩
 rcases Vj (x:=x) (n:=0) adA with ⟨i,e,aJ,aN,b'⟩ | aJ
 ·obtain ⟨y,id,c,TS,aA,aG,aT,bq,bf⟩:=Jz e (sA aN);rw [b'] at aA;have adO:x=y:=by injection aA
  subst adO;rw [aL] at bf;obtain rfl:=Option.some.inj bf;rw [sG] at aJ;refine ⟨(H++[ar.cells [hX left.1,hX left.2]])++[.dead,.dead],(bF.more _).more _,⟨by simp,fun j _ aw=>by rw [sC,sk aw]⟩,?_⟩;refine rL eD R1 rfl (by rw [sC];exact a'.append _ _ _) fun Q bo=>?_;refine start Q ?_;unfold ME;obtain ⟨br,eP⟩:∃ c,Po=c:=⟨_,rfl⟩;obtain ⟨ns,Jw⟩:∃ c,NV=c:=⟨_,rfl⟩;rw [eP,Jw];conv=>whnf
  refine ⟨⟨sY _,by decide⟩,?_⟩;conv=>whnf
  refine ⟨_,_,call9 (bs:=[lj b,hX cu]) rfl (p7 (Ie b) (p7 rfl rfl)) (K3 aj),?_⟩;conv=>whnf
  refine ⟨rfl,_,_,V0 _,some i,aJ,e,aN,?_⟩;rw [aG];conv=>whnf
  subst Jw;refine Y9 (A:=A) (c:=c) h (by simp;omega) (I3 _ _) (by rw [sk (sd.1 bq).1];exact bq) fun T bw bJ ai=>?_;exact bo _ _ _ ⟨.inr rfl,Vi,ai⟩
 ·obtain ⟨c,D,cl⟩:=ajj aL;obtain ⟨H1,bV⟩:∃ H1,H1=H++[ar.cells [hX left.1,hX left.2]]:=⟨_,rfl⟩;have jR:H1.length=H.length+1:=by rw [bV];simp
  have nM:H1[m]?=some (.map es IX):=by rw [bV];exact V0 _
  obtain ⟨H2,cf⟩:∃ H2,H2=(H1++[ar.map (rz A) c]).set m (.map (es++[(IX,hX x,.map H1.length)]) (IX+1)):=⟨_,rfl⟩;have eC:H2.length=H.length+2:=by rw [cf];simp [jR]
  have aO:∀ j,j≠m→H2[j]?=(H1++[ar.map (rz A) c])[j]?:=fun j aw=>by rw [cf,sf (by omega)]
  have VW:H2[H1.length]?=some (.map (rz A) c):=by rw [aO _ (by omega)];exact I3 _ _
  have adv:H2[m]?=some (.map (es++[(IX,hX x,.map H1.length)]) (IX+1)):=by rw [cf];exact sn (by simp;omega)
  have acX:HX b m H2:=by
   refine ⟨_,_,adv,fun e he=>?_⟩;rcases sU.1 he with he | he
   ·obtain ⟨y,id,dR,TS,aA,aG,aT,bq,bf⟩:=Jz e he;have aE:=(sd.1 bq).1;refine ⟨y,id,dR,TS,aA,aG,aT,?_,bf⟩;rw [aO _ aT,bV,sC,sk aE];exact bq
   ·obtain rfl:=sK.1 he;exact ⟨x,H1.length,c,A,rfl,rfl,by omega,VW,aL⟩
  refine ⟨H2++[.dead,.dead],acX.more _,⟨by simp [eC];omega,fun j aw ml=>?_⟩,?_⟩
  ·rw [sk (by omega),aO _ aw,bV,sC,sk ml]
  have J8:a' lo H (H2++[.dead,.dead]):=by
   refine ⟨by simp [eC];omega,fun j ab ae=>?_⟩;rw [sk (by omega),aO _ (by omega),bV,sC,sk (by omega)]
  refine rL eD R1 rfl J8 fun Q bo=>?_;refine start Q ?_;rw [←bV];unfold ME;obtain ⟨br,eP⟩:∃ c,Po=c:=⟨_,rfl⟩;obtain ⟨ns,Jw⟩:∃ c,NV=c:=⟨_,rfl⟩;rw [eP,Jw];conv=>whnf
  refine ⟨⟨sY _,by decide⟩,?_⟩;conv=>whnf
  refine ⟨_,_,call9 (bs:=[lj b,hX cu]) rfl (p7 (Ie b) (p7 rfl rfl)) (K3 aj),?_⟩;conv=>whnf
  refine ⟨rfl,_,_,nM,none,aJ,_,rfl,?_⟩;conv=>whnf
  subst eP;unfold Po;obtain ⟨a9,b_⟩:∃ c,SE=c:=⟨_,rfl⟩;rw [b_];conv=>whnf
  refine ⟨⟨sY _,by decide⟩,?_⟩;conv=>whnf
  refine ⟨_,_,call9 (bs:=[lj b,hX cu]) rfl (p7 (Ie b) (p7 rfl rfl)) (K3 aj),?_⟩;conv=>whnf
  have zg:∀ (j i:Nat) (k v:I),(rz A)[j]?=some (i,k,v)→cn 8 k=true∧cn 8 v=true:=fun j i k v aw=>by
   obtain ⟨a,_,cq⟩:=sH.1 (sA aw);obtain ⟨_,ae⟩:=Prod.mk.inj cq;obtain ⟨rfl,rfl⟩:=Prod.mk.inj ae;exact ⟨H4 (p7 rfl (p7 rfl rfl)),H4 (p7 rfl (p7 rfl rfl))⟩
  refine ⟨_,_,ab3 (args:=[r1 b m,hX x]) (es:=rz A) (clock:=c) (D:=D) (p7 (Ie b) (p7 rfl rfl)) zg cl _ _,?_⟩;conv=>whnf
  subst b_;unfold SE;conv=>whnf
  refine ⟨⟨sY _,by decide⟩,?_⟩;conv=>whnf
  refine ⟨_,_,call9 (bs:=[lj b,hX cu]) rfl (p7 (Ie b) (p7 rfl rfl)) (K3 aj),?_⟩;conv=>whnf
  rw [tw bC];refine ⟨rfl,es,IX,by rw [sk (by omega)];exact nM,none,aJ,?_⟩;conv=>whnf
  rw [←cf];subst Jw;refine Y9 (A:=A) (c:=c) (p10:=H.length) (id:=H1.length) h (by omega) (by rw [aO _ (by omega),sk (by omega),bV];exact I3 _ _) VW fun T bw bJ ai=>?_;exact bo _ _ _ ⟨.inr rfl,Vi,ai⟩

noncomputable def Qw:gB :=
 .loop (some (qd false [0,4,6,1,59])) (.seq (p5 [p6 53 10,p6 54 2,qq 55 53 54 .leq] (.cond (.m_ 55) .skip (.exit 0))) (.seq (.block 1 (.seq (ri [p6 58 0,p3 59 [.jm 58,.cv (.int .i64 1)] (.Bh 1 true false false),p6 60 1,p6 61 2,p6 62 3,p6 63 0,p3 64 [.Bs 63,.cv (.int .i64 0)] (.kV 1),qm 65 64,p6 66 10,qq 67 65 66 .mul,qq 68 62 67 .sub,p3 69 [.cv (.func 83 [] []),.m_ 59,.m_ 60,.m_ 61,.m_ 68] (.call 3)]) (.cond (.m_ 69) (p5 [p3 8 [.cv (.bool true)] .mR] .ret) .skip))) (qF [p4 56 10,qW 57 56 1,p4 10 57])))
noncomputable def aaT:gB :=
 p5 [p3 8 [.cv (.bool false)] .mR] (.seq (p5 [p6 11 0,q2 12 11,qv 13 12 0 .eql] (.cond (.m_ 13) (p5 [p4 14 3,qv 15 14 0 .eql,p4 8 15] .ret) .skip)) (.seq (p5 [p6 16 0,q2 17 16,qv 18 17 1 .eql] (.cond (.m_ 18) (p5 [p4 19 0,p3 20 [.Bs 19,.cv (.int .i64 0)] (.kV 1),qm 21 20,p4 9 21] (p5 [p6 22 9,qv 23 22 0 .neq,p4 24 23,ch 25 [.m_ 3] 24 true .mR,ch 26 [.m_ 9] 24 true .mR,ch 27 [.Bs 25,.Bs 26] 24 true (.bin .rem),ch 28 [.Bs 27,.cv (.int .i64 0)] 24 true (.bin .eql),p3 29 [.Bs 24,.Bs 28,.cv (.bool false)] .pick,p4 30 29,ch 31 [.m_ 3] 30 true .mR,ch 32 [.m_ 9] 30 true .mR,ch 33 [.Bs 31,.Bs 32] 30 true (.bin .quo),ch 34 [.jm 1] 30 true .mR,ch 35 [.Bs 33,.Bs 34] 30 true (.bin .geq),p3 36 [.Bs 30,.Bs 35,.cv (.bool false)] .pick,p4 37 36,ch 38 [.m_ 3] 37 true .mR,ch 39 [.m_ 9] 37 true .mR,ch 40 [.Bs 38,.Bs 39] 37 true (.bin .quo),ch 41 [.jm 2] 37 true .mR,ch 42 [.Bs 40,.Bs 41] 37 true (.bin .leq),p3 43 [.Bs 37,.Bs 42,.cv (.bool false)] .pick,p4 44 43,ch 45 [.jm 9] 44 false .mR,ch 46 [.Bs 45,.cv (.int .i64 0)] 44 false (.bin .eql),ch 47 [.jm 46] 44 false .mR,ch 48 [.jm 3] 47 true .mR,ch 49 [.Bs 48,.cv (.int .i64 0)] 47 true (.bin .eql),ch 50 [.Bs 47,.Bs 49,.cv (.bool false)] 44 false .pick,p3 51 [.Bs 44,.cv (.bool true),.Bs 50] .pick,p4 8 51] .ret)) .skip)) (.seq (p5 [p6 52 1,p4 10 52] (.block 0 Qw)) (p5 [p3 8 [.cv (.bool false)] .mR] .ret))))
theorem afs:qu Tryz.prog QX 83=some (aaT,70,[.tmp 8]):=by qb
def Ou (places:qa) (lo hi sum:Int) (rcF:(qa→Int→Int→Int→Option Bool)) (qc:Unit→Option Bool):Nat→Int→Option Bool
 | 0,_=>none
 | m+1,s1 =>
   if (decide (s1≤hi))=true then
    qs (0≤(1:Int)∧(1:Int)≤(places.length:Int)) <|
    qs (0≤(0:Int)∧(0:Int)<(places.length:Int)) <|
    (rcF (places.drop (1:Int).toNat) lo hi (w (sum-(w ((ix places (0:Int))*s1))))).bind fun aS =>
    if aS=true then
     some true
    else
     Ou places lo hi sum rcF qc m (w (s1+(1:Int)))
   else
    qc ()
def L0 (rcF:qa→Int→Int→Int→Option Bool) (places:qa) (lo hi sum:Int):Option Bool :=
 if (decide ((places.length:Int)=(0:Int)))=true then
  some (decide (sum=(0:Int)))
 else
  if (decide ((places.length:Int)=(1:Int)))=true then
   qs (0≤(0:Int)∧(0:Int)<(places.length:Int)) <|
   if (decide ((ix places (0:Int))≠(0:Int)))=true then
    qs ((ix places (0:Int))≠0) <|
    if (decide ((sum.tmod (ix places (0:Int)))=(0:Int)))=true then
     qs ((ix places (0:Int))≠0) <|
     if (decide (lo≤(w (sum.tdiv (ix places (0:Int))))))=true then
      qs ((ix places (0:Int))≠0) <|
      if (decide ((w (sum.tdiv (ix places (0:Int))))≤hi))=true then
       some true
      else
       if (decide ((ix places (0:Int))=(0:Int)))=true then
        some (decide (sum=(0:Int)))
       else
        some false
     else
      if (decide ((ix places (0:Int))=(0:Int)))=true then
       some (decide (sum=(0:Int)))
      else
       some false
    else
     if (decide ((ix places (0:Int))=(0:Int)))=true then
      some (decide (sum=(0:Int)))
     else
      some false
   else
    if (decide ((ix places (0:Int))=(0:Int)))=true then
     some (decide (sum=(0:Int)))
    else
     some false
  else
   Ou places lo hi sum rcF (fun _ =>
     some false) qi lo
def M7:Nat→qa→Int→Int→Int→Option Bool
 | 0=>fun _ _ _ _=>none
 | m+1=>fun places lo hi sum=>L0 (M7 m) places lo hi sum
def JO (places:qa) (lo hi sum:Int):Option Bool:=M7 qi places lo hi sum
theorem ajl {places:qa} {lo:Int} {hi:Int} {sum:Int} {rcF:(qa→Int→Int→Int→Option Bool)} {qc:Unit→Option Bool} {s1:Int} (SZ:∀ {rh:qa} {BD:Int} {BE:Int} {Oz:Int} {r:Bool},rcF rh BD BE Oz=some r→qw 83 [(.av (rh.map hX) rh.length .shared),(hX BD),(hX BE),(hX Oz)] (B r)) {v:Bool} {Q:cN→List I→List ar→Prop}   (jG:qL [.tmp 8] Q (fun v=>(B v)) v) (ra:∀ (qf:List I),qc ()=some v→rm 70 [] qf→Q (.exit 0) qf []) {T:List I} (bZ:eW (qd false [0,4,6,1,59]) T=qg 70 [(0,(.av (places.map hX) places.length .shared)),(1,(hX lo)),(2,(hX hi)),(3,(hX sum)),(10,(hX s1))]) (h:Ou places lo hi sum rcF qc qi s1=some v) :
  dN Tryz.prog QX 83 0 none Qw T [] Q:=by
 unfold Qw;refine wp_loop bZ ?_;refine .intro (fun m T H=>∃ (s1:Int),T=qg 70 [(0,(qz places .shared)),(1,(hX lo)),(2,(hX hi)),(3,(hX sum)),(10,(hX s1))]∧H=[]∧Ou places lo hi sum rcF qc m s1=some v) qi ⟨s1,rfl,rfl,h⟩ ?_;clear h bZ;rintro m T H ⟨s1,rfl,rfl,h⟩;cases m
 ·exact rA h
 rename_i m;rw [Ou.eq_2] at h;conv=>whnf
 refine bs h (fun HI h=>?_) fun HI h=>?_
 ·rw [HI];conv=>whnf
  refine qE h id fun Jh h=>?_;erw [YT hX places (1:Int) Jh];conv=>whnf
  refine qE h id fun Iq h=>?_;rw [rj hX places (0:Int) Iq];conv=>whnf
  obtain ⟨aS,Ji,h⟩:=p' h;refine ⟨qj.pl,_,SZ Ji,rC,?_⟩;conv=>whnf
  cases aS
  ·(conv=>whnf);replace h:=rq rfl h;exact ⟨m,sg m,(w (s1+(1:Int))),rfl,rfl,h⟩
  ·(conv=>whnf);replace h:=rp rfl h;exact qe h jG rfl rfl
 ·rw [HI];conv=>whnf
  exact ra  _ h ⟨rfl,rfl⟩
theorem ajk {rcF:qa→Int→Int→Int→Option Bool} (SZ:∀ {rh:qa} {BD:Int} {BE:Int} {Oz:Int} {r:Bool},rcF rh BD BE Oz=some r→qw 83 [(.av (rh.map hX) rh.length .shared),(hX BD),(hX BE),(hX Oz)] (B r)) {places:(List Int)} {lo:Int} {hi:Int} {sum:Int} {v:Bool} (h:L0 rcF places lo hi sum=some v):qw 83 [(.av (places.map hX) places.length .shared),(hX lo),(hX hi),(hX sum)] (B v):=by
 refine qO eD afs rfl rfl fun Q bo=>?_;have jG:qL [.tmp 8] Q (fun v=>(B v)) v:=fun T H bD=>bo _ T H bD;unfold L0 at h;unfold aaT;obtain ⟨r_,qD⟩:∃ c,Qw=c:=⟨_,rfl⟩;rw [qD];conv=>whnf
 refine bs h (fun gJ h=>?_) fun gJ h=>?_
 ·rw [gJ];conv=>whnf
  exact qe h jG rfl rfl
 ·rw [gJ];conv=>whnf
  refine bs h (fun gK h=>?_) fun gK h=>?_
  ·rw [gK];(conv=>whnf);refine qE h id fun qt h=>?_;rw [rj hX places (0:Int) qt];(conv=>whnf);refine bs h (fun qH h=>?_) fun qH h=>?_
   ·rw [qH];(conv=>whnf);refine qE h id fun qX h=>?_;(conv=>whnf);refine bs h (fun q9 h=>?_) fun q9 h=>?_
    ·rw [q9];(conv=>whnf);refine qE h id fun qS h=>?_;(conv=>whnf);refine bs h (fun re h=>?_) fun re h=>?_
     ·rw [re];(conv=>whnf);refine qE h id fun q_ h=>?_;(conv=>whnf);refine bs h (fun ry h=>?_) fun ry h=>?_
      ·rw [ry];(conv=>whnf);exact qe h jG rfl rfl
      ·rw [ry];(conv=>whnf);refine bs h (fun Hj h=>?_) fun Hj h=>?_
       ·rw [Hj];(conv=>whnf);exact qe h jG rfl rfl
       ·rw [Hj];(conv=>whnf);exact qe h jG rfl rfl
     ·rw [re];(conv=>whnf);refine bs h (fun Hq h=>?_) fun Hq h=>?_
      ·rw [Hq];(conv=>whnf);exact qe h jG rfl rfl
      ·rw [Hq];(conv=>whnf);exact qe h jG rfl rfl
    ·rw [q9];(conv=>whnf);refine bs h (fun Hw h=>?_) fun Hw h=>?_
     ·rw [Hw];(conv=>whnf);exact qe h jG rfl rfl
     ·rw [Hw];(conv=>whnf);exact qe h jG rfl rfl
   ·rw [qH];(conv=>whnf);refine bs h (fun H0 h=>?_) fun H0 h=>?_
    ·rw [H0];(conv=>whnf);exact qe h jG rfl rfl
    ·rw [H0];(conv=>whnf);exact qe h jG rfl rfl
  ·rw [gK];(conv=>whnf);subst qD;refine ajl SZ ?_ ?_ (by exact rfl) h
   ·exact fun T H bD=>jG T H bD
   ·intro  qf h qA;obtain ⟨rr,rfl⟩:=qA.ex;(conv=>whnf);exact qe h jG rfl rfl
theorem Z6:∀ (m:Nat) {places:qa} {lo:Int} {hi:Int} {sum:Int} {v:Bool},M7 m places lo hi sum=some v→qw 83 [(.av (places.map hX) places.length .shared),(hX lo),(hX hi),(hX sum)] (B v)
 | 0,_,_,_,_,_,h=>rA h
 | m+1,_,_,_,_,_,h=>ajk (rcF:=M7 m) (fun h=>Z6 m h) h
theorem TF {places:qa} {lo:Int} {hi:Int} {sum:Int} {v:Bool} (h:JO places lo hi sum=some v):qw 83 [(.av (places.map hX) places.length .shared),(hX lo),(hX hi),(hX sum)] (B v):=Z6 qi h

noncomputable def Qn:gB :=
 .loop (some (qd false [1,1,1,2,4,4,74])) (.seq (p5 [p6 17 12,p6 18 1,q2 19 18,qq 20 17 19 .lss] (.cond (.m_ 20) .skip (.exit 0))) (.seq (.block 1 (.seq (ri [p3 23 [.m_ 4] (.yM 0),qm 24 23,p6 25 1,p6 26 12,rn 27 25 26 1,qm 28 27,rn 29 24 28 2,p3 30 [.Bs 29] (.zE (.str 2)),p6 31 12,p6 32 1,q2 33 32,p3 34 [.cv (.func 82 [] []),.m_ 31,.m_ 33] (.call 3),p3 13 [] (.alloc [.int .i64 0,.int .i64 0]),⟨none,[.m_ 13,.jm 30],none,none,.st 2⟩,p4 14 34]) (p5 [p6 35 3,p6 36 12,qq 37 35 36 .shr,qv 38 37 1 .and,qv 39 38 1 .eql] (.cond (.m_ 39) (qF [p4 40 9,p4 41 14,p3 42 [.Bs 41] (.yB 1 1 [.int .i64 0] [0]),p3 43 [.jm 40,.jm 42] (.app 1 8),p4 9 43]) (ri [p4 44 10,p6 45 14,p3 46 [.m_ 13] (.yM 0),qm 47 46,qq 48 45 47 .mul,qq 49 44 48 .add,p4 50 11,p6 51 14,p3 52 [.m_ 13] (.yM 1),qm 53 52,qq 54 51 53 .mul,qq 55 50 54 .add,p4 10 49,p4 11 55]))))) (qF [p4 21 12,qW 22 21 2,p4 12 22])))
noncomputable def aaH:gB :=
 p5 [p3 4 [.jm 0] .box,p3 8 [.cv (.bool false)] .mR] (p5 [p3 9 [.cv (.av [] 0 .full)] (.nil 1)] (p5 [qh 10 0,qh 11 0] (.seq (p5 [p4 16 2,p4 12 16] (.block 0 Qn)) (p5 [p3 56 [.m_ 4] (.yM 1),qK 57 56 0,qm 58 57,p4 15 58] (.seq (p5 [p6 59 15,qK 60 4 1,qK 61 60 1,qm 62 61,qq 63 59 62 .eql] (.cond (.m_ 63) (p5 [p4 64 9,p6 65 15,p3 66 [.cv (.int .i64 (-10)),.Bs 65] (.bin .mul),p6 67 15,p3 68 [.cv (.int .i64 10),.Bs 67] (.bin .mul),p3 69 [.cv (.int .i64 100),.Bs 68] (.bin .add),p4 70 10,p3 71 [.Bs 70] (.un .neg),p4 72 11,p4 73 15,qq 74 72 73 .mul,qq 75 71 74 .sub,p3 76 [.cv (.func 83 [] []),.m_ 64,.m_ 66,.m_ 69,.m_ 75] (.call 3),p4 8 76] .ret) .skip)) (p5 [p6 77 9,p4 78 10,p3 79 [.Bs 78] (.un .neg),p3 80 [.cv (.func 83 [] []),.m_ 77,.cv (.int .i64 0),.cv (.int .i64 100),.m_ 79] (.call 3),p4 81 80,ch 82 [.jm 9] 81 true .mR,ch 83 [.jm 11] 81 true .mR,ch 84 [.Bs 83] 81 true (.un .neg),⟨some 85,[.cv (.func 83 [] []),.m_ 82,.cv (.int .i64 (-10)),.cv (.int .i64 10),.m_ 84],some (81,true),none,.call 3⟩,p3 86 [.Bs 81,.Bs 85,.cv (.bool false)] .pick,p4 8 86] .ret))))))
theorem afg:qu Tryz.prog QR 61=some (aaH,87,[.tmp 8]):=by qb
def K1 (p:(qk×(Int×Int))) (order:qa) (bits:Int) (qc:qa→Int→Int→Option Bool):Nat→qa→Int→Int→Int→Option Bool
 | 0,_,_,_,_=>none
 | m+1,s1,s2,dh,G' =>
   if (decide (G'<(order.length:Int)))=true then
    qs (0≤G'∧G'<(order.length:Int)) <|
    qs (0≤(ix order G')∧(ix order G')<(p.1.length:Int)) <|
    (LZ G' (order.length:Int)).bind fun aS =>
    qs (0≤G') <|
    if (decide ((w ((BitVec.ofInt IntKind.i64.bits (bits.fdiv (2 ^ (Nat.min G'.toNat IntKind.i64.bits))) &&& BitVec.ofInt IntKind.i64.bits (1:Int)).toNat:Int))=(1:Int)))=true then
     qs ((s1.length+1)*8≤140737488355328) <|
     K1 p order bits qc m (s1++[aS]) s2 dh (w (G'+(2:Int)))
    else
     K1 p order bits qc m s1 (w (s2+(w (aS*(ix p.1 (ix order G')).1)))) (w (dh+(w (aS*(ix p.1 (ix order G')).2)))) (w (G'+(2:Int)))
   else
    qc s1 s2 dh
def H7 (p:(qk×(Int×Int))) (order:qa) (qo bits:Int):Option Bool :=
 K1 p order bits (fun yn oS Gz =>
   if (decide (p.2.1=p.2.2))=true then
    (JO yn (w ((-10:Int)*p.2.1)) (w ((100:Int)+(w ((10:Int)*p.2.1)))) (w ((w (-oS))-(w (Gz*p.2.1))))).bind fun bh =>
    some bh
   else
    (JO yn (0:Int) (100:Int) (w (-oS))).bind fun eH =>
    if eH=true then
     (JO yn (-10:Int) (10:Int) (w (-Gz))).bind fun qQ =>
     some qQ
    else
     some false) qi ([]:List Int) (0:Int) (0:Int) qo
theorem ai8 {p:(qk×(Int×Int))} {order:qa} {bits:Int} {qc:qa→Int→Int→Option Bool} {s1:qa} {s2:Int} {dh:Int} {G':Int} {v:Bool} {Q:rS}   (ra:∀ (yn:qa) (oS Gz:Int) (Jt:List ar) (qf:List I),qc yn oS Gz=some v→rm 87 [(4,(.ptr 0 0)),(9,(qz yn (.uniq 1))),(10,(hX oS)),(11,(hX Gz))] qf→Q (.exit 0) qf (ar.cells [(qZ p.1 .shared),(hX p.2.1),(hX p.2.2)]::Jt)) {T:List I} (bZ:eW (qd false [1,1,1,2,4,4,74]) T=qg 87 [(1,(qz order .shared)),(3,(hX bits)),(4,(.ptr 0 0)),(9,(qz s1 (.uniq 1))),(10,(hX s2)),(11,(hX dh)),(12,(hX G'))]) (h:K1 p order bits qc qi s1 s2 dh G'=some v) :
  dN Tryz.prog QR 61 0 none Qn T [ar.cells [(qZ p.1 .shared),(hX p.2.1),(hX p.2.2)]] Q:=by
 unfold Qn;refine wp_loop bZ ?_;refine .intro (fun m T H=>∃ (s1:qa) (s2 dh G':Int) (T1:List ar),T=qg 87 [(1,(qz order .shared)),(3,(hX bits)),(4,(.ptr 0 0)),(9,(qz s1 (.uniq 1))),(10,(hX s2)),(11,(hX dh)),(12,(hX G'))]∧H=(ar.cells [(qZ p.1 .shared),(hX p.2.1),(hX p.2.2)]::T1)∧K1 p order bits qc m s1 s2 dh G'=some v) qi ⟨s1,s2,dh,G',[],rfl,rfl,h⟩ ?_;clear h bZ;rintro m T H ⟨s1,s2,dh,G',T1,rfl,rfl,h⟩;cases m
 ·exact rA h
 rename_i m;rw [K1.eq_2] at h;conv=>whnf
 refine bs h (fun gJ h=>?_) fun gJ h=>?_
 ·rw [gJ];conv=>whnf
  refine qE h id fun gK h=>?_;rw [rj hX order G' gK];conv=>whnf
  refine qE h id fun qt h=>?_;rw [IZ p_ 2 Lq p.1 (ix order G') qt];conv=>whnf
  obtain ⟨aS,qH,h⟩:=p' h;refine ⟨(p7 rfl (p7 rfl rfl)),_,Z5 qH,rC,?_⟩;conv=>whnf
  refine Ew (x:=ar.cells [(hX (0:Int)),(hX (0:Int))]) (by first | exact q7.h | rfl | (simp [sr,I.settle];done)) ?_
  conv=>whnf
  rw [HK];refine qE h id fun qX h=>?_;conv=>whnf
  refine bs h (fun q9 h=>?_) fun q9 h=>?_
  ·rw [q9];(conv=>whnf);obtain ⟨qS,h⟩:=rW h;refine ⟨by first | rfl | simp,by have:=qS;omega,rfl,qS,?_⟩
   erw [L7 hX s1 aS];(conv=>whnf);exact ⟨m,sg m,(s1++[aS]),s2,dh,(w (G'+(2:Int))),_,rfl,rfl,h⟩
  ·rw [q9];(conv=>whnf);refine Ew (x:=ar.cells [(hX (ix p.1 (ix order G')).1),(hX (ix p.1 (ix order G')).2)]) (by first | exact q7.h | rfl | (simp [sr,I.settle];done)) ?_
   (conv=>whnf);refine Ew (x:=ar.cells [(hX (ix p.1 (ix order G')).1),(hX (ix p.1 (ix order G')).2)]) (by first | exact q7.h | rfl | (simp [sr,I.settle];done)) ?_
   (conv=>whnf);exact ⟨m,sg m,s1,(w (s2+(w (aS*(ix p.1 (ix order G')).1)))),(w (dh+(w (aS*(ix p.1 (ix order G')).2)))),(w (G'+(2:Int))),_,rfl,rfl,h⟩
 ·rw [gJ];conv=>whnf
  exact ra _ _ _ _ _ h ⟨rfl,rfl⟩
theorem LU {p:(qk×(Int×Int))} {order:qa} {qo:Int} {bits:Int} {v:Bool} (h:H7 p order qo bits=some v):qw 61 [(.agg [(.av (p.1.flatMap p_) p.1.length .shared),(hX p.2.1),(hX p.2.2)]),(.av (order.map hX) order.length .shared),(hX qo),(hX bits)] (B v):=by
 refine qO eD afg rfl rfl fun Q bo=>?_;have jG:qL [.tmp 8] Q (fun v=>(B v)) v:=fun T H bD=>bo _ T H bD;unfold H7 at h;unfold aaH;obtain ⟨r_,qD⟩:∃ c,Qn=c:=⟨_,rfl⟩;rw [qD];conv=>whnf
 subst qD;refine ai8 ?_ (by exact rfl) h;intro yn oS Gz Jt qf h qA;obtain ⟨rr,rfl⟩:=qA.ex;conv=>whnf
 refine bs h (fun re h=>?_) fun re h=>?_
 ·rw [re];conv=>whnf
  obtain ⟨bh,q_,h⟩:=p' h;refine ⟨qj.pl,_,TF q_,?_⟩;conv=>whnf
  exact qe h jG rfl rfl
 ·rw [re];conv=>whnf
  obtain ⟨eH,ry,h⟩:=p' h;refine ⟨qj.pl,_,TF ry,?_⟩;conv=>whnf
  cases eH
  ·(conv=>whnf);replace h:=rq rfl h;exact qe h jG rfl rfl
  ·(conv=>whnf);replace h:=rp rfl h;obtain ⟨qQ,Hj,h⟩:=p' h;refine ⟨qj.pl,_,TF Hj,?_⟩;(conv=>whnf);exact qe h jG rfl rfl

noncomputable def Qy:gB :=
 .loop (some (qd false [0,1,2,2,11])) (.seq (p5 [p6 5 4,qv 6 5 8 .lss] (.cond (.m_ 6) .skip (.exit 0))) (.seq (.block 1 (qF [p4 9 3,p6 10 0,p6 11 4,qq 12 10 11 .shr,qv 13 12 1 .and,qq 14 9 13 .add,p4 3 14])) (qF [p4 7 4,qW 8 7 1,p4 4 8])))
noncomputable def aaW:gB :=
 p5 [qh 2 0] (p5 [qh 3 0] (.seq (p5 [qh 4 0] (.block 0 Qy)) (p5 [p4 15 3,p4 2 15] .ret)))
theorem afv:qu Tryz.prog QZ 89=some (aaW,16,[.tmp 2]):=by qb
def L1 (bits:Int) (qc:Int→Option Int):Nat→Int→Int→Option Int
 | 0,_,_=>none
 | m+1,s1,s2 =>
   if (decide (s2<(8:Int)))=true then
    qs (0≤s2) <|
    L1 bits qc m (w (s1+(w ((BitVec.ofInt IntKind.i64.bits (bits.fdiv (2 ^ (Nat.min s2.toNat IntKind.i64.bits))) &&& BitVec.ofInt IntKind.i64.bits (1:Int)).toNat:Int)))) (w (s2+(1:Int)))
   else
    qc s1
def Ox (bits:Int):Option Int :=
 L1 bits (fun yn =>
   some yn) qi (0:Int) (0:Int)
theorem ajs {bits:Int} {qc:Int→Option Int} {s1:Int} {s2:Int} {v:Int} {Q:rS}   (ra:∀ (yn:Int) (qf:List I),qc yn=some v→rm 16 [(3,(hX yn))] qf→Q (.exit 0) qf []) {T:List I} (bZ:eW (qd false [0,1,2,2,11]) T=qg 16 [(0,(hX bits)),(3,(hX s1)),(4,(hX s2))]) (h:L1 bits qc qi s1 s2=some v) :
  dN Tryz.prog QZ 89 0 none Qy T [] Q:=by
 unfold Qy;refine wp_loop bZ ?_;refine .intro (fun m T H=>∃ (s1 s2:Int),T=qg 16 [(0,(hX bits)),(3,(hX s1)),(4,(hX s2))]∧H=[]∧L1 bits qc m s1 s2=some v) qi ⟨s1,s2,rfl,rfl,h⟩ ?_;clear h bZ;rintro m T H ⟨s1,s2,rfl,rfl,h⟩;cases m
 ·exact rA h
 rename_i m;rw [L1.eq_2] at h;conv=>whnf
 refine bs h (fun gJ h=>?_) fun gJ h=>?_
 ·rw [gJ];conv=>whnf
  refine qE h id fun gK h=>?_;conv=>whnf
  exact ⟨m,sg m,(w (s1+(w ((BitVec.ofInt IntKind.i64.bits (bits.fdiv (2 ^ (Nat.min s2.toNat IntKind.i64.bits))) &&& BitVec.ofInt IntKind.i64.bits (1:Int)).toNat:Int)))),(w (s2+(1:Int))),rfl,rfl,h⟩
 ·rw [gJ];conv=>whnf
  exact ra _ _ h ⟨rfl,rfl⟩
theorem ajt {bits:Int} {v:Int} (h:Ox bits=some v):qw 89 [(hX bits)] (hX v):=by
 refine qO eD afv rfl rfl fun Q bo=>?_;have jG:qL [.tmp 2] Q (fun v=>(hX v)) v:=fun T H bD=>bo _ T H bD;unfold Ox at h;unfold aaW;obtain ⟨r_,qD⟩:∃ c,Qy=c:=⟨_,rfl⟩;rw [qD];conv=>whnf
 subst qD;refine ajs ?_ (by exact rfl) h;intro yn qf h qA;obtain ⟨rr,rfl⟩:=qA.ex;conv=>whnf
 exact qe h jG rfl rfl

noncomputable def Qs:gB :=
 .loop (some (qd false [1,3,3,4,46])) (.seq (p5 [p6 22 10,p6 23 1,q2 24 23,qq 25 22 24 .lss] (.cond (.m_ 25) .skip (.exit 4))) (.seq (.block 5 (qF [p4 28 9,p4 29 28,ch 30 [.m_ 8] 29 true .mR,ch 31 [.m_ 10] 29 true .mR,ch 32 [.Bs 30,.Bs 31] 29 true (.bin .shr),ch 33 [.Bs 32,.cv (.int .i64 1)] 29 true (.bin .and),ch 34 [.Bs 33,.cv (.int .i64 0)] 29 true (.bin .eql),ch 35 [.jm 34] 29 true .mR,ch 36 [.m_ 10] 35 false .mR,ch 37 [.Bs 36,.cv (.int .i64 2)] 35 false (.bin .rem),ch 38 [.m_ 2] 35 false .mR,ch 39 [.Bs 37,.Bs 38] 35 false (.bin .eql),ch 40 [.Bs 35,.cv (.bool true),.Bs 39] 29 true .pick,p3 41 [.Bs 29,.Bs 40,.cv (.bool false)] .pick,p4 9 41])) (qF [p4 26 10,qW 27 26 1,p4 10 27])))
noncomputable def Qt:gB :=
 .loop (some (qd false [1,3,3,2,48])) (.seq (p5 [p6 15 8,p6 16 1,q2 17 16,p3 18 [.cv (.int .i64 1),.Bs 17] (.bin .shl),qq 19 15 18 .lss] (.cond (.m_ 19) .skip (.exit 2))) (.seq (.block 3 (p5 [p3 9 [.cv (.bool true)] .mR] (.seq (p5 [qh 10 0] (.block 4 Qs)) (p5 [p4 42 9,p4 43 42,ch 44 [.m_ 8] 43 true .mR,⟨some 45,[.cv (.func 89 [] []),.m_ 44],some (43,true),none,.call 3⟩,ch 46 [.m_ 7] 43 true .mR,ch 47 [.Bs 45,.Bs 46] 43 true (.bin .eql),p3 48 [.Bs 43,.Bs 47,.cv (.bool false)] .pick,p4 49 48,ch 50 [.m_ 3] 49 true (.zE (.str 3)),ch 51 [.m_ 1] 49 true .mR,ch 52 [.m_ 2] 49 true .mR,ch 53 [.m_ 8] 49 true .mR,⟨some 54,[.cv (.func 61 [] []),.m_ 50,.m_ 51,.m_ 52,.m_ 53],some (49,true),none,.call 3⟩,p3 55 [.Bs 49,.Bs 54,.cv (.bool false)] .pick] (.cond (.m_ 55) (p5 [p4 56 7,p4 6 56] .ret) .skip))))) (qF [p4 20 8,qW 21 20 1,p4 8 21])))
noncomputable def Qu:gB :=
 .loop (some (qd false [1,3,3,1,49])) (.seq (p5 [p6 11 7,qv 12 11 2 .lss] (.cond (.m_ 12) .skip (.exit 0))) (.seq (.block 1 (p5 [qh 8 0] (.block 2 Qt))) (qF [p4 13 7,qW 14 13 1,p4 7 14])))
noncomputable def aaP:gB :=
 p5 [p3 3 [.jm 0] .box,qh 6 0] (.seq (p5 [qh 7 0] (.block 0 Qu)) (p5 [qh 6 2] .ret))
theorem afo:qu Tryz.prog Nd 75=some (aaP,57,[.tmp 6]):=by qb
def Ko (order:qa) (qo s2:Int) (Hf:Bool→Option Int):Nat→Bool→Int→Option Int
 | 0,_,_=>none
 | m+1,dh,G' =>
   if (decide (G'<(order.length:Int)))=true then
    if dh=true then
     qs (0≤G') <|
     if (decide ((w ((BitVec.ofInt IntKind.i64.bits (s2.fdiv (2 ^ (Nat.min G'.toNat IntKind.i64.bits))) &&& BitVec.ofInt IntKind.i64.bits (1:Int)).toNat:Int))=(0:Int)))=true then
      Ko order qo s2 Hf m dh (w (G'+(1:Int)))
     else
      qs ((2:Int)≠0) <|
      Ko order qo s2 Hf m (decide ((G'.tmod (2:Int))=qo)) (w (G'+(1:Int)))
    else
     Ko order qo s2 Hf m dh (w (G'+(1:Int)))
   else
    Hf dh
def Kn (p:(qk×(Int×Int))) (order:qa) (qo s1:Int) (qU:Unit→Option Int):Nat→Int→Option Int
 | 0,_=>none
 | m+1,s2 =>
   qs (0≤(order.length:Int)) <|
   if (decide (s2<(w ((1:Int)*2 ^ (Nat.min (order.length:Int).toNat 64)))))=true then
    Ko order qo s2 (fun yn =>
      if yn=true then
       (Ox s2).bind fun aS =>
       if (decide (aS=s1))=true then
        (H7 p order qo s2).bind fun bh =>
        if bh=true then
         some s1
        else
         Kn p order qo s1 qU m (w (s2+(1:Int)))
       else
        Kn p order qo s1 qU m (w (s2+(1:Int)))
      else
       Kn p order qo s1 qU m (w (s2+(1:Int)))) qi true (0:Int)
   else
    qU ()
def JX (p:(qk×(Int×Int))) (order:qa) (qo:Int) (qc:Unit→Option Int):Nat→Int→Option Int
 | 0,_=>none
 | m+1,s1 =>
   if (decide (s1<(2:Int)))=true then
    Kn p order qo s1 (fun _ =>
      JX p order qo qc m (w (s1+(1:Int)))) qi (0:Int)
   else
    qc ()
def M5 (p:(qk×(Int×Int))) (order:qa) (qo:Int):Option Int :=
 JX p order qo (fun _ =>
   some (2:Int)) qi (0:Int)
theorem ajg {order:qa} {qo:Int} {s2:Int} {Hf:Bool→Option Int} {dh:Bool} {G':Int} {p:(qk×(Int×Int))} {s1:Int} {v:Int} {Q:rS}   (NB:∀ (yn:Bool) (qf:List I),Hf yn=some v→rm 57 [(1,(qz order .shared)),(2,(hX qo)),(3,(.ptr 0 0)),(7,(hX s1)),(8,(hX s2)),(9,(B yn))] qf→Q (.exit 4) qf [ar.cells [(qZ p.1 .shared),(hX p.2.1),(hX p.2.2)]]) {T:List I} (bZ:eW (qd false [1,3,3,4,46]) T=qg 57 [(1,(qz order .shared)),(2,(hX qo)),(3,(.ptr 0 0)),(7,(hX s1)),(8,(hX s2)),(9,(B dh)),(10,(hX G'))]) (h:Ko order qo s2 Hf qi dh G'=some v) :
  dN Tryz.prog Nd 75 0 none Qs T [ar.cells [(qZ p.1 .shared),(hX p.2.1),(hX p.2.2)]] Q:=by
 unfold Qs;refine wp_loop bZ ?_;refine .intro (fun m T H=>∃ (dh:Bool) (G':Int),T=qg 57 [(1,(qz order .shared)),(2,(hX qo)),(3,(.ptr 0 0)),(7,(hX s1)),(8,(hX s2)),(9,(B dh)),(10,(hX G'))]∧H=[ar.cells [(qZ p.1 .shared),(hX p.2.1),(hX p.2.2)]]∧Ko order qo s2 Hf m dh G'=some v) qi ⟨dh,G',rfl,rfl,h⟩ ?_;clear h bZ;rintro m T H ⟨dh,G',rfl,rfl,h⟩;cases m
 ·exact rA h
 rename_i m;rw [Ko.eq_2] at h;conv=>whnf
 refine bs h (fun qH h=>?_) fun qH h=>?_
 ·rw [qH];conv=>whnf
  cases dh
  ·(conv=>whnf);replace h:=rq rfl h;exact ⟨m,sg m,_,(w (G'+(1:Int))),rfl,rfl,h⟩
  ·(conv=>whnf);replace h:=rp rfl h;refine qE h id fun qX h=>?_;(conv=>whnf);refine bs h (fun q9 h=>?_) fun q9 h=>?_
   ·rw [q9];(conv=>whnf);exact ⟨m,sg m,_,(w (G'+(1:Int))),rfl,rfl,h⟩
   ·rw [q9];(conv=>whnf);refine qE h id fun qS h=>?_;(conv=>whnf);exact ⟨m,sg m,(decide ((G'.tmod (2:Int))=qo)),(w (G'+(1:Int))),rfl,rfl,h⟩
 ·rw [qH];conv=>whnf
  exact NB _ _ h ⟨rfl,rfl⟩
theorem ajf {p:(qk×(Int×Int))} {order:qa} {qo:Int} {s1:Int} {qU:Unit→Option Int} {s2:Int} {v:Int} {Q:rS}   (jG:qL [.tmp 6] Q (fun v=>(hX v)) v) (I4:∀ (qf:List I),qU ()=some v→rm 57 [(1,(qz order .shared)),(2,(hX qo)),(3,(.ptr 0 0)),(7,(hX s1))] qf→Q (.exit 2) qf [ar.cells [(qZ p.1 .shared),(hX p.2.1),(hX p.2.2)]]) {T:List I} (bZ:eW (qd false [1,3,3,2,48]) T=qg 57 [(1,(qz order .shared)),(2,(hX qo)),(3,(.ptr 0 0)),(7,(hX s1)),(8,(hX s2))]) (h:Kn p order qo s1 qU qi s2=some v) :
  dN Tryz.prog Nd 75 0 none Qt T [ar.cells [(qZ p.1 .shared),(hX p.2.1),(hX p.2.2)]] Q:=by
 unfold Qt;obtain ⟨r_,qD⟩:∃ c,Qs=c:=⟨_,rfl⟩;rw [qD];refine wp_loop bZ ?_;refine .intro (fun m T H=>∃ (s2:Int),T=qg 57 [(1,(qz order .shared)),(2,(hX qo)),(3,(.ptr 0 0)),(7,(hX s1)),(8,(hX s2))]∧H=[ar.cells [(qZ p.1 .shared),(hX p.2.1),(hX p.2.2)]]∧Kn p order qo s1 qU m s2=some v) qi ⟨s2,rfl,rfl,h⟩ ?_;clear h bZ;rintro m T H ⟨s2,rfl,rfl,h⟩;cases m
 ·exact rA h
 rename_i m;rw [Kn.eq_2] at h;conv=>whnf
 refine qE h id fun gK h=>?_;conv=>whnf
 refine bs h (fun qt h=>?_) fun qt h=>?_
 ·erw [qt];conv=>whnf
  subst qD;refine ajg ?_ (by exact rfl) h;intro yn qf h qA;obtain ⟨rr,rfl⟩:=qA.ex;conv=>whnf
  cases yn
  ·(conv=>whnf);replace h:=rq rfl h;exact ⟨m,sg m,(w (s2+(1:Int))),rfl,rfl,h⟩
  ·(conv=>whnf);replace h:=rp rfl h;obtain ⟨aS,re,h⟩:=p' h;refine ⟨(p7 rfl rfl),_,ajt re,?_⟩;(conv=>whnf);refine bs h (fun q_ h=>?_) fun q_ h=>?_
   ·rw [q_];(conv=>whnf);obtain ⟨bh,ry,h⟩:=p' h;refine ⟨qj.pl,_,LU ry,?_⟩;(conv=>whnf);cases bh
    ·(conv=>whnf);replace h:=rq rfl h;exact ⟨m,sg m,(w (s2+(1:Int))),rfl,rfl,h⟩
    ·(conv=>whnf);replace h:=rp rfl h;exact qe h jG rfl rfl
   ·rw [q_];(conv=>whnf);exact ⟨m,sg m,(w (s2+(1:Int))),rfl,rfl,h⟩
 ·erw [qt];conv=>whnf
  exact I4  _ h ⟨rfl,rfl⟩
theorem aje {p:(qk×(Int×Int))} {order:qa} {qo:Int} {qc:Unit→Option Int} {s1:Int} {v:Int} {Q:rS}   (jG:qL [.tmp 6] Q (fun v=>(hX v)) v) (ra:∀ (bw:ar) (qf:List I),qc ()=some v→rm 57 [] qf→Q (.exit 0) qf [bw]) {T:List I} (bZ:eW (qd false [1,3,3,1,49]) T=qg 57 [(1,(qz order .shared)),(2,(hX qo)),(3,(.ptr 0 0)),(7,(hX s1))]) (h:JX p order qo qc qi s1=some v) :
  dN Tryz.prog Nd 75 0 none Qu T [ar.cells [(qZ p.1 .shared),(hX p.2.1),(hX p.2.2)]] Q:=by
 unfold Qu;obtain ⟨J3,rO⟩:∃ c,Qt=c:=⟨_,rfl⟩;rw [rO];refine wp_loop bZ ?_;refine .intro (fun m T H=>∃ (s1:Int),T=qg 57 [(1,(qz order .shared)),(2,(hX qo)),(3,(.ptr 0 0)),(7,(hX s1))]∧H=[ar.cells [(qZ p.1 .shared),(hX p.2.1),(hX p.2.2)]]∧JX p order qo qc m s1=some v) qi ⟨s1,rfl,rfl,h⟩ ?_;clear h bZ;rintro m T H ⟨s1,rfl,rfl,h⟩;cases m
 ·exact rA h
 rename_i m;rw [JX.eq_2] at h;conv=>whnf
 refine bs h (fun gJ h=>?_) fun gJ h=>?_
 ·rw [gJ];conv=>whnf
  subst rO;refine ajf ?_ ?_ (by exact rfl) h
  ·exact fun T H bD=>jG T H bD
  ·intro  qf h qA;obtain ⟨rr,rfl⟩:=qA.ex;(conv=>whnf);exact ⟨m,sg m,(w (s1+(1:Int))),rfl,rfl,h⟩
 ·rw [gJ];conv=>whnf
  exact ra _ _ h ⟨rfl,rfl⟩
theorem Z4 {p:(qk×(Int×Int))} {order:qa} {qo:Int} {v:Int} (h:M5 p order qo=some v):qw 75 [(.agg [(.av (p.1.flatMap p_) p.1.length .shared),(hX p.2.1),(hX p.2.2)]),(.av (order.map hX) order.length .shared),(hX qo)] (hX v):=by
 refine qO eD afo rfl rfl fun Q bo=>?_;have jG:qL [.tmp 6] Q (fun v=>(hX v)) v:=fun T H bD=>bo _ T H bD;unfold M5 at h;unfold aaP;obtain ⟨Q4,Jx⟩:∃ c,Qu=c:=⟨_,rfl⟩;rw [Jx];conv=>whnf
 subst Jx;refine aje ?_ ?_ (by exact rfl) h
 ·exact fun T H bD=>jG T H bD
 ·intro bw qf h qA;obtain ⟨rr,rfl⟩:=qA.ex;conv=>whnf
  exact qe h jG rfl rfl
end Go.Proofs.YtkoioidpbbbaiaaGreat.Ab


namespace Go.Proofs.YtkoioidpbbbaiaaGreat.Ab
open Go
set_option maxRecDepth 20000
set_option maxHeartbeats 1000000
def r8 (p:qn) (o:List Int) (a:Nat):Prop:=rv p o a p.2.1=0∧rv p o a p.2.2=0
instance (p:qn) (o:List Int) (a:Nat):Decidable (r8 p o a):=by unfold r8;exact inferInstance
def I1 (p:qn) (o:List Int) (a i:Nat) (s:qN):Prop :=
 qJ p.1 o a [(i:Int)] (rf p.2.1)+qI o.length i*rf p.2.1 s=0∧qJ p.1 o a [(i:Int)] (rf p.2.2)+qI o.length i*rf p.2.2 s=0
instance (p:qn) (o:List Int) (a i:Nat) (s:qN):Decidable (I1 p o a i s):=by unfold I1;exact inferInstance
def Jl (t:Nat):qN:=(((t % 101:Nat):Int),((t / 101:Nat):Int)-10)
theorem YQ {t:Nat} (h:t<2121):q3 (Jl t):=by unfold q3 Jl;simp only;omega
theorem YP {s:qN} (h:q3 s):∃ t,t<2121∧Jl t=s:=by
 obtain ⟨ab,ae,aF,ba⟩:=h;refine ⟨(s.2+10).toNat*101+s.1.toNat,by omega,?_⟩;unfold Jl;exact Prod.ext (by simp only;omega) (by simp only;omega)
def H_ (p:qn) (o:List Int) (a i:Nat):Prop:=∃ t,t<2121∧I1 p o a i (Jl t)
instance (p:qn) (o:List Int) (a i:Nat):Decidable (H_ p o a i):=by unfold H_;exact inferInstance
theorem L_ {p:qn} {o:List Int} {a i:Nat}:H_ p o a i↔∃ s,q3 s∧I1 p o a i s:=by
 constructor
 ·rintro ⟨t,ab,ae⟩;exact ⟨_,YQ ab,ae⟩
 ·rintro ⟨s,ab,ae⟩;obtain ⟨t,aF,rfl⟩:=YP ab;exact ⟨t,aF,ae⟩
theorem N9 {L H U V:Int} (h:L=H):(U+V*L=0∧U+V*H=0)↔U+V*L=0:=by subst h;simp
theorem Ly {L H U V:Int} (h:L≠H):(U+V*L=0∧U+V*H=0)↔U=0∧V=0:=by
 constructor
 ·rintro ⟨ab,ae⟩;have aF:V*(H-L)=0:=by grind
  rcases Int.mul_eq_zero.1 aF with ba | ba
  ·subst ba;simp at ab;exact ⟨ab,rfl⟩
  ·omega
 ·rintro ⟨rfl,rfl⟩;simp
theorem OQ {p:qn} {o:List Int} {a:Nat}:r8 p o a↔qJ p.1 o a [] Prod.fst+qJ p.1 o a [] Prod.snd*p.2.1=0∧qJ p.1 o a [] Prod.fst+qJ p.1 o a [] Prod.snd*p.2.2=0:=by
 unfold r8 rv;rw [←NK,←NK,Mo,Mo]
theorem Rf {p:qn} {o:List Int} {a i:Nat} {s:qN}:I1 p o a i s ↔
  (qJ p.1 o a [(i:Int)] Prod.fst+qI o.length i*s.1)+(qJ p.1 o a [(i:Int)] Prod.snd+qI o.length i*s.2)*p.2.1=0 ∧
  (qJ p.1 o a [(i:Int)] Prod.fst+qI o.length i*s.1)+(qJ p.1 o a [(i:Int)] Prod.snd+qI o.length i*s.2)*p.2.2=0:=by
 unfold I1;rw [Mo,Mo];have e:∀ (U V x c d D:Int),U+V*D+x*(c+d*D)=(U+x*c)+(V+x*d)*D:=fun U V x c d D=>by grind
 unfold rf;rw [e,e]
section
variable {p:qn} {o:List Int}
theorem ZU (h:rk p) (k:qB p.1.length o) {a:Nat}:Ix (p,()) o (a:Int) []=some ([],decide (r8 p o a)):=by
 have hle:=h.le;have bC:=h.lo;have GO:=h.hi;unfold Ix;rw [P5 (b:=(p,())) (W:=[]) h.s (rY k) (qB.len h k) k.1.symm (by simp),sc];have a7:=Nj (a:=a) (W:=[]) h.s (rY k) (qB.len h k);have a9:=N5 (a:=a) (W:=[]) h.s (rY k) (qB.len h k);have br:=Hz (b:=p.2.1) (B:=50) a9 (by omega);simp only;rw [qG (n:=qJ p.1 o a [] Prod.snd*p.2.1) (by omega),qG (by omega)];congr 2;rw [tA];simp only [tC,su,decide_eq_true_eq,Prod.mk.injEq];rw [OQ];by_cases he:p.2.1=p.2.2
 ·rw [N9 he];constructor
  ·rintro (⟨ab,ae⟩ | ⟨_,ab⟩)
   ·rw [ab,ae];simp
   ·exact ab
  ·exact fun ab=>.inr ⟨he,ab⟩
 ·rw [Ly he];constructor
  ·rintro (ab | ⟨ab,_⟩)
   ·exact ab
   ·exact absurd ab he
  ·exact .inl
theorem afI {s:ru×Nat} {k v:rb} {e:Nat×rb×rb} (h:e∈(HU s k v).1):(e.2.1=k∧e.2.2=v)∨e∈s.1:=by
 unfold HU at h;split at h
 ·obtain ⟨x,aj,rfl⟩:=sH.1 h;by_cases al:k=x.2.1
  ·rw [if_pos al];exact .inl ⟨rfl,rfl⟩
  ·rw [if_neg al];exact .inr aj
 ·rcases sU.1 h with h | h
  ·exact .inr h
  ·obtain rfl:=sK.1 h;exact .inl ⟨rfl,rfl⟩
theorem afJ (s:ru×Nat) (k v:rb):∃ e∈(HU s k v).1,e.2.1=k:=by
 unfold HU;split
 ·rename_i h;obtain ⟨x,aj,al⟩:=List.any_eq_true.1 h;exact ⟨_,tn aj,by rw [if_pos (of_decide_eq_true al)]⟩
 ·exact ⟨(s.2,k,v),by simp,rfl⟩
theorem afK {s:ru×Nat} {k v:rb} {e:Nat×rb×rb} (h:e∈s.1):∃ cS∈(HU s k v).1,cS.2.1=e.2.1:=by
 unfold HU;split
 ·refine ⟨_,tn h,?_⟩;by_cases al:k=e.2.1
  ·rw [if_pos al];exact al
  ·rw [if_neg al]
 ·exact ⟨e,by simp [h],rfl⟩
theorem YY (lo hi x:Int):∀ (t:Nat) (e:Nat×rb×rb),e∈(Hl lo hi x t).1→∃ iB,iB<t∧e.2.2=Jl iB∧e.2.1=H3 lo hi x (Jl iB).2 (Jl iB).1
 | 0,e,h=>by simp [Hl] at h
 | t+1,e,h=>by
   unfold Hl at h;rcases afI h with ⟨ab,ae⟩ | ab
   ·exact ⟨t,by omega,ae,ab⟩
   ·obtain ⟨iB,ae,aF⟩:=YY lo hi x t e ab;exact ⟨iB,by omega,aF⟩
theorem S6 (lo hi x:Int):∀ (t iB:Nat),iB<t→∃ e∈(Hl lo hi x t).1,e.2.1=H3 lo hi x (Jl iB).2 (Jl iB).1
 | 0,_,h=>absurd h (by omega)
 | t+1,iB,h=>by
   unfold Hl;by_cases e:iB=t
   ·subst e;exact afJ _ _ _
   ·obtain ⟨e1,ab,ae⟩:=S6 lo hi x t iB (by omega);obtain ⟨b9,aF,ba⟩:=afK (k:=H3 lo hi x ((t / 101:Nat)-10) ((t % 101:Nat))) (v:=((t % 101:Nat),(t / 101:Nat)-10)) ab;exact ⟨b9,aF,ba.trans ae⟩
theorem aeB {A:ru} {k:rb} (h:JD A k=none):∀ e∈A,e.2.1≠k:=by
 unfold JD at h;rw [Option.map_eq_none_iff,List.find?_eq_none] at h;intro e he al;exact h e he (decide_eq_true al.symm)
theorem aeC {A:ru} {k v:rb} (h:JD A k=some v):∃ e∈A,e.2.1=k∧e.2.2=v:=by
 unfold JD at h;obtain ⟨e,ab,ae⟩:=Option.map_eq_some_iff.1 h;have aF:=List.find?_some ab;exact ⟨e,List.mem_of_find?_eq_some ab,(of_decide_eq_true aF).symm,ae⟩
theorem V' {L H x:Int} {s:qN} (aj:-10≤x∧x≤10) (ah:q3 s) (fm:0≤L∧L≤50):H3 L H x s.2 s.1=if L=H then (x*rf L s,0) else (x*s.1,x*s.2):=by
 have af:=L8 ah fm;obtain ⟨ab,ae,aF,ba⟩:=ah;have bl:=Hz (a:=s.2) (b:=L) (A:=10) (B:=50) (by omega) (by omega);have cr:=Hz (a:=x) (b:=rf L s) (A:=10) (B:=600) aj (by omega);have eY:=Hz (a:=x) (b:=s.1) (A:=10) (B:=100) aj (by omega);have lN:=Hz (a:=x) (b:=s.2) (A:=10) (B:=10) aj (by omega);unfold H3;rw [qG (n:=s.2*L) (by omega),show s.1+s.2*L=rf L s from rfl,qG (n:=rf L s) (by omega),qG (n:=x*rf L s) (by omega),qG (n:=x*s.1) (by omega),qG (n:=x*s.2) (by omega)]
def Ib (lo:Int) (s:qN):Int:=max (max s.1 (rf lo s)) (-(rf lo s))
def HL:List Int→Int
 | []=>0
 | x::r=>x+HL r
theorem Y6:∀ (a b:List Int),HL (a++b)=HL a+HL b
 | [],b=>by simp [HL]
 | x::a,b=>by simp only [List.cons_append,HL,Y6 a b];omega
theorem ahI {a b:List Int} (h:a.Perm b):HL a=HL b:=by
 induction h with
 | nil=>rfl
 | cons x _ a8=>simp only [HL,a8]
 | swap x y l=>simp only [HL];omega
 | trans _ _ ab ae=>exact ab.trans ae
theorem Y4 {α:Type} [Inhabited α] (g:α→Int) (l:List α):∀ (k:Nat),k≤l.length→q6 k (fun i=>g (ix l (i:Int)))=HL ((l.take k).map g)
 | 0,_=>rfl
 | k+1,h=>by
   rw [List.take_succ_eq_append_getElem (by omega),sR,Y6,←Y4 g l k (by omega)];simp only [q6,sI,List.map_nil,HL];rw [rI (by omega)];omega
theorem S9 {α:Type} [Inhabited α] (g:α→Int) (l:List α):q6 l.length (fun i=>g (ix l (i:Int)))=HL (l.map g):=by
 rw [Y4 g l _ (se _),List.take_length]
theorem RQ {n i:Nat} (h:i<n):ix (qp n) (i:Int)=(i:Int):=by
 rw [rI (by simpa [qp] using h)];simp [qp]
theorem LB (n:Nat):(qp n).length=n:=by simp [qp]
theorem Y3 {S:List qN} {o:List Int} (k:qB S.length o) (g:qN→Int):q6 o.length (fun i=>g (qP S o i))=HL (S.map g):=by
 have e1:=S9 (fun j=>g (ix S j)) o;have b9:=S9 (fun j=>g (ix S j)) (qp S.length);have dx:=S9 g S;rw [ahI ((Lo.1 k).map _),←b9,LB] at e1;rw [←dx];refine e1.trans (N7 fun i hi=>?_);simp only [RQ hi]
theorem ahH {n:Nat} {g f:Nat→Int} (e:∀ i,i<n → -(f i)≤g i∧g i≤f i):-(q6 n f)≤q6 n g∧q6 n g≤q6 n f:=by
 induction n with
 | zero=>simp [q6]
 | succ n a8 =>
   have ab:=a8 fun i hi=>e i (by omega);have ae:=e n (by omega);simp only [q6];omega
theorem OU {lo:Int} {s:qN} (ah:q3 s) (ao:0≤lo∧lo≤50):0≤Ib lo s∧Ib lo s≤600:=by
 have ab:=L8 ah ao;have ae:=ah.1;have aF:=ah.2.1;unfold Ib;omega
theorem W0 {far lo:Int} (aP:0≤far∧far≤10) (ao:0≤lo∧lo≤50):∀ (l:List qN) (n:Int),(∀ s∈l,q3 s)→0≤n→n+6000*l.length≤1000000→Jj far lo l n=n+far*HL (l.map (Ib lo))
 | [],n,_,_,_=>by simp [Jj,HL]
 | s::r,n,ah,aI,af=>by
   have al:=ah s (by simp);have db:=L8 al ao;have bl:=Hz (a:=s.2) (b:=lo) (A:=10) (B:=50) ⟨al.2.2.1,al.2.2.2⟩ (by omega);have cr:=OU al ao;have eY:=Hz (a:=far) (b:=Ib lo s) (A:=10) (B:=600) (by omega) (by omega);have lN:=Int.mul_nonneg aP.1 cr.1;have ab:=al.1;have ae:=al.2.1;rw [List.length_cons] at af;unfold Jj;rw [qG (n:=s.2*lo) (by omega),show s.1+s.2*lo=rf lo s from rfl,qG (n:=rf lo s) (by omega),qG (n := -(rf lo s)) (by omega),show max (max s.1 (rf lo s)) (-(rf lo s))=Ib lo s from rfl,qG (n:=far*Ib lo s) (by omega),qG (by omega)];rw [W0 aP ao r _ (fun s hh=>ah s (by simp [hh])) (by omega) (by omega),sI];simp only [HL];rw [Int.mul_add];omega
theorem R6 (h:rk p) (k:qB p.1.length o) {a:Nat} {W:List Int} {f:qN→Int} (aP:∀ s,q3 s → -(Ib p.2.1 s)≤f s∧f s≤Ib p.2.1 s) :
  -(qI o.length (o.length-1)*HL (p.1.map (Ib p.2.1)))≤qJ p.1 o a W f∧qJ p.1 o a W f≤qI o.length (o.length-1)*HL (p.1.map (Ib p.2.1)):=by
 have hle:=h.le;have bC:=h.lo;have GO:=h.hi;have aI:=h.n;rw [←k.1] at aI;rw [←Y3 k (Ib p.2.1),←Y2];refine ahH fun i hi=>?_;have ah:=Iv h.s (rY k) hi;have aO:=OU ah (lo:=p.2.1) (by omega);have a_:-(qI o.length (o.length-1))≤qI o.length i∧qI o.length i≤qI o.length (o.length-1):=by unfold qI;omega
 split
 ·have ab:=aP _ ah;have ae:=Hz a_ ab;exact ae
 ·have:=Int.mul_nonneg (show 0≤qI o.length (o.length-1) by omega) aO.1;omega
theorem aji (h:rk p) (k:qB p.1.length o) {a i:Nat} (hi:i<o.length):∃ A,M6 (p,()) (qI o.length i)=some A∧(∀ e∈A,q3 e.2.2∧e.2.1=H3 p.2.1 p.2.2 (qI o.length i) e.2.2.2 e.2.2.1)∧∀ s,q3 s→I1 p o a i s→∃ e∈A,e.2.1=H3 p.2.1 p.2.2 (qI o.length i) s.2 s.1:=by
 have hle:=h.le;have bC:=h.lo;have GO:=h.hi;have aI:=h.n;have J7:=h.len;have adE:=k.1;have fI:=qB.len h k;unfold M6;simp only;rw [qx (by omega),show ((p.1.length:Int)-1)=((o.length-1:Nat):Int) by omega,qG (n:=((o.length-1:Nat):Int)) (by omega),P4 (b:=(p,())) fI k.1.symm (by omega),sc];have RI:0≤qI o.length (o.length-1)∧qI o.length (o.length-1)≤10:=by unfold qI;omega
 have V1:=W0 RI (lo:=p.2.1) (by omega) p.1 0 h.s (by omega) (by omega);rw [Int.zero_add] at V1;rw [V1];obtain ⟨M,CA⟩:∃ M,M=qI o.length (o.length-1)*HL (p.1.map (Ib p.2.1)):=⟨_,rfl⟩;have ajT:0≤M∧M≤1000000:=by
  have ab:=R6 h k (a:=0) (W:=[]) (f:=fun _=>0) fun s ah=>by have:=OU ah (lo:=p.2.1) (by omega);omega
  have ae:=Lw (n:=o.length) (g:=fun i=>Ib p.2.1 (qP p.1 o i)) (B:=600) fun i hi=>by have:=OU (Iv h.s (rY k) hi) (lo:=p.2.1) (by omega);omega
  rw [Y3 k (Ib p.2.1)] at ae;have aF:=Hz (a:=qI o.length (o.length-1)) (A:=10) (by omega) ae;rw [←CA] at ab aF;omega
 rw [←CA,qG (n := -M) (by omega)];have hg:=KH hi fI;obtain ⟨x,aj⟩:∃ x,x=qI o.length i:=⟨_,rfl⟩;rw [←aj] at hg ⊢;refine ⟨_,rfl,fun e he=>?_,fun s ah KC=>?_⟩
 ·obtain ⟨iB,ab,ae,aF⟩:=YY _ _ _ _ _ (tc.1 he).1;have ba:iB<2121:=by
   by_cases aQ:x=0
   ·rw [if_pos aQ] at ab;omega
   ·rw [if_neg aQ] at ab;exact ab
  rw [ae];exact ⟨YQ ba,aF⟩
 ·have hM:∃ e∈(Hl p.2.1 p.2.2 x (if x=0 then 1 else 2121)).1,e.2.1=H3 p.2.1 p.2.2 x s.2 s.1:=by
   by_cases aQ:x=0
   ·rw [if_pos aQ];obtain ⟨e,ab,ae⟩:=S6 p.2.1 p.2.2 x 1 0 (by omega);refine ⟨e,ab,ae.trans ?_⟩;subst aQ;unfold H3;simp only [Int.zero_mul]
   ·rw [if_neg aQ];obtain ⟨t,ab,ae⟩:=YP ah;rw [←ae];exact S6 _ _ _ _ _ ab
  obtain ⟨e,ab,ae⟩:=hM;refine ⟨e,tc.2 ⟨ab,?_⟩,ae⟩;rw [ae,V' hg ah (by omega)];have CY:=Rf.1 KC;rw [←aj] at CY;by_cases he:p.2.1=p.2.2
  ·rw [if_pos he];(have bO:=R6 h k (a:=a) (W:=[(i:Int)]) (f:=rf p.2.1) fun s ah=>by unfold Ib;omega);have bP:=KC.1;rw [←aj] at bP;rw [←CA] at bO;simp only [su,decide_eq_true_eq];omega
  ·rw [if_neg he];rw [Ly he] at CY;(have bO:=R6 h k (a:=a) (W:=[(i:Int)]) (f:=Prod.fst) fun s ah=>by have:=ah.1;unfold Ib;omega);rw [←CA] at bO;have bP:=CY.1;simp only [su,decide_eq_true_eq];omega
theorem Wa (h:rk p) (k:qB p.1.length o) {a i:Nat} (hi:i<o.length) {s:qN} (ah:q3 s) :
  H3 p.2.1 p.2.2 (qI o.length i) s.2 s.1=(if p.2.1=p.2.2 then (w (w (-(qJ p.1 o a [(i:Int)] Prod.fst))-w (qJ p.1 o a [(i:Int)] Prod.snd*p.2.1)),0) else (w (-(qJ p.1 o a [(i:Int)] Prod.fst)),w (-(qJ p.1 o a [(i:Int)] Prod.snd))))↔I1 p o a i s:=by
 have hle:=h.le;have bC:=h.lo;have GO:=h.hi;have a7:=Nj (a:=a) (W:=[(i:Int)]) h.s (rY k) (qB.len h k);have a9:=N5 (a:=a) (W:=[(i:Int)]) h.s (rY k) (qB.len h k);have br:=Hz (b:=p.2.1) (B:=50) a9 (by omega);rw [V' (KH hi (qB.len h k)) ah (by omega),Rf];rw [qG (n := -(qJ p.1 o a [(i:Int)] Prod.fst)) (by omega),qG (n:=qJ p.1 o a [(i:Int)] Prod.snd*p.2.1) (by omega),qG (n := -(qJ p.1 o a [(i:Int)] Prod.snd)) (by omega),qG (by omega)];generalize qJ p.1 o a [(i:Int)] Prod.fst=U;generalize qJ p.1 o a [(i:Int)] Prod.snd=V;generalize qI o.length i=x;by_cases he:p.2.1=p.2.2
 ·rw [if_pos he,if_pos he,N9 he,Prod.mk.injEq];have e:U+x*s.1+(V+x*s.2)*p.2.1=U+V*p.2.1+x*rf p.2.1 s:=by unfold rf;grind
  rw [e];constructor
  ·rintro ⟨ab,_⟩;omega
  ·intro ab;exact ⟨by omega,rfl⟩
 ·rw [if_neg he,if_neg he,Ly he,Prod.mk.injEq];constructor
  ·rintro ⟨ab,ae⟩;omega
  ·rintro ⟨ab,ae⟩;exact ⟨by omega,by omega⟩
theorem ZT (h:rk p) (k:qB p.1.length o) {a i:Nat} (hi:i<o.length) :
  (∃ s,Ix (p,()) o (a:Int) [(i:Int)]=some ([(ix o (i:Int),s)],true)∧q3 s∧I1 p o a i s)∨(Ix (p,()) o (a:Int) [(i:Int)]=some ([],false)∧¬ H_ p o a i):=by
 unfold Ix;rw [P5 (b:=(p,())) (W:=[(i:Int)]) h.s (rY k) (qB.len h k) k.1.symm (by simp),sc];obtain ⟨A,aL,ab,ae⟩:=aji h k (a:=a) hi;simp only;rw [P4 (b:=(p,())) (qB.len h k) k.1.symm hi,sc,aL,sc];cases al:JD A (if p.2.1=p.2.2 then (w (w (-(qJ p.1 o a [(i:Int)] Prod.fst))-w (qJ p.1 o a [(i:Int)] Prod.snd*p.2.1)),0) else (w (-(qJ p.1 o a [(i:Int)] Prod.fst)),w (-(qJ p.1 o a [(i:Int)] Prod.snd)))) with
 | none =>
   refine .inr ⟨rfl,fun ak=>?_⟩;obtain ⟨s,ah,aP⟩:=L_.1 ak;obtain ⟨e,he,adz⟩:=ae s ah aP;exact aeB al e he (adz.trans ((Wa h k hi ah).2 aP))
 | some s =>
   obtain ⟨e,he,Da,rfl⟩:=aeC al;obtain ⟨ah,pN⟩:=ab e he;refine .inl ⟨e.2.2,?_,ah,(Wa h k hi ah).1 (pN.symm.trans Da)⟩;simp only;rw [qx (by omega)]
end
end Go.Proofs.YtkoioidpbbbaiaaGreat.Ab


namespace Go.Proofs.YtkoioidpbbbaiaaGreat.Ab
open Go
set_option maxRecDepth 20000
set_option maxHeartbeats 4000000
noncomputable def aaF:gB :=
 p5 [p3 2 [.jm 0] .box,qh 4 0] (.seq (ri [p3 5 [.m_ 2] (.zE (.str 3)),p6 6 1,p3 7 [.cv (.func 75 [] []),.m_ 5,.m_ 6,.cv (.int .i64 0)] (.call 3),p3 8 [.m_ 2] (.zE (.str 3)),p6 9 1,p3 10 [.cv (.func 75 [] []),.m_ 8,.m_ 9,.cv (.int .i64 1)] (.call 3),qq 11 7 10 .add,p4 4 11]) .ret)
theorem afe:qu Tryz.prog UD 55=some (aaF,12,[.tmp 4]):=by qb
def Ol (p:(qk×(Int×Int))) (order:qa):Option Int :=
 (M5 p order (0:Int)).bind fun aS =>
 (M5 p order (1:Int)).bind fun bh =>
 some (w (aS+bh))
theorem ai4 {p:(qk×(Int×Int))} {order:qa} {v:Int} (h:Ol p order=some v):qw 55 [(.agg [(.av (p.1.flatMap p_) p.1.length .shared),(hX p.2.1),(hX p.2.2)]),(.av (order.map hX) order.length .shared)] (hX v):=by
 refine qO eD afe rfl rfl fun Q bo=>?_;have jG:qL [.tmp 4] Q (fun v=>(hX v)) v:=fun T H bD=>bo _ T H bD;unfold Ol at h;unfold aaF;conv=>whnf
 obtain ⟨aS,gJ,h⟩:=p' h;refine ⟨qj.pl,_,Z4 gJ,rC,?_⟩;conv=>whnf
 obtain ⟨bh,gK,h⟩:=p' h;refine ⟨qj.pl,_,Z4 gK,(K6 (fun _ e=>by simp at e) rC),?_⟩;conv=>whnf
 exact qe h jG rfl rfl

noncomputable def aah:gB :=
 p5 [p3 2 [.jm 0] .box,qh 4 0,qh 5 0] (.seq (p5 [p3 6 [.m_ 2] (.zE (.str 3)),p6 7 1,p3 8 [.cv (.func 52 [] []),.m_ 6,.m_ 7] (.call 3),qv 9 8 0 .neq] (.cond (.m_ 9) (p5 [p3 10 [.Bs 2] (.zE (.str 3)),p4 11 1,p3 12 [.cv (.func 52 [] []),.m_ 10,.m_ 11] (.call 3),qh 4 0,p4 5 12] .ret) .skip)) (p5 [p3 13 [.Bs 2] (.zE (.str 3)),p4 14 1,p3 15 [.cv (.func 55 [] []),.m_ 13,.m_ 14] (.call 3),p4 4 15,qh 5 0] .ret))
theorem aeR:qu Tryz.prog Ui 22=some (aah,16,[.tmp 4,.tmp 5]):=by qb
def Od (p:(qk×(Int×Int))) (order:qa):Option (Int×Int) :=
 (KZ p order).bind fun aS =>
 if (decide (aS≠(0:Int)))=true then
  (KZ p order).bind fun bh =>
  some ((0:Int),bh)
 else
  (Ol p order).bind fun eH =>
  some (eH,(0:Int))
theorem ait {p:(qk×(Int×Int))} {order:qa} {v:(Int×Int)} (h:Od p order=some v):qw 22 [(.agg [(.av (p.1.flatMap p_) p.1.length .shared),(hX p.2.1),(hX p.2.2)]),(.av (order.map hX) order.length .shared)] (.tuple [(hX v.1),(hX v.2)]):=by
 refine qO eD aeR rfl (Is (p7 rfl (p7 rfl rfl))) fun Q bo=>?_;have jG:qL [.tmp 4,.tmp 5] Q (fun v=>(.tuple [(hX v.1),(hX v.2)])) v:=fun T H bD=>bo _ T H bD;unfold Od at h;unfold aah;conv=>whnf
 obtain ⟨aS,gJ,h⟩:=p' h;refine ⟨qj.pl,_,P1 gJ,?_⟩;conv=>whnf
 refine bs h (fun gK h=>?_) fun gK h=>?_
 ·rw [gK];conv=>whnf
  obtain ⟨bh,qt,h⟩:=p' h;refine ⟨qj.pl,_,P1 qt,?_⟩;conv=>whnf
  exact qe h jG rfl rfl
 ·rw [gK];conv=>whnf
  obtain ⟨eH,qH,h⟩:=p' h;refine ⟨qj.pl,_,ai4 qH,?_⟩;conv=>whnf
  exact qe h jG rfl rfl
end Go.Proofs.YtkoioidpbbbaiaaGreat.Ab


namespace Go.Proofs.YtkoioidpbbbaiaaGreat.Ab
open Go
set_option maxRecDepth 20000
set_option maxHeartbeats 1000000
theorem abS:∀ (b:Fin 128) (j:Fin 8),w (((BitVec.ofInt IntKind.i64.bits (((b.1:Nat):Int).fdiv (2 ^ (Nat.min (((j.1:Nat):Int)).toNat IntKind.i64.bits))) &&& BitVec.ofInt IntKind.i64.bits (1:Int)).toNat:Nat):Int)=(if b.1.testBit j.1=true then 1 else 0:Int):=by decide +kernel
theorem Nf {b j:Nat} (af:b<128) (aw:j<8):w (((BitVec.ofInt IntKind.i64.bits (((b:Nat):Int).fdiv (2 ^ (Nat.min (((j:Nat):Int)).toNat IntKind.i64.bits))) &&& BitVec.ofInt IntKind.i64.bits (1:Int)).toNat:Nat):Int)=(if b.testBit j=true then 1 else 0:Int):=abS ⟨b,af⟩ ⟨j,aw⟩
def HV (n a:Nat) (W:List Int):Nat→List Int
 | 0=>[]
 | i+1=>if i % 2=a∧(i:Int)∈W then HV n a W i++[qI n i] else HV n a W i
theorem Xg (n a:Nat) (W:List Int):∀ i,(HV n a W i).length≤i
 | 0=>se _
 | i+1=>by
   have:=Xg n a W i;unfold HV;split
   ·simp;omega
   ·omega
theorem afZ {n a i:Nat} {W:List Int} (h:i % 2=a):HV n a W (i+2)=if (i:Int)∈W then HV n a W i++[qI n i] else HV n a W i:=by
 rw [show i+2=(i+1)+1 from rfl,HV,if_neg (by omega),HV];by_cases hw:(i:Int)∈W
 ·rw [if_pos ⟨h,hw⟩,if_pos hw]
 ·rw [if_neg fun k=>hw k.2,if_neg hw]
theorem Xh (n a:Nat):∀ i,HV n a [] i=[]
 | 0=>rfl
 | i+1=>by rw [HV,if_neg (by simp),Xh n a i]
theorem Xi {n a i:Nat} (h:i % 2=a):∀ j,HV n a [(i:Int)] j=if i<j then [qI n i] else []
 | 0=>rfl
 | j+1=>by
   rw [HV,Xi h j];by_cases e:j=i
   ·subst e;rw [if_pos ⟨h,by simp⟩,if_neg (by omega),if_pos (by omega)];rfl
   ·rw [if_neg (by rintro ⟨_,ae⟩;simp at ae;omega)];by_cases aF:i<j
    ·rw [if_pos aF,if_pos (by omega)]
    ·rw [if_neg aF,if_neg (by omega)]
theorem Y5 {i a:Nat} {W:List Int} {g:Nat→Int} (h:i % 2=a):q6 (i+2) (fun j=>if j % 2=a∧(j:Int) ∉ W then g j else 0)=q6 i (fun j=>if j % 2=a∧(j:Int) ∉ W then g j else 0)+if (i:Int) ∉ W then g i else 0:=by
 simp only [q6];rw [if_neg (show ¬ ((i+1) % 2=a∧((i+1:Nat):Int) ∉ W) by omega),tJ];by_cases hw:(i:Int) ∉ W
 ·rw [if_pos ⟨h,hw⟩,if_pos hw]
 ·rw [if_neg fun k=>hw k.2,if_neg hw]
section
variable {p:qn} {o:List Int}
theorem qB.Mm (h:rk p) (k:qB p.1.length o):o.length≤7:=by have:=h.len;have:=k.1;omega
theorem RT (h:rk p) (k:qB p.1.length o) {b a:Nat} (af:b<128) {W:List Int} (l9:∀ j,j<8→b.testBit j=decide ((j:Int)∈W)) {K:List Int→Int→Int→Option Bool} :
  ∀ (m i:Nat),i % 2=a→i≤o.length+1→o.length+1-i<m →
    K1 p o (b:Int) K m (HV o.length a W i) (q6 i fun j=>if j % 2=a∧(j:Int) ∉ W then qI o.length j*(qP p.1 o j).1 else 0) (q6 i fun j=>if j % 2=a∧(j:Int) ∉ W then qI o.length j*(qP p.1 o j).2 else 0) (i:Int)=K (HV o.length a W o.length) (qJ p.1 o a W Prod.fst) (qJ p.1 o a W Prod.snd)
 | 0,_,_,_,h=>absurd h (by omega)
 | m+1,i,cq,hi,hm=>by
   rw [K1];have fI:=qB.len h k;have Li:=qB.Mm h k;by_cases aR:i<o.length
   ·rw [if_pos (decide_eq_true (by omega)),qx (by omega),qx (rY k i aR),TE aR fI,sc,qx (by omega),Nf af (by omega),l9 i (by omega)];(have rK:w ((i:Int)+2)=((i+2:Nat):Int):=by rw [qG (n:=(i:Int)+2) (by omega)];omega);have a8:=RT h k af l9 (a:=a) (K:=K) m (i+2) (by omega) (by omega) (by omega);rw [afZ cq,Y5 cq,Y5 cq] at a8;by_cases hw:(i:Int)∈W
    ·rw [if_pos (by simp [hw]),qx (by have:=Xg o.length a W i;omega),rK];rw [if_pos hw,if_neg (fun k=>k hw),if_neg (fun k=>k hw),tJ,tJ] at a8;exact a8
    ·have ah:=Iv h.s (rY k) aR;have eY:=Hz (KH aR fI) (b:=(qP p.1 o i).1) (B:=100) ⟨by have:=ah.1;omega,ah.2.1⟩;have abQ:=Hz (KH aR fI) (b:=(qP p.1 o i).2) (B:=10) ⟨ah.2.2.1,ah.2.2.2⟩;have lN:=Lw (n:=i) (g:=fun i=>if i % 2=a∧(i:Int) ∉ W then qI o.length i*(qP p.1 o i).1 else 0) (B:=1000) fun j aw=>MF (B:=100) (by omega) fI (by omega) (by have:=Iv h.s (rY k) (i:=j) (by omega);exact ⟨by have:=this.1;omega,this.2.1⟩);have abR:=Lw (n:=i) (g:=fun i=>if i % 2=a∧(i:Int) ∉ W then qI o.length i*(qP p.1 o i).2 else 0) (B:=100) fun j aw=>MF (B:=10) (by omega) fI (by omega) (by have:=Iv h.s (rY k) (i:=j) (by omega);exact ⟨this.2.2.1,this.2.2.2⟩);rw [if_neg (by simp [hw]),rK];rw [if_neg hw,if_pos hw,if_pos hw] at a8;have e1:ix p.1 (ix o (i:Int))=qP p.1 o i:=rfl;rw [e1,qG (n:=qI o.length i*(qP p.1 o i).1) (by omega),qG (n:=qI o.length i*(qP p.1 o i).2) (by omega),qG (by omega),qG (by omega)];exact a8
   ·rw [if_neg (by simpa using by omega)];by_cases e:i=o.length
    ·subst e;rfl
    ·(obtain rfl:i=o.length+1:=by omega);rw [HV,if_neg (by omega)];simp only [q6];rw [if_neg (by omega),if_neg (by omega),tJ,tJ];rfl
theorem ZY (h:rk p) (k:qB p.1.length o) {b a:Nat} (cq:a<2) (af:b<128) {W:List Int} (l9:∀ j,j<8→b.testBit j=decide ((j:Int)∈W)) :
  H7 p o (a b:Int)=(if (decide (p.2.1=p.2.2))=true then
      (JO (HV o.length a W o.length) (w ((-10:Int)*p.2.1)) (w ((100:Int)+(w ((10:Int)*p.2.1)))) (w ((w (-(qJ p.1 o a W Prod.fst)))-(w (qJ p.1 o a W Prod.snd*p.2.1))))).bind fun bh=>some bh
   else
    (JO (HV o.length a W o.length) (0:Int) (100:Int) (w (-(qJ p.1 o a W Prod.fst)))).bind fun eH =>
    if eH=true then (JO (HV o.length a W o.length) (-10:Int) (10:Int) (w (-(qJ p.1 o a W Prod.snd)))).bind fun qQ=>some qQ
    else some false):=by
 have aI:=h.len;have adE:=k.1;unfold H7;rcases (show a=0∨a=1 by omega) with rfl | rfl
 ·exact RT h k af l9 qi 0 rfl (by omega) (r6 (by omega))
 ·exact RT h k af l9 (a:=1) qi 1 rfl (by omega) (r6 (by omega))
theorem ajm (lo hi s:Int):JO [] lo hi s=some (decide (s=0)):=by
 obtain ⟨m,hm⟩:=Nk;unfold JO;rw [hm];show L0 (M7 (m+1)) [] lo hi s=_;unfold L0;exact if_pos (show decide (((0:Nat):Int)=0)=true from rfl)
theorem TG {x lo hi s:Int} (ao:lo≤hi) (ah:-1000000≤s∧s≤1000000):∃ r,JO [x] lo hi s=some r∧(r=true↔∃ y,lo≤y∧y≤hi∧x*y=s):=by
 obtain ⟨m,hm⟩:=Nk;unfold JO;rw [hm];show ∃ r,L0 (M7 (m+1)) [x] lo hi s=some r∧_;unfold L0;rw [if_neg (by simp),if_pos (by simp),qx (by simp)];have e1:ix [x] (0:Int)=x:=rfl;rw [e1];by_cases aj:x=0
 ·subst aj;rw [if_neg (by decide),if_pos (by decide)];refine ⟨_,rfl,?_⟩;rw [decide_eq_true_eq];constructor
  ·rintro rfl;exact ⟨lo,by omega,by omega,by omega⟩
  ·rintro ⟨y,_,_,aF⟩;omega
 ·rw [if_pos (by simpa using aj),qx aj];have a_:(s.tdiv x).natAbs≤s.natAbs:=Int.natAbs_tdiv_le_natAbs _ _;rw [qG (n:=s.tdiv x) (by omega)];have a1:s.tmod x=0→x*s.tdiv x=s:=fun aQ=>by
   have:=Int.tmod_def s x;omega
  have hu:∀ y,x*y=s→s.tmod x=0∧s.tdiv x=y:=fun y aY=>by
   subst aY;exact ⟨Int.mul_tmod_right _ _,Int.mul_tdiv_cancel_left _ aj⟩
  have nV:¬ (decide (x=0))=true:=by simpa using aj
  by_cases aQ:s.tmod x=0
  ·rw [if_pos (decide_eq_true aQ),qx aj];by_cases ab:lo≤s.tdiv x
   ·rw [if_pos (decide_eq_true ab),qx aj];by_cases ae:s.tdiv x≤hi
    ·rw [if_pos (decide_eq_true ae)];exact ⟨true,rfl,fun _=>⟨_,ab,ae,a1 aQ⟩,fun _=>rfl⟩
    ·rw [if_neg (by simpa using ae),if_neg nV];refine ⟨false,rfl,fun h=>absurd h (by decide),?_⟩;rintro ⟨y,_,ba,bO⟩;have:=(hu y bO).2;omega
   ·rw [if_neg (by simpa using ab),if_neg nV];refine ⟨false,rfl,fun h=>absurd h (by decide),?_⟩;rintro ⟨y,aF,_,bO⟩;have:=(hu y bO).2;omega
  ·rw [if_neg (by simpa using aQ),if_neg nV];refine ⟨false,rfl,fun h=>absurd h (by decide),?_⟩;rintro ⟨y,_,_,bO⟩;exact absurd (hu y bO).1 aQ
theorem abO {d y:Int} (a1:0≤d∧d≤50) (ab:-10*d≤y) (ae:y≤100+10*d):∃ s,q3 s∧rf d s=y:=by
 unfold q3 rf;by_cases aF:y<0
 ·have aB:0<d:=by omega
  have aA:=Int.emod_nonneg y (show d≠0 by omega);have aG:=Int.emod_lt_of_pos y aB;have aT:=Int.emod_def y d;have bq:-10≤y / d:=(Int.le_ediv_iff_mul_le aB).2 (by omega);have bf:y / d<0:=Int.ediv_neg_of_neg_of_pos aF aB;refine ⟨(y % d,y / d),?_,?_⟩
  ·simp only;omega
  ·simp only;rw [aT,uE d];omega
 ·by_cases ba:y≤100
  ·exact ⟨(y,0),by simp only;omega,by simp⟩
  ·(have aB:0<d:=by omega);have aA:=Int.emod_nonneg (100-y) (show d≠0 by omega);have aG:=Int.emod_lt_of_pos (100-y) aB;have aT:=Int.emod_def (100-y) d;have bq:-10≤(100-y) / d:=(Int.le_ediv_iff_mul_le aB).2 (by omega);have bf:(100-y) / d<0:=Int.ediv_neg_of_neg_of_pos (by omega) aB;refine ⟨(100-(100-y) % d,-((100-y) / d)),?_,?_⟩
   ·simp only;omega
   ·simp only;rw [aT,Int.neg_mul,uE d];omega
theorem abP {d:Int} {s:qN} (a1:0≤d∧d≤50) (ah:q3 s):-10*d≤rf d s∧rf d s≤100+10*d:=by
 obtain ⟨ab,ae,aF,ba⟩:=ah;have bl:=vH aF a1.1;have cr:=vH ba a1.1;unfold rf;omega
theorem Tx (h:rk p) (k:qB p.1.length o) {a:Nat} (cq:a<2):H7 p o (a:Int) 0=some (decide (r8 p o a)):=by
 have hle:=h.le;have bC:=h.lo;have GO:=h.hi;have e:=ZY h k cq (b:=0) (by omega) (W:=[]) (fun j _=>by simp);rw [show ((0:Nat):Int)=0 from rfl] at e;rw [e,Xh];have a7:=Nj (a:=a) (W:=[]) h.s (rY k) (qB.len h k);have a9:=N5 (a:=a) (W:=[]) h.s (rY k) (qB.len h k);have br:=Hz (b:=p.2.1) (B:=50) a9 (by omega);simp only [ajm,sc];rw [qG (n := -(qJ p.1 o a [] Prod.fst)) (by omega),qG (n := -(qJ p.1 o a [] Prod.snd)) (by omega),qG (n:=qJ p.1 o a [] Prod.snd*p.2.1) (by omega),qG (by omega)];by_cases he:p.2.1=p.2.2
 ·rw [if_pos (decide_eq_true he)];congr 1;rw [tA,decide_eq_true_eq,decide_eq_true_eq,OQ,N9 he];omega
 ·rw [if_neg (by simpa using he)];by_cases aQ:qJ p.1 o a [] Prod.fst=0
  ·rw [if_pos (decide_eq_true (by omega))];congr 1;rw [tA,decide_eq_true_eq,decide_eq_true_eq,OQ,Ly he];omega
  ·rw [if_neg (by rw [decide_eq_true_eq];omega)];congr 1;rw [tA,decide_eq_true_eq,OQ,Ly he];constructor
   ·intro ak;cases ak
   ·rintro ⟨ab,_⟩;exact absurd ab aQ
theorem ZX (h:rk p) (k:qB p.1.length o) {i a:Nat} (hi:i<o.length) (cq:i % 2=a):H7 p o (a:Int) ((2 ^ i:Nat):Int)=some (decide (H_ p o a i)):=by
 have hle:=h.le;have bC:=h.lo;have GO:=h.hi;have Li:=qB.Mm h k;have Rj:2 ^ i<128:=Nat.pow_lt_pow_right (by omega) (show i<7 by omega);have e:=ZY h k (a:=a) (by omega) Rj (W:=[(i:Int)]) (fun j _=>by rw [uA];simp;omega);rw [e,Xi cq,if_pos hi];have a7:=Nj (a:=a) (W:=[(i:Int)]) h.s (rY k) (qB.len h k);have a9:=N5 (a:=a) (W:=[(i:Int)]) h.s (rY k) (qB.len h k);have br:=Hz (b:=p.2.1) (B:=50) a9 (by omega);rw [qG (n := -(qJ p.1 o a [(i:Int)] Prod.fst)) (by omega),qG (n := -(qJ p.1 o a [(i:Int)] Prod.snd)) (by omega),qG (n:=qJ p.1 o a [(i:Int)] Prod.snd*p.2.1) (by omega),qG (n := -(qJ p.1 o a [(i:Int)] Prod.fst)-_) (by omega),qG (n := -10*p.2.1) (by omega),qG (n:=10*p.2.1) (by omega),qG (n:=100+10*p.2.1) (by omega)];obtain ⟨U,r9⟩:∃ U,U=qJ p.1 o a [(i:Int)] Prod.fst:=⟨_,rfl⟩;obtain ⟨V,jH⟩:∃ V,V=qJ p.1 o a [(i:Int)] Prod.snd:=⟨_,rfl⟩;have KC:∀ s,I1 p o a i s↔(U+qI o.length i*s.1)+(V+qI o.length i*s.2)*p.2.1=0∧(U+qI o.length i*s.1)+(V+qI o.length i*s.2)*p.2.2=0:=fun s=>by rw [r9,jH];exact Rf
 rw [←r9,←jH];rw [←r9] at a7;rw [←jH] at a9 br;generalize qI o.length i=x at KC ⊢;by_cases he:p.2.1=p.2.2
 ·rw [if_pos (decide_eq_true he)];obtain ⟨r,ab,ae⟩:=TG (x:=x) (lo := -10*p.2.1) (hi:=100+10*p.2.1) (s := -U-V*p.2.1) (by omega) (by omega);rw [ab,sc];congr 1;rw [tA,ae,decide_eq_true_eq,L_];have b9:∀ s:qN,U+x*s.1+(V+x*s.2)*p.2.1=U+V*p.2.1+x*rf p.2.1 s:=fun s=>by unfold rf;grind
  constructor
  ·rintro ⟨y,aF,ba,bO⟩;obtain ⟨s,bP,cL⟩:=abO (d:=p.2.1) (by omega) aF ba;refine ⟨s,bP,(KC s).2 ((N9 he).2 ?_)⟩;rw [b9,cL];omega
  ·rintro ⟨s,bP,cL⟩;have cO:=(N9 he).1 ((KC s).1 cL);rw [b9] at cO;obtain ⟨ck,dk⟩:=abP (d:=p.2.1) (by omega) bP;exact ⟨_,ck,dk,by omega⟩
 ·rw [if_neg (by simpa using he)];obtain ⟨r,ab,ae⟩:=TG (x:=x) (lo:=0) (hi:=100) (s := -U) (by omega) (by omega);obtain ⟨bh,aF,ba⟩:=TG (x:=x) (lo := -10) (hi:=10) (s := -V) (by omega) (by omega);rw [ab,aF,sc];have ak:H_ p o a i↔r=true∧bh=true:=by
   rw [ae,ba,L_];constructor
   ·rintro ⟨s,bP,cL⟩;have cO:=(Ly he).1 ((KC s).1 cL);obtain ⟨aJ,aN,b',hn⟩:=bP;exact ⟨⟨s.1,aJ,aN,by omega⟩,⟨s.2,b',hn,by omega⟩⟩
   ·rintro ⟨⟨y,aJ,aN,n0⟩,⟨z,b',hn,aj4⟩⟩;exact ⟨(y,z),⟨aJ,aN,b',hn⟩,(KC _).2 ((Ly he).2 ⟨by simp only;omega,by simp only;omega⟩)⟩
  cases r with
  | true =>
    rw [if_pos rfl,sc];congr 1;rw [tA,decide_eq_true_eq,ak];simp
  | false =>
    rw [if_neg (by decide)];congr 1;rw [tA,decide_eq_true_eq,ak];simp
def Ia (b:Nat):Nat→Nat
 | 0=>0
 | i+1=>Ia b i+if b.testBit i=true then 1 else 0
theorem Va (b:Nat):∀ i,Ia b i≤i
 | 0=>se _
 | i+1=>by have:=Va b i;unfold Ia;split <;> omega
theorem Wz {b:Nat} (af:b<128) {K:Int→Option Int}:∀ (m i:Nat),i≤8→8-i<m→L1 (b:Int) K m (Ia b i:Int) (i:Int)=K (Ia b 8:Int)
 | 0,_,_,h=>absurd h (by omega)
 | m+1,i,hi,hm=>by
   rw [L1];by_cases aR:i<8
   ·rw [if_pos (decide_eq_true (by omega)),qx (by omega),Nf af aR,Hr i (by omega)];have a8:=Wz af (K:=K) m (i+1) (by omega) (by omega);rw [←a8];have ak:=Va b i;have e:Ia b (i+1)=Ia b i+if b.testBit i=true then 1 else 0:=rfl;rw [e];congr 1;split
    ·rw [qG (by omega)];omega
    ·rw [qG (by omega)];omega
   ·(obtain rfl:i=8:=by omega);rw [if_neg (by decide)]
theorem ajr {b:Nat} (af:b<128):Ox (b:Int)=some (Ia b 8:Int):=by
 unfold Ox;exact Wz af qi 0 (by omega) (r6 (by omega))
theorem acn:∀ b:Fin 128,Ia b.1 8=0→b.1=0:=by decide +kernel
theorem Vd:∀ b:Fin 128,Ia b.1 8=1→b.1=2 ^ b.1.log2∧b.1.log2<7:=by decide +kernel
theorem acm:∀ i:Fin 7,Ia (2 ^ i.1) 8=1:=by decide +kernel
def par (a b:Nat):Nat→Bool
 | 0=>true
 | i+1=>par a b i && (!(b.testBit i) || decide (i % 2=a))
theorem NP {a b:Nat}:∀ {n:Nat},par a b n=true↔∀ j,j<n→b.testBit j=true→j % 2=a
 | 0=>by simp [par]
 | n+1=>by
   unfold par;rw [su,NP];simp only [tC,Bool.not_eq_true',decide_eq_true_eq];constructor
   ·rintro ⟨ab,ae⟩ j aw af;by_cases e:j=n
    ·subst e;rcases ae with ae | ae
     ·rw [ae] at af;cases af
     ·exact ae
    ·exact ab j (by omega) af
   ·intro ab;refine ⟨fun j aw=>ab j (by omega),?_⟩;cases af:b.testBit n with
    | false=>exact .inl rfl
    | true=>exact .inr (ab n (by omega) af)
theorem Wx {a b:Nat} (af:b<128) (ao:o.length≤7) {K:Bool→Option Int}:∀ (m i:Nat),i≤o.length→o.length-i<m→Ko o (a b:Int) K m (par a b i) (i:Int)=K (par a b o.length)
 | 0,_,_,h=>absurd h (by omega)
 | m+1,i,hi,hm=>by
   rw [Ko];by_cases aR:i<o.length
   ·have a8:=Wx (a:=a) af ao (K:=K) m (i+1) (by omega) (by omega);rw [if_pos (decide_eq_true (by omega)),Hr i (by omega)];rw [par] at a8;by_cases aB:par a b i=true
    ·rw [if_pos aB,qx (by omega),Nf af (by omega)];cases ak:b.testBit i with
     | false =>
       rw [if_pos (by simp)];rw [aB,ak] at a8;rw [aB];exact a8
     | true =>
       rw [if_neg (by decide),qx (by decide),Lx];rw [aB,ak] at a8;rw [←a8];congr 1;rw [tA];simp;omega
    ·rw [if_neg aB];(have O4:par a b i=false:=by simpa using aB);rw [O4] at a8 ⊢;exact a8
   ·(obtain rfl:i=o.length:=by omega);rw [if_neg (by simp)]
theorem RU {a v:Nat} (ao:o.length≤7) {K:Unit→Option Int} {G:Nat→Bool} (rG:∀ b,b<2 ^ o.length→par a b o.length=true→Ia b 8=v→H7 p o (a b:Int)=some (G b)) :
  ∀ (m b:Nat),b≤2 ^ o.length→2 ^ o.length-b<m→Kn p o (a v:Int) K m (b:Int)=if ∃ c,c<2 ^ o.length∧b≤c∧par a c o.length=true∧Ia c 8=v∧G c=true then some (v:Int) else K ()
 | 0,_,_,h=>absurd h (by omega)
 | m+1,b,af,hm=>by
   have Rj:2 ^ o.length≤128:=Nat.pow_le_pow_right (by omega) (show o.length≤7 by omega);have b9:w ((1:Int)*2 ^ (Nat.min ((o.length:Int)).toNat 64))=((2 ^ o.length:Nat):Int):=by
    rw [tD,Int.one_mul,show Nat.min o.length 64=o.length from Nat.min_eq_left (by omega)]
    have:((2:Int) ^ o.length)=((2 ^ o.length:Nat):Int):=by simp
    rw [this,qG (by omega)]
   rw [Kn,qx (by omega),b9];by_cases aR:b<2 ^ o.length
   ·rw [if_pos (decide_eq_true (by omega))];refine (Wx (a:=a) (o:=o) (b:=b) (by omega) ao qi 0 (by omega) (r6 (by omega))).trans ?_;have a8:=RU ao (K:=K) rG m (b+1) (by omega) (by omega);have fp:¬ (par a b o.length=true∧Ia b 8=v∧G b=true)→((∃ c,c<2 ^ o.length∧b≤c∧par a c o.length=true∧Ia c 8=v∧G c=true)↔∃ c,c<2 ^ o.length∧b+1≤c∧par a c o.length=true∧Ia c 8=v∧G c=true):=fun aI=>by
     constructor
     ·rintro ⟨c,ab,ae,aF⟩;by_cases e:c=b
      ·subst e;exact absurd aF aI
      ·exact ⟨c,ab,by omega,aF⟩
     ·rintro ⟨c,ab,ae,aF⟩;exact ⟨c,ab,by omega,aF⟩
    rw [Hr b (by omega),a8,ajr (by omega)];by_cases aB:par a b o.length=true
    ·rw [if_pos aB,sc];by_cases ak:Ia b 8=v
     ·rw [if_pos (decide_eq_true (by omega)),rG b aR aB ak,sc];by_cases aO:G b=true
      ·rw [if_pos aO,if_pos ⟨b,aR,se _,aB,ak,aO⟩]
      ·rw [if_neg aO];simp only [fp fun k=>aO k.2.2]
     ·rw [if_neg (by simpa using by omega)];simp only [fp fun k=>ak k.2.1]
    ·rw [if_neg aB];simp only [fp fun k=>aB k.1]
   ·rw [if_neg (by rw [decide_eq_true_eq];omega),if_neg (by rintro ⟨c,ab,ae,_⟩;omega)]
def HZ (p:qn) (o:List Int) (a:Nat):Nat:=if r8 p o a then 0 else if ∃ i,i<o.length∧i % 2=a∧H_ p o a i then 1 else 2
theorem Z3 (h:rk p) (k:qB p.1.length o) {a:Nat} (cq:a<2):M5 p o (a:Int)=some (HZ p o a:Int):=by
 have Li:=qB.Mm h k;have Rj:2 ^ o.length≤128:=Nat.pow_le_pow_right (by omega) (show o.length≤7 by omega);obtain ⟨m,hm⟩:∃ m,qi=m+3:=⟨qi-3,rfl⟩;have VM:2 ^ o.length-0<qi:=r6 (by omega);unfold M5;rw [hm,JX,if_pos (by decide)]
 have ahn:=RU (p:=p) (o:=o) (a:=a) (v:=0) Li (K:=fun _=>JX p o (a:Int) (fun _=>some 2) (m+2) (w (0+1))) (G:=fun _=>decide (r8 p o a)) (fun b af aB ak=>by
  have:=acn ⟨b,by omega⟩ ak;simp only at this;subst this
  exact Tx h k cq) qi 0 (sE _) VM
 refine ahn.trans ?_;unfold HZ;by_cases aP:r8 p o a
 ·rw [if_pos aP,if_pos ⟨0,Nat.pow_pos (by omega),se _,NP.2 fun j _ aw=>by simp at aw,rfl,decide_eq_true aP⟩]
 ·rw [if_neg aP,if_neg (by rintro ⟨c,_,_,_,_,bO⟩;exact aP (of_decide_eq_true bO))];rw [show w (0+1)=((1:Nat):Int) from rfl,JX,if_pos (by decide)]
  have s1:=RU (p:=p) (o:=o) (a:=a) (v:=1) Li (K:=fun _=>JX p o (a:Int) (fun _=>some 2) (m+1) (w (((1:Nat):Int)+1))) (G:=fun b=>decide (H_ p o a b.log2)) (fun b af aB ak=>by
   obtain ⟨ab,ae⟩:=Vd ⟨b,by omega⟩ ak;simp only at ab ae;have aF:b.log2<o.length:=by
    rw [ab] at af;exact (uQ (by omega)).1 af
   have ba:b.log2 % 2=a:=NP.1 aB _ aF (by rw [ab,vQ,uA];simp);have:=ZX h k aF ba;rw [←ab] at this
   exact this) qi 0 (sE _) VM
  refine s1.trans ?_;by_cases ak:∃ i,i<o.length∧i % 2=a∧H_ p o a i
  ·rw [if_pos ak,if_pos]
   ·obtain ⟨i,ab,ae,aF⟩:=ak;refine ⟨2 ^ i,(uQ (by omega)).2 ab,sE _,NP.2 fun j _ aw=>?_,acm ⟨i,by omega⟩,decide_eq_true (by rw [vQ];exact aF)⟩;rw [uA] at aw;have:=of_decide_eq_true aw;omega
  ·rw [if_neg ak,if_neg]
   ·rw [JX,if_neg (by decide)];rfl
   ·rintro ⟨c,ab,_,aF,ba,bO⟩;obtain ⟨bP,cL⟩:=Vd ⟨c,by omega⟩ ba;simp only at bP cL;refine ak ⟨c.log2,?_,?_,of_decide_eq_true bO⟩
    ·rw [bP] at ab;exact (uQ (by omega)).1 ab
    ·refine NP.1 aF _ ?_ (by rw [bP,vQ,uA];simp);rw [bP] at ab;exact (uQ (by omega)).1 ab
theorem Mc (p:qn) (o:List Int) (a:Nat):HZ p o a≤2:=by unfold HZ;split <;> (try split) <;> omega
theorem ai3 (h:rk p) (k:qB p.1.length o):Ol p o=some ((HZ p o 0+HZ p o 1:Nat):Int):=by
 have aQ:=Z3 h k (a:=0) (by omega);have ab:=Z3 h k (a:=1) (by omega);have db:=Mc p o 0;have bl:=Mc p o 1;unfold Ol;rw [show (0:Int)=((0:Nat):Int) from rfl,aQ,sc,show (1:Int)=((1:Nat):Int) from rfl,ab,sc,qG (by omega),Int.natCast_add]
theorem ais (aB:p.1.length≤1000) (ao:o.length≤12):Od p o=some (if rV p o=0 then (((HZ p o 0+HZ p o 1:Nat):Int),0) else (0,rV p o)):=by
 unfold Od;rw [ZO aB (by omega),sc];by_cases h:rV p o=0
 ·obtain ⟨ad,al⟩:=Lp.1 h;rw [if_neg (by simpa using h),if_pos h,ai3 ad al,sc]
 ·rw [if_pos (by simpa using h),if_neg h,sc]
end
end Go.Proofs.YtkoioidpbbbaiaaGreat.Ab


namespace Go.Proofs.YtkoioidpbbbaiaaGreat.Ab
open Go
set_option maxRecDepth 20000
set_option maxHeartbeats 4000000
noncomputable def Qa:gB :=
 .loop (some (qd false [1,3,4,1,58])) (.seq (p5 [p6 17 8,p6 18 2,q2 19 18,qq 20 17 19 .lss] (.cond (.m_ 20) .skip (.exit 0))) (.seq (.block 1 (p5 [p6 23 2,p6 24 8,rn 25 23 24 3,p3 26 [.Bs 25] (.zE (.str 3)),p3 9 [] (.alloc [.int .i64 0,.int .i64 0,.int .i64 0]),⟨none,[.m_ 9,.jm 26],none,none,.st 3⟩] (.seq (ri [p3 27 [.m_ 9] (.yM 0),qm 28 27,qv 29 28 0 .lss,p4 30 29,ch 31 [.m_ 9] 30 false (.yM 0),ch 32 [.Bs 31] 30 false (.zE .one),ch 33 [.m_ 3] 30 false (.yM 0),ch 34 [.Bs 33] 30 false (.zE .one),ch 35 [.jm 34] 30 false .zJ,ch 36 [.Bs 32,.Bs 35] 30 false (.bin .geq),p3 37 [.m_ 30,.cv (.bool true),.Bs 36] .pick,p4 38 37,ch 39 [.m_ 8] 38 false .mR,ch 40 [.Bs 39,.cv (.int .i64 0)] 38 false (.bin .gtr),ch 41 [.jm 40] 38 false .mR,ch 42 [.m_ 9] 41 true (.yM 0),ch 43 [.Bs 42] 41 true (.zE .one),ch 44 [.m_ 2] 41 true .mR,ch 45 [.m_ 8] 41 true .mR,ch 46 [.Bs 45,.cv (.int .i64 1)] 41 true (.bin .sub),ch 47 [.Bs 44,.Bs 46] 41 true (.kV 3),ch 48 [.Bs 47] 41 true (.yM 0),ch 49 [.Bs 48] 41 true (.zE .one),ch 50 [.Bs 43,.Bs 49] 41 true (.bin .leq),ch 51 [.m_ 41,.Bs 50,.cv (.bool false)] 38 false .pick,p3 52 [.m_ 38,.cv (.bool true),.Bs 51] .pick,p4 53 52,ch 54 [.m_ 9] 53 false (.yM 1),ch 55 [.Bs 54] 53 false (.zE (.str 2)),⟨some 56,[.cv (.func 53 [] []),.m_ 55],some (53,false),none,.call 3⟩,ch 57 [.Bs 56] 53 false (.un .not),p3 58 [.m_ 53,.cv (.bool true),.Bs 57] .pick]) (.cond (.m_ 58) (p5 [qh 6 0,qh 7 3] .ret) .skip)))) (qF [p4 21 8,qW 22 21 1,p4 8 22])))
noncomputable def aaf:gB :=
 p5 [p3 3 [.jm 0] .box,qh 6 0,qh 7 0] (.seq (p5 [p3 10 [.m_ 3] (.zE (.str 3)),p6 11 1,p3 12 [.cv (.func 52 [] []),.m_ 10,.m_ 11] (.call 3),qv 13 12 0 .neq] (.cond (.m_ 13) (p5 [p3 14 [.Bs 3] (.zE (.str 3)),p4 15 1,p3 16 [.cv (.func 52 [] []),.m_ 14,.m_ 15] (.call 3),qh 6 0,p4 7 16] .ret) .skip)) (.seq (p5 [qh 8 0] (.block 0 Qa)) (.seq (p5 [p3 59 [.Bs 3] (.zE (.str 3)),p6 60 2,p3 61 [.cv (.func 54 [] []),.m_ 59,.m_ 60] (.call 3),p4 62 1,p3 63 [.cv (.func 39 [] []),.m_ 61,.m_ 62] (.call 3),qv 64 63 0 .gtr] (.cond (.m_ 64) (p5 [qh 6 0,qh 7 23] .ret) .skip)) (p5 [p4 65 2,q2 66 65,p4 6 66,qh 7 0] .ret))))
theorem aeP:qu Tryz.prog QL 20=some (aaf,67,[.tmp 6,.tmp 7]):=by qb
def Kh (p:(qk×(Int×Int))) (changes:(List (Int×(Int×Int)))) (qc:Unit→Option (Int×Int)):Nat→Int→Option (Int×Int)
 | 0,_=>none
 | m+1,s1 =>
   if (decide (s1<(changes.length:Int)))=true then
    qs (0≤s1∧s1<(changes.length:Int)) <|
    if (decide ((ix changes s1).1<(0:Int)))=true then
     some ((0:Int),(3:Int))
    else
     if (decide ((p.1.length:Int)≤(ix changes s1).1))=true then
      some ((0:Int),(3:Int))
     else
      if (decide ((0:Int)<s1))=true then
       qs (0≤(w (s1-(1:Int)))∧(w (s1-(1:Int)))<(changes.length:Int)) <|
       if (decide ((ix changes s1).1≤(ix changes (w (s1-(1:Int)))).1))=true then
        some ((0:Int),(3:Int))
       else
        (LS ((ix changes s1).2)).bind fun eH =>
        if eH=true then
         Kh p changes qc m (w (s1+(1:Int)))
        else
         some ((0:Int),(3:Int))
      else
       (LS ((ix changes s1).2)).bind fun qQ =>
       if qQ=true then
        Kh p changes qc m (w (s1+(1:Int)))
       else
        some ((0:Int),(3:Int))
   else
    qc ()
def KQ (p:(qk×(Int×Int))) (order:qa) (changes:(List (Int×(Int×Int)))):Option (Int×Int) :=
 (KZ p order).bind fun aS =>
 if (decide (aS≠(0:Int)))=true then
  (KZ p order).bind fun bh =>
  some ((0:Int),bh)
 else
  Kh p changes (fun _ =>
    (Oj p changes).bind fun q4 =>
    (LM q4 order).bind fun rQ =>
    if (decide ((0:Int)<rQ))=true then
     some ((0:Int),(23:Int))
    else
     some ((changes.length:Int),(0:Int))) qi (0:Int)
theorem air {p:(qk×(Int×Int))} {changes:(List (Int×(Int×Int)))} {qc:Unit→Option (Int×Int)} {s1:Int} {order:qa} {v:(Int×Int)} {Q:rS}   (jG:qL [.tmp 6,.tmp 7] Q (fun v=>(.tuple [(hX v.1),(hX v.2)])) v) (ra:∀ (Jt:List ar) (qf:List I),qc ()=some v→rm 67 [(1,(qz order .shared)),(2,(.av (changes.flatMap qy) changes.length .shared)),(3,(.ptr 0 0))] qf→Q (.exit 0) qf (ar.cells [(qZ p.1 .shared),(hX p.2.1),(hX p.2.2)]::Jt)) {T:List I} (bZ:eW (qd false [1,3,4,1,58]) T=qg 67 [(1,(qz order .shared)),(2,(.av (changes.flatMap qy) changes.length .shared)),(3,(.ptr 0 0)),(8,(hX s1))]) (h:Kh p changes qc qi s1=some v) :
  dN Tryz.prog QL 20 0 none Qa T [ar.cells [(qZ p.1 .shared),(hX p.2.1),(hX p.2.2)]] Q:=by
 unfold Qa;refine wp_loop bZ ?_;refine .intro (fun m T H=>∃ (s1:Int) (T0:List ar),T=qg 67 [(1,(qz order .shared)),(2,(.av (changes.flatMap qy) changes.length .shared)),(3,(.ptr 0 0)),(8,(hX s1))]∧H=(ar.cells [(qZ p.1 .shared),(hX p.2.1),(hX p.2.2)]::T0)∧Kh p changes qc m s1=some v) qi ⟨s1,[],rfl,rfl,h⟩ ?_;clear h bZ;rintro m T H ⟨s1,T0,rfl,rfl,h⟩;cases m
 ·exact rA h
 rename_i m;rw [Kh.eq_2] at h;conv=>whnf
 refine bs h (fun qH h=>?_) fun qH h=>?_
 ·rw [qH];conv=>whnf
  refine qE h id fun qX h=>?_;rw [IZ qy 3 H8 changes s1 qX];conv=>whnf
  refine Ew (x:=ar.cells [(hX (0:Int)),(hX (0:Int)),(hX (0:Int))]) (by first | exact q7.h | rfl | (simp [sr,I.settle];done)) ?_
  conv=>whnf
  rw [HK];refine Ew (x:=ar.cells [(hX (ix changes s1).1),(hX (ix changes s1).2.1),(hX (ix changes s1).2.2)]) (by first | exact q7.h | rfl | (simp [sr,I.settle];done)) ?_
  conv=>whnf
  refine bs h (fun q9 h=>?_) fun q9 h=>?_
  ·rw [q9];(conv=>whnf);exact qe h jG rfl rfl
  ·rw [q9];(conv=>whnf);refine Ew (x:=ar.cells [(hX (ix changes s1).1),(hX (ix changes s1).2.1),(hX (ix changes s1).2.2)]) (by first | exact q7.h | rfl | (simp [sr,I.settle];done)) ?_
   (conv=>whnf);refine bs h (fun qS h=>?_) fun qS h=>?_
   ·rw [qS];(conv=>whnf);exact qe h jG rfl rfl
   ·rw [qS];(conv=>whnf);refine bs h (fun re h=>?_) fun re h=>?_
    ·rw [re];(conv=>whnf);refine Ew (x:=ar.cells [(hX (ix changes s1).1),(hX (ix changes s1).2.1),(hX (ix changes s1).2.2)]) (by first | exact q7.h | rfl | (simp [sr,I.settle];done)) ?_
     (conv=>whnf);refine qE h id fun q_ h=>?_;rw [IZ qy 3 H8 changes (w (s1-(1:Int))) q_];(conv=>whnf);refine bs h (fun ry h=>?_) fun ry h=>?_
     ·rw [ry];(conv=>whnf);exact qe h jG rfl rfl
     ·rw [ry];(conv=>whnf);refine Ew (x:=ar.cells [(hX (ix changes s1).1),(hX (ix changes s1).2.1),(hX (ix changes s1).2.2)]) (by first | exact q7.h | rfl | (simp [sr,I.settle];done)) ?_
      (conv=>whnf);obtain ⟨eH,Hj,h⟩:=p' h;refine ⟨qj.pl,_,Tw Hj,rC,?_⟩;(conv=>whnf);cases eH
      ·(conv=>whnf);replace h:=rq rfl h;exact qe h jG rfl rfl
      ·(conv=>whnf);replace h:=rp rfl h;exact ⟨m,sg m,(w (s1+(1:Int))),_,rfl,rfl,h⟩
    ·rw [re];(conv=>whnf);refine Ew (x:=ar.cells [(hX (ix changes s1).1),(hX (ix changes s1).2.1),(hX (ix changes s1).2.2)]) (by first | exact q7.h | rfl | (simp [sr,I.settle];done)) ?_
     (conv=>whnf);obtain ⟨qQ,Hq,h⟩:=p' h;refine ⟨qj.pl,_,Tw Hq,rC,?_⟩;(conv=>whnf);cases qQ
     ·(conv=>whnf);replace h:=rq rfl h;exact qe h jG rfl rfl
     ·(conv=>whnf);replace h:=rp rfl h;exact ⟨m,sg m,(w (s1+(1:Int))),_,rfl,rfl,h⟩
 ·rw [qH];conv=>whnf
  exact ra _ _ h ⟨rfl,rfl⟩
theorem Th {p:(qk×(Int×Int))} {order:qa} {changes:(List (Int×(Int×Int)))} {v:(Int×Int)} (h:KQ p order changes=some v):qw 20 [(.agg [(.av (p.1.flatMap p_) p.1.length .shared),(hX p.2.1),(hX p.2.2)]),(.av (order.map hX) order.length .shared),(.av (changes.flatMap qy) changes.length .shared)] (.tuple [(hX v.1),(hX v.2)]):=by
 refine qO eD aeP rfl (Is (p7 rfl (p7 rfl rfl))) fun Q bo=>?_;have jG:qL [.tmp 6,.tmp 7] Q (fun v=>(.tuple [(hX v.1),(hX v.2)])) v:=fun T H bD=>bo _ T H bD;unfold KQ at h;unfold aaf;obtain ⟨r_,qD⟩:∃ c,Qa=c:=⟨_,rfl⟩;rw [qD];conv=>whnf
 obtain ⟨aS,gJ,h⟩:=p' h;refine ⟨qj.pl,_,P1 gJ,?_⟩;conv=>whnf
 refine bs h (fun gK h=>?_) fun gK h=>?_
 ·rw [gK];conv=>whnf
  obtain ⟨bh,qt,h⟩:=p' h;refine ⟨qj.pl,_,P1 qt,?_⟩;conv=>whnf
  exact qe h jG rfl rfl
 ·rw [gK];conv=>whnf
  subst qD;refine air ?_ ?_ (by exact rfl) h
  ·exact fun T H bD=>jG T H bD
  ·intro Jt qf h qA;obtain ⟨rr,rfl⟩:=qA.ex;(conv=>whnf);obtain ⟨q4,Hw,h⟩:=p' h;refine ⟨qj.pl,_,ai2 Hw,?_⟩;(conv=>whnf);obtain ⟨rQ,H0,h⟩:=p' h;refine ⟨qj.pl,_,ZH H0,?_⟩;(conv=>whnf);refine bs h (fun HI h=>?_) fun HI h=>?_
   ·rw [HI];(conv=>whnf);exact qe h jG rfl rfl
   ·rw [HI];(conv=>whnf);exact qe h jG rfl rfl
end Go.Proofs.YtkoioidpbbbaiaaGreat.Ab


namespace Go.Proofs.YtkoioidpbbbaiaaGreat.Ab
open Go
set_option maxRecDepth 20000
set_option maxHeartbeats 1000000
def r4:List qC→List qN→List qN
 | [],S=>S
 | c::r,S=>r4 r (S.set c.1.toNat c.2)
theorem N4:∀ (l:List qC) (S:List qN),(r4 l S).length=S.length
 | [],_=>rfl
 | c::r,S=>by rw [r4,N4 r];simp
def HA (n:Int):List qC→Int→Prop
 | [],_=>True
 | c::r,m=>m≤c.1∧c.1<n∧q3 c.2∧HA n r (c.1+1)
instance afM (n:Int):∀ (l:List qC) (m:Int),Decidable (HA n l m)
 | [],_=>isTrue trivial
 | c::r,m=>by unfold HA;exact @instDecidableAnd _ _ _ (@instDecidableAnd _ _ _ (@instDecidableAnd _ _ _ (afM n r (c.1+1))))
theorem S3 {n:Int}:∀ {l:List qC} {S:List qN} {m:Int},HA n l m→(∀ s∈S,q3 s)→∀ s∈r4 l S,q3 s
 | [],_,_,_,h=>h
 | c::r,S,m,ao,h=>by
   refine S3 (l:=r) ao.2.2.2 fun s ah=>?_;rcases List.mem_or_eq_of_mem_set ah with ab | ab
   ·exact h s ab
   ·rw [ab];exact ao.2.2.1
theorem U' {n:Nat} (aI:n≤1000):∀ (l:List qC) (S:List qN) (m:Int),S.length=n→0≤m→m≤1000→L' n l S m=some (if HA n l m then some (r4 l S) else none)
 | [],S,m,_,_,_=>rfl
 | c::r,S,m,cl,hm,nM=>by
   unfold L';rw [qG (n:=(n:Int)-1) (by omega),MZ,sc];by_cases ab:m≤c.1∧c.1<(n:Int)
   ·rw [if_pos (by simp;omega),ZM,sc];by_cases ae:q3 c.2
    ·rw [if_neg (by simpa using ae),qx (by omega),qG (by omega),U' aI r _ _ (by simp [cl]) (by omega) (by omega)];by_cases aF:HA n r (c.1+1)
     ·rw [if_pos aF,if_pos ⟨ab.1,ab.2,ae,aF⟩];rfl
     ·rw [if_neg aF,if_neg fun k=>aF k.2.2.2]
    ·rw [if_pos (by simpa using ae),if_neg fun k=>ae k.2.2.1]
   ·rw [if_neg (by simp;omega),if_neg fun k=>ab ⟨k.1,k.2.1⟩]
theorem U_ {n:Nat}:∀ (l:List qC) (S:List qN) (m:Int),S.length=n→0≤m→HA n l m→K_ l S=some (r4 l S)
 | [],_,_,_,_,_=>rfl
 | c::r,S,m,cl,hm,ao=>by
   unfold K_;have ab:=ao.1;have ae:=ao.2.1;rw [qx (by omega)];exact U_ r _ (c.1+1) (by simp [cl]) (by omega) ao.2.2.2
section
variable {p:qn} {o:List Int} {l:List qC}
theorem PR (aB:p.1.length≤1000) (ao:o.length≤12) (ak:l.length≤1000):JL p o l=some (if rV p o=0 then (if HA p.1.length l 0 then (if 0<q' (r4 l p.1,p.2) o then (0,23) else ((l.length:Int),0)) else (0,3)) else (0,rV p o)):=by
 unfold JL;rw [PX aB ao,sc];by_cases h:rV p o=0
 ·rw [if_pos h,if_pos h];obtain ⟨ad,al⟩:=Lp.1 h;have J7:=ad.len;simp only;rw [if_neg (by decide),qx ⟨fun e=>by rw [e] at J7;simp at J7,aB,ak⟩,U' aB l p.1 0 rfl (by omega) (by omega),sc];by_cases ab:HA p.1.length l 0
  ·rw [if_pos ab,if_pos ab];simp only;have dd:rk (r4 l p.1,p.2):=⟨by rw [N4];exact ad.n,S3 ab ad.s,ad.lo,ad.le,ad.hi⟩;rw [Og dd (by rw [N4];exact al),sc];by_cases ae:0<q' (r4 l p.1,p.2) o
   ·rw [if_pos (decide_eq_true ae),if_pos ae]
   ·rw [if_neg (by simpa using ae),if_neg ae]
  ·rw [if_neg ab,if_neg ab]
 ·rw [if_neg h,if_neg h];simp only;rw [if_pos (decide_eq_true h)]
theorem Wg (aB:p.1.length≤1000) (ak:l.length≤1000) {K:Option (Int×Int)}:∀ (m i:Nat),i≤l.length→l.length-i<m→∀ (t:Int),(i=0→t=0)→(0<i→t=(ix l ((i-1:Nat):Int)).1+1∧0<t∧t≤1000) →
  Kh p l (fun _=>K) m (i:Int)=if HA p.1.length (l.drop i) t then K else some (0,3)
 | 0,_,_,h,_,_,_=>absurd h (by omega)
 | m+1,i,hi,hm,t,aQ,ab=>by
   rw [Kh];by_cases aR:i<l.length
   ·rw [if_pos (decide_eq_true (by omega)),qx (by omega),sV aR,←rI aR,Hr i (by omega)];have a8:=Wg aB ak (K:=K) m (i+1) (by omega) (by omega) ((ix l (i:Int)).1+1) (fun e=>by omega);by_cases cq:(ix l (i:Int)).1<0
    ·rw [if_pos (decide_eq_true cq),if_neg];intro k;have:=k.1;by_cases e:i=0
     ·have:=aQ e;omega
     ·have:=ab (by omega);omega
    ·rw [if_neg (by simpa using by omega)];by_cases af:(p.1.length:Int)≤(ix l (i:Int)).1
     ·rw [if_pos (decide_eq_true af),if_neg fun k=>by have:=k.2.1;omega]
     ·rw [if_neg (by simpa using by omega),ZP];have fin:t≤(ix l (i:Int)).1→((some (decide (q3 (ix l (i:Int)).2))).bind fun r=>if r=true then Kh p l (fun _=>K) m ((i+1:Nat):Int) else some (0,3))=if HA p.1.length (ix l (i:Int)::l.drop (i+1)) t then K else some (0,3):=fun ax=>by
       rw [sc];by_cases ah:q3 (ix l (i:Int)).2
       ·rw [if_pos (decide_eq_true ah),a8 fun _=>⟨by simp,by omega,by omega⟩];by_cases ai:HA p.1.length (l.drop (i+1)) ((ix l (i:Int)).1+1)
        ·rw [if_pos ai,if_pos ⟨ax,by omega,ah,ai⟩]
        ·rw [if_neg ai,if_neg fun k=>ai k.2.2.2]
       ·rw [if_neg (by simpa using ah),if_neg fun k=>ah k.2.2.1]
      by_cases e:0<i
      ·obtain ⟨t1,t2,t3⟩:=ab e;rw [if_pos (decide_eq_true (by omega)),qG (by omega),show (i:Int)-1=((i-1:Nat):Int) by omega,qx (by omega)];by_cases a1:(ix l (i:Int)).1≤(ix l ((i-1:Nat):Int)).1
       ·rw [if_pos (decide_eq_true a1),if_neg fun k=>by have:=k.1;omega]
       ·rw [if_neg (by rw [decide_eq_true_eq];exact a1)];exact fin (by omega)
      ·rw [if_neg (by simpa using by omega)];exact fin (by have:=aQ (by omega);omega)
   ·rw [if_neg (by simpa using by omega),uR (by omega),if_pos (show HA _ [] t from trivial)]
theorem Tg (aB:p.1.length≤1000) (ao:o.length≤12) (ak:l.length≤1000):KQ p o l=some (if rV p o=0 then (if HA p.1.length l 0 then (if 0<q' (r4 l p.1,p.2) o then (0,23) else ((l.length:Int),0)) else (0,3)) else (0,rV p o)):=by
 unfold KQ;rw [ZO aB (by omega),sc,sc];by_cases h:rV p o=0
 ·rw [if_neg (show ¬ decide (rV p o≠0)=true by simpa using h),if_pos h];obtain ⟨ad,al⟩:=Lp.1 h;have J7:=ad.len;have:=Wg aB ak (K:=(Oj p l).bind fun q4=>(LM q4 o).bind fun rQ=>if (decide ((0:Int)<rQ))=true then some ((0:Int),(23:Int)) else some ((l.length:Int),(0:Int))) qi 0 (by omega) (r6 (by omega)) 0 (fun _=>rfl) (fun h=>absurd h (by omega));rw [tu] at this;refine this.trans ?_;by_cases ab:HA p.1.length l 0
  ·rw [if_pos ab,if_pos ab];unfold Oj;rw [qx ⟨fun e=>by rw [e] at J7;simp at J7,aB,ak⟩,U_ l p.1 0 rfl (by omega) ab,sc,sc];have dd:rk (r4 l p.1,p.2):=⟨by rw [N4];exact ad.n,S3 ab ad.s,ad.lo,ad.le,ad.hi⟩;rw [ZG dd (by rw [N4];exact al),sc];by_cases ae:0<q' (r4 l p.1,p.2) o
   ·rw [if_pos (decide_eq_true ae),if_pos ae]
   ·rw [if_neg (by simpa using ae),if_neg ae]
  ·rw [if_neg ab,if_neg ab]
 ·rw [if_pos (decide_eq_true h),if_neg h]
end
end Go.Proofs.YtkoioidpbbbaiaaGreat.Ab


namespace Go.Proofs.YtkoioidpbbbaiaaGreat.Ab
open Go
noncomputable def agI:gB :=
 .ou false [p4 48 9,p4 49 10,p3 50 [.Bs 49] (.yB 1 1 [.int .i64 0] [0]),p3 51 [.jm 48,.jm 50] (.app 1 8),p4 9 51]
noncomputable def Sx:gB :=
 p5 [p6 44 0,p6 45 10,p3 46 [.cv (.func 77 [] []),.jm 44,.jm 45] (.call 9),qv 47 46 0 .gtr] (.cond (.m_ 47) agI .skip)
noncomputable def Sy:gB :=
 .seq (p5 [p6 34 0,p6 35 1,p6 36 2,p6 37 10,p3 38 [.Bs 37] (.yB 1 1 [.int .i64 0] [0]),p3 39 [.cv (.func 60 [] []),.jm 34,.jm 35,.jm 36,.jm 38] (.call 1),p4 33 39,qR 40 33 0,p3 41 [.Bs 33] (.ext 1),p4 11 40,p4 12 41] (p5 [p4 42 12] (.cond (.m_ 42) (p5 [p4 43 11,p4 6 43] .ret) .skip))) Sx
noncomputable def Yd:gB :=
 .seq (p5 [p6 29 10,qv 30 29 2 .rem,p6 31 2,qq 32 30 31 .neq] (.cond (.m_ 32) (.exit 1) .skip)) Sy
noncomputable def Ye:gB :=
 .block 1 (p5 [p6 28 26,p4 10 28] Yd)
noncomputable def Sz:gB :=
 .ou true [p4 59 13,p6 60 1,p6 61 15,rn 62 60 61 1,qm 63 62,p6 64 0,p3 65 [.Bs 64] .z4,qK 66 65 0,qK 67 66 0,qm 68 67,p6 69 1,p6 70 1,q2 71 70,qv 72 71 1 .sub,p6 73 15,qq 74 72 73 .sub,rn 75 69 74 1,qm 76 75,rn 77 68 76 2,p3 78 [.Bs 77] (.zE (.str 2)),p3 79 [.Bs 63,.Bs 78] (.build [.int .i64 0,.int .i64 0,.int .i64 0] [(0,1),(1,2)]),p3 80 [.Bs 79] (.yB 1 3 [.int .i64 0,.int .i64 0,.int .i64 0] [0]),p3 81 [.jm 59,.jm 80] (.app 3 24),p4 13 81]
noncomputable def Yf:gB :=
 .block 3 (p5 [p3 57 [.m_ 53,.m_ 55] (.kV 1),qm 58 57,p4 15 58] Sz)
noncomputable def Pk:gB :=
 .loop (some (qd false [0,2,11,1,39,3,28])) (p5 [p3 56 [.m_ 55,.m_ 54] (.bin .lss)] (.seq (.cond (.m_ 56) .skip (.exit 2)) (.seq Yf (qF [qW 82 55 1,p4 55 82]))))
noncomputable def SA:gB :=
 .seq (p5 [p4 53 9,p3 54 [.m_ 53] .zJ,qh 55 0] (.block 2 Pk)) (p5 [p4 83 13,p4 6 83] .ret)
noncomputable def Pl:gB :=
 .loop (some (qd false [0,3,6,1,15,2,57])) (p5 [p3 27 [.m_ 26,.m_ 25] (.bin .lss)] (.seq (.cond (.m_ 27) .skip (.exit 0)) (.seq Ye (qF [qW 52 26 1,p4 26 52]))))
noncomputable def SB:gB :=
 .seq (p5 [p6 24 1,q2 25 24,qh 26 0] (.block 0 Pl)) (p5 [p3 13 [.cv (.av [] 0 .full)] (.nil 3)] SA)
noncomputable def Yc:gB :=
 .seq (p5 [p6 17 0,p6 18 1,p6 19 2,p3 20 [.cv (.func 60 [] []),.jm 17,.jm 18,.jm 19,.cv (.av [] 0 .full)] (.call 1),p4 16 20,qR 21 16 0,p3 22 [.Bs 16] (.ext 1),p4 7 21,p4 8 22] (p5 [p4 23 8] (.cond (.m_ 23) (p5 [p3 6 [.cv (.av [] 0 .full)] (.nil 3)] .ret) .skip))) (p5 [p3 9 [.cv (.av [] 0 .full)] (.nil 1)] SB)
noncomputable def Pj:gB :=
 p5 [p3 6 [.cv (.av [] 0 .full)] (.nil 3)] Yc
theorem R0:qu Go.Proofs.Tryz.prog K7 57=some (Pj,84,[.tmp 6]):=by qb
end Go.Proofs.YtkoioidpbbbaiaaGreat.Ab


namespace Go.Proofs.YtkoioidpbbbaiaaGreat.Ab
open Go
set_option maxRecDepth 20000
set_option maxHeartbeats 4000000
def Ju (b:sa) (order:List Int) (qo:Int):List Int→Nat→List Int→Option (Nat×(List qC ⊕ List Int))
 | [],k,ad=>some (k,.inr ad)
 | i::r,k,ad =>
   if i.tmod 2≠qo then Ju b order qo r (k+1) ad
   else (Ix b order qo [i]).bind fun q=>if q.2=true then some (k+1,.inl q.1) else
    (Kp b i).bind fun p=>Ju b order qo r (k+1) (if 0<p then ad++[i] else ad)
def Jk (b:sa) (order:List Int):List Int→List qC→Option (List qC)
 | [],out=>some out
 | i::r,out=>qs (0≤i∧i<(order.length:Int)) <| qs (0≤w (w (order.length-1)-i)∧w (w (order.length-1)-i)<(order.length:Int)) <|
   qs (0≤ix order (w (w (order.length-1)-i))∧ix order (w (w (order.length-1)-i))<(b.1.1.length:Int)) <|
   Jk b order r (out++[(ix order i,ix b.1.1 (ix order (w (w (order.length-1)-i))))])
theorem afR {b:sa} {m lo:Nat} {order ad:List Int} {v:List qC} (h:Jk b order ad []=some v) (ao:ad.length≤1000) {T:List I} {H:List ar} {Q:cN→List I→List ar→Prop}
  (bZ:eW [true,true,false,false,false,false,false,false,false,false,false,false,false,true,false,false,false,false,false,false,false,false,false,false,false,false,false,false,false,false,false,false,false,false,false,false,false,false,false,false,false,false,false,false,false,false,false,false,false,false,false,false,false,true,true,true,false,false,false,false,false,false,false,false,false,false,false,false,false,false,false,false,false,false,false,false,false,false,false,false,false,false,false,false] T=qg 84 [(0,r1 b m),(1,.av (order.map hX) order.length .shared),(13,.av [] 0 (.uniq 3)),(53,.av (ad.map hX) ad.length (.own 1)),(54,hX ad.length),(55,hX 0)])
  (bo:∀ Zg Zh Zi Zj,Q (.exit 2) (qg 84 [(0,r1 b m),(1,.av (order.map hX) order.length .shared),(13,.av (v.flatMap qy) v.length (.uniq 3)),(53,Zg),(54,Zh),(55,Zi),(56,Zj)]) H) :
  dN Tryz.prog K7 57 lo none Pk T H Q:=by
 unfold Pk;refine wp_loop bZ ?_;refine .intro (fun ho T H'=>∃ (i:Nat) (out:List qC),i≤ad.length∧ho=ad.length-i∧out.length=i∧Jk b order (ad.drop i) out=some v∧T=qg 84 [(0,r1 b m),(1,.av (order.map hX) order.length .shared),(13,.av (out.flatMap qy) out.length (.uniq 3)),(53,.av (ad.map hX) ad.length (.own 1)),(54,hX ad.length),(55,hX i)]∧H'=H) ad.length ⟨0,[],sE _,rfl,rfl,h,rfl,rfl⟩ ?_;clear bZ h;rintro ho T H' ⟨i,out,hi,rfl,aq,al,rfl,rfl⟩;conv=>whnf
 refine HH (fun aR=>?_) (fun aR=>?_)
 ·have HJ:i<ad.length:=by omega
  have ID:0≤(i:Int)∧(i:Int)<(ad.length:Int):=by omega
  rw [sV HJ] at al;unfold Jk at al;obtain ⟨cc,al⟩:=rW al;obtain ⟨b_,al⟩:=rW al;obtain ⟨eP,al⟩:=rW al;unfold Yf;obtain ⟨fY,Hp⟩:∃ c,Sz=c:=⟨_,rfl⟩;rw [Hp];conv=>whnf
  refine ⟨ID,?_⟩;rw [rj hX ad (i:Int) ID,rI HJ];conv=>whnf
  subst Hp;unfold Sz;conv=>whnf
  refine ⟨cc,?_⟩;rw [rj hX order _ cc];conv=>whnf
  refine ⟨b_,?_⟩;rw [rj hX order _ b_];conv=>whnf
  refine ⟨eP,?_⟩;rw [IZ p_ 2 Lq b.1.1 _ eP];conv=>whnf
  refine ⟨rfl,by decide,?_⟩;conv=>whnf
  refine ⟨by decide,by omega,?_⟩;conv=>whnf
  have rK:IntKind.i64.wrap ((i:Int)+1)=((i+1:Nat):Int):=by rw [HR _ (by omega) (by omega)];omega
  refine ⟨ad.length-(i+1),by omega,i+1,_,by omega,rfl,by simp [aq],al,?_,rfl⟩;rw [rK,uB,sD];rfl
 ·have:i=ad.length:=by omega
  subst this;rw [List.drop_length] at al;obtain rfl:=Option.some.inj al;conv=>whnf
  exact bo _ _ _ _
theorem ahO {n i:Nat} (h:i<n):(qp n).drop i=(i:Int)::(qp n).drop (i+1):=by
 have ao:i<(qp n).length:=by rw [LA];exact h
 rw [sV ao];simp [qp]
theorem adV {b:sa} {m lo k:Nat} {order:List Int} {qo:Int} {res:List qC ⊕ List Int} (h:Ju b order qo (qp order.length) 0 []=some (k,res)) (ao:order.length≤1000) {Hs:Nat→List ar}
  (cl:∀ (i:Nat) q,(i:Int).tmod 2=qo→Ix b order qo [(i:Int)]=some q→Sem Tryz.prog (.fn 60) [r1 b m,.av (order.map hX) order.length .shared,hX qo,.av [hX (i:Int)] 1 (.uniq 1)] (Hs i) lo (.tuple [.av (q.1.flatMap qy) q.1.length .shared,B q.2]) (Hs (i+1)))
  (bI:∀ i:Nat,(i:Int).tmod 2≠qo→Hs (i+1)=Hs i) {T:List I} {Q:cN→List I→List ar→Prop}
  (bZ:eW [true,true,true,false,false,false,false,false,false,true,false,false,false,false,false,false,false,false,false,false,false,false,false,false,false,true,true,false,false,false,false,false,false,false,false,false,false,false,false,false,false,false,false,false,false,false,false,false,false,false,false,false,false,false,false,false,false,false,false,false,false,false,false,false,false,false,false,false,false,false,false,false,false,false,false,false,false,false,false,false,false,false,false,false] T=qg 84 [(0,r1 b m),(1,.av (order.map hX) order.length .shared),(2,hX qo),(9,.av [] 0 (.uniq 1)),(25,hX order.length),(26,hX 0)])
  (ac4:∀ q T,res=.inl q→r0 (Hs k) T [.tmp 6]=some [.av (q.flatMap qy) q.length .shared]→Q .ret T (Hs k))
  (ac5:∀ ad Zc Zd Ze,res=.inr ad→ad.length≤order.length→Q (.exit 0) (qg 84 [(0,r1 b m),(1,.av (order.map hX) order.length .shared),(2,hX qo),(9,.av (ad.map hX) ad.length (.uniq 1)),(25,Zc),(26,Zd),(27,Ze)]) (Hs k)) :
  dN Tryz.prog K7 57 lo none Pl T (Hs 0) Q:=by
 unfold Pl;refine wp_loop bZ ?_;refine .intro (fun ho T H'=>∃ (i:Nat) (ad:List Int),i≤order.length∧ho=order.length-i∧ad.length≤i∧Ju b order qo ((qp order.length).drop i) i ad=some (k,res)∧T=qg 84 [(0,r1 b m),(1,.av (order.map hX) order.length .shared),(2,hX qo),(9,.av (ad.map hX) ad.length (.uniq 1)),(25,hX order.length),(26,hX i)]∧H'=Hs i) order.length ⟨0,[],sE _,rfl,se _,h,rfl,rfl⟩ ?_;clear bZ h;rintro ho T H' ⟨i,ad,hi,rfl,adw,al,rfl,rfl⟩;conv=>whnf
 have rK:i<order.length→IntKind.i64.wrap ((i:Int)+1)=((i+1:Nat):Int):=fun _=>by rw [HR _ (by omega) (by omega)];omega
 refine HH (fun aR=>?_) (fun aR=>?_)
 ·have HJ:i<order.length:=by omega
  rw [ahO HJ] at al;unfold Ju at al;unfold Ye Yd;obtain ⟨br,eP⟩:∃ c,Sy=c:=⟨_,rfl⟩;rw [eP];conv=>whnf
  refine ⟨by decide,?_⟩;conv=>whnf
  by_cases KD:(i:Int).tmod 2=qo
  ·rw [decide_eq_false (show ¬ ((i:Int).tmod 2≠qo) from fun h=>h KD)];rw [if_neg (fun h=>h KD)] at al;obtain ⟨q,a_,al⟩:=p' al;(conv=>whnf);subst eP;unfold Sy;obtain ⟨a9,b_⟩:∃ c,Sx=c:=⟨_,rfl⟩;rw [b_];(conv=>whnf);refine ⟨_,_,rH (cl i q KD a_),?_⟩;(conv=>whnf);obtain ⟨q1,aW⟩:=q;cases aW with
   | true =>
     rw [if_pos rfl] at al;obtain ⟨ab,ae⟩:=Prod.mk.inj (Option.some.inj al);subst ab;(conv=>whnf);exact ac4 _ _ ae.symm rfl
   | false =>
     rw [if_neg (by simp)] at al;obtain ⟨pl,hg,al⟩:=p' al;(conv=>whnf);subst b_;unfold Sx;(conv=>whnf);refine ⟨_,_,call9 (bs:=[lj b,hX i]) rfl (p7 (Ie b) (p7 rfl rfl)) (K3 hg),?_⟩;(conv=>whnf);refine HH (fun aB=>?_) (fun aB=>?_)
     ·rw [if_pos aB] at al;(conv=>whnf);refine ⟨rfl,by decide,?_⟩;(conv=>whnf);refine ⟨by decide,by omega,?_⟩;(conv=>whnf);refine ⟨order.length-(i+1),by omega,i+1,_,by omega,rfl,by simp;omega,al,?_,rfl⟩;rw [rK HJ,sR,sD];rfl
     ·rw [if_neg aB] at al;(conv=>whnf);exact ⟨order.length-(i+1),by omega,i+1,ad,by omega,rfl,by omega,al,by rw [rK HJ];rfl,rfl⟩
  ·rw [decide_eq_true (show (i:Int).tmod 2≠qo from KD)];rw [if_pos KD] at al;(conv=>whnf);refine ⟨order.length-(i+1),by omega,i+1,ad,by omega,rfl,by omega,al,by rw [rK HJ];rfl,?_⟩;rw [bI i KD]
 ·have:i=order.length:=by omega
  subst this;rw [uR (by rw [LA];omega)] at al;obtain ⟨ab,ae⟩:=Prod.mk.inj (Option.some.inj al);subst ab;conv=>whnf
  exact ac5 _ _ _ _ ae.symm adw
def K0 (b:sa) (order:List Int) (qo:Int):Option (List qC) :=
 qs (order.length≤1000) <|
 (Ix b order qo []).bind fun r=>if r.2=true then some [] else
 (Ju b order qo (qp order.length) 0 []).bind fun q=>match q.2 with
 | .inl l=>some l
 | .inr ad=>Jk b order ad []
theorem Ij.refl (m:Nat) (H:List ar):Ij m H H:=⟨se _,fun _ _ _=>rfl⟩
theorem Ij.trans {m:Nat} {H H1 H2:List ar} (h:Ij m H H1) (k:Ij m H1 H2):Ij m H H2 :=
 ⟨Nat.le_trans h.1 k.1,fun j aw ao=>by rw [k.2 j aw (by have:=h.1;omega),h.2 j aw ao]⟩
theorem ZR {b:sa} {order:List Int} {qo:Int} {v:List qC} (h:K0 b order qo=some v) {m lo:Nat} {H:List ar} (bC:lo≤m) (bF:HX b m H) :
  ∃ H' c,(c=.shared∨c=.uniq 3∨c=.own 3)∧HX b m H'∧Ij m H H'∧Sem Tryz.prog (.fn 57) [r1 b m,.av (order.map hX) order.length .shared,hX qo] H lo (.av (v.flatMap qy) v.length c) H':=by
 unfold K0 at h;obtain ⟨aI,h⟩:=rW h;obtain ⟨r,ai,h⟩:=p' h;have en:m<H.length:=by obtain ⟨_,_,ab,_⟩:=bF;exact (sd.1 ab).1
 obtain ⟨dz,o,ac6⟩:=ZV ai (m:=m) (lo:=lo) (H:=H) (by omega);obtain ⟨aS,bh⟩:=r;have dz:aS=[]:=dz;subst dz
 classical
 obtain ⟨Hs,gI,Me⟩:=OJ (fun i rR H9=>HX b m rR→(HX b m H9∧Ij m rR H9∧a' lo rR H9)∧(∀ q,(i:Int).tmod 2=qo→Ix b order qo [(i:Int)]=some q→Sem Tryz.prog (.fn 60) [r1 b m,.av (order.map hX) order.length .shared,hX qo,.av [hX (i:Int)] 1 (.uniq 1)] rR lo (.tuple [.av (q.1.flatMap qy) q.1.length .shared,B q.2]) H9)∧((i:Int).tmod 2≠qo→H9=rR)) (H++[o]) (fun i rR=>by
  by_cases aP:HX b m rR
  ·by_cases hm:(i:Int).tmod 2=qo
   ·cases a_:Ix b order qo [(i:Int)] with
    | none=>exact ⟨rR,fun _=>⟨⟨aP,Ij.refl _ _,a'.refl _ _⟩,(fun q _ h=>by cases h),fun h=>absurd hm h⟩⟩
    | some q =>
      obtain ⟨H',f1,f2,f3⟩:=ZW a_ bC aP;exact ⟨H',fun _=>⟨⟨f1,f2,f3.1⟩,(fun fT _ h=>by obtain rfl:=Option.some.inj h;exact f3),fun h=>absurd hm h⟩⟩
   ·exact ⟨rR,fun _=>⟨⟨aP,Ij.refl _ _,a'.refl _ _⟩,fun q h _=>absurd h hm,fun _=>rfl⟩⟩
  ·exact ⟨rR,fun h=>absurd h aP⟩)
 have cY:∀ i,HX b m (Hs i)∧Ij m H (Hs i)∧a' lo H (Hs i):=fun i=>by
  induction i with
  | zero=>rw [gI];exact ⟨bF.more _,⟨by simp,fun j _ aw=>by rw [sk aw]⟩,a'.append _ _ _⟩
  | succ i a8 =>
    obtain ⟨⟨aA,aG,aT⟩,_,_⟩:=Me i a8.1;exact ⟨aA,a8.2.1.trans aG,a8.2.2.trans aT⟩
 have start:∀ (Q:cN→List I→List ar→Prop) (B9:gB),SB=B9→(bh=true→∀ T,r0 (H++[o]) T [.tmp 6]=some [.av [] 0 (.uniq 3)]→Q .ret T (H++[o]))→(bh=false→∀ JJ,dN Tryz.prog K7 57 lo none B9 (qg 84 [(0,r1 b m),(1,.av (order.map hX) order.length .shared),(2,hX qo),(6,.av [] 0 (.uniq 3)),(7,JJ),(9,.av [] 0 (.uniq 1)),(23,.bool false)]) (H++[o]) Q) →
   dN Tryz.prog K7 57 lo none Pj (qg 84 [(0,r1 b m),(1,.av (order.map hX) order.length .shared),(2,hX qo)]) H Q:=by
  intro Q B9 adn ab ae;unfold Pj Yc;rw [adn];conv=>whnf
  refine ⟨_,_,rH ac6,?_⟩;conv=>whnf
  cases bh with
  | true =>
    (conv=>whnf);exact ab rfl _ rfl
  | false =>
    (conv=>whnf);exact ae rfl _
 cases bh with
 | true =>
   rw [if_pos rfl] at h;obtain rfl:=Option.some.inj h;refine ⟨H++[o],.uniq 3,.inr (.inl rfl),bF.more _,⟨by simp,fun j _ aw=>by rw [sk aw]⟩,?_⟩;refine rL eD R0 rfl (a'.append _ _ _) fun Q bo=>?_;refine start Q _ rfl (fun _ T bZ=>?_) (fun h=>by cases h);exact bo _ _ _ ⟨.inr rfl,lF.refl _,by rw [bZ];rfl⟩
 | false =>
   rw [if_neg (by simp)] at h;obtain ⟨⟨k,res⟩,ak,h⟩:=p' h;have pA:∀ (Q:cN→List I→List ar→Prop),
     (∀ q T,res=.inl q→r0 (Hs k) T [.tmp 6]=some [.av (q.flatMap qy) q.length .shared]→Q .ret T (Hs k)) →
     (∀ ad,res=.inr ad→∃ bn,Jk b order ad []=some bn∧∀ T,r0 (Hs k) T [.tmp 6]=some [.av (bn.flatMap qy) bn.length (.uniq 3)]→Q .ret T (Hs k)) →
     dN Tryz.prog K7 57 lo none Pj (qg 84 [(0,r1 b m),(1,.av (order.map hX) order.length .shared),(2,hX qo)]) H Q:=by
    intro Q ab ae;refine start Q _ rfl (fun h=>by cases h) fun _ JJ=>?_;unfold SB;obtain ⟨a9,b_⟩:∃ c,Pl=c:=⟨_,rfl⟩;obtain ⟨ns,Jw⟩:∃ c,SA=c:=⟨_,rfl⟩;rw [b_,Jw];(conv=>whnf);subst b_;rw [←gI];refine adV (b:=b) (m:=m) (lo:=lo) ak aI (Hs:=Hs) (fun i q hm a_=>(Me i (cY i).1).2.1 q hm a_) (fun i hm=>(Me i (cY i).1).2.2 hm) (by exact rfl) (fun q T a_ bZ=>?_) (fun ad Zc Zd Ze a_ xe=>?_)
    ·(conv=>whnf);exact ab q T a_ bZ
    ·obtain ⟨bn,aq,ai⟩:=ae ad a_;(conv=>whnf);subst Jw;unfold SA;obtain ⟨a7,cc⟩:∃ c,Pk=c:=⟨_,rfl⟩;rw [cc];(conv=>whnf);subst cc;refine afR (b:=b) (m:=m) (lo:=lo) aq (by omega) (by exact rfl) fun Zg Zh Zi Zj=>?_;(conv=>whnf);exact ai _ rfl
   have Mi:=cY k;cases res with
   | inl l =>
     obtain rfl:=Option.some.inj h;refine ⟨Hs k,.shared,.inl rfl,Mi.1,Mi.2.1,?_⟩;refine rL eD R0 rfl Mi.2.2 fun Q bo=>?_;refine pA Q (fun q T a_ bZ=>?_) (fun ad a_=>by cases a_);injection a_ with a_;subst a_;exact bo _ _ _ ⟨.inr rfl,lF.refl _,by rw [bZ];rfl⟩
   | inr ad =>
     refine ⟨Hs k,.uniq 3,.inr (.inl rfl),Mi.1,Mi.2.1,?_⟩;refine rL eD R0 rfl Mi.2.2 fun Q bo=>?_;refine pA Q (fun q T a_ bZ=>by cases a_) (fun bg a_=>⟨v,?_,fun T bZ=>?_⟩)
     ·injection a_ with a_;subst a_;exact h
     ·exact bo _ _ _ ⟨.inr rfl,lF.refl _,by rw [bZ];rfl⟩
end Go.Proofs.YtkoioidpbbbaiaaGreat.Ab


namespace Go.Proofs.YtkoioidpbbbaiaaGreat.Ab
open Go
noncomputable def agB:gB :=
 p5 [p6 19 3, qv 20 19 0 .lss] (.cond (.m_ 20) (qF [p3 21 [.cv (.str (ByteArray.mk (Array.mk [108, 101, 110, 32, 111, 117, 116, 32, 111, 102, 32, 114, 97, 110, 103, 101])))] (.other (Oper.mk (some 21) (Op.makeInterface 9 (Operand.const (Value.string (ByteArray.mk (Array.mk [108, 101, 110, 32, 111, 117, 116, 32, 111, 102, 32, 114, 97, 110, 103, 101]))))) 20 "slices.go:496" (Array.mk []) none) 0), ⟨none, [.Bs 21], none, none, .other (Oper.mk none (Op.panic (Operand.tmp 21)) 0 "slices.go:496" (Array.mk [Edge.mk 0 Ground.data]) none) 0⟩]) .skip)
noncomputable def agC:gB :=
 p5 [p4 15 3,p4 16 5,q2 17 16,qq 18 15 17 .add,p4 3 18] agB
noncomputable def agD:gB :=
 .block 1 (p5 [p3 13 [.m_ 9,.m_ 11] (.kV 1),qm 14 13,p4 5 14] agC)
noncomputable def agE:gB :=
 .ou false [p4 31 6,p4 32 8,p3 33 [.jm 31,.jm 32] (.app 3 24),p4 6 33]
noncomputable def agF:gB :=
 .block 3 (p5 [p3 29 [.m_ 25,.m_ 27] (.kV 1),qm 30 29,p4 8 30] agE)
noncomputable def agG:gB :=
 .seq (p5 [p4 25 0,p3 26 [.m_ 25] .zJ,qh 27 0] (.block 2 (.loop (some (qd false [6,1,18,3,8])) (p5 [p3 28 [.m_ 27,.m_ 26] (.bin .lss)] (.seq (.cond (.m_ 28) .skip (.exit 2)) (.seq agF (qF [qW 34 27 1,p4 27 34]))))))) (p5 [p4 35 6,p4 2 35] .ret)
noncomputable def agH:gB :=
 .seq (p5 [p6 9 0,p3 10 [.m_ 9] .zJ,qh 11 0] (.block 0 (.loop (some (qd false [0,1,2,1,5,3,24])) (p5 [p3 12 [.m_ 11,.m_ 10] (.bin .lss)] (.seq (.cond (.m_ 12) .skip (.exit 0)) (.seq agD (qF [qW 22 11 1,p4 11 22]))))))) (p5 [p4 23 3,p3 24 [.cv (.func 76 [] []),.cv (.av [] 0 .full),.m_ 23] (.call 0),p4 6 24] agG)
noncomputable def Yb:gB :=
 p5 [p3 2 [.cv (.av [] 0 .full)] (.nil 3)] (p5 [qh 3 0] agH)
theorem aem:qu Go.Proofs.Tryz.prog UE 56=some (Yb,36,[.tmp 2]):=by qb
end Go.Proofs.YtkoioidpbbbaiaaGreat.Ab


namespace Go.Proofs.YtkoioidpbbbaiaaGreat.Ab
open Go
set_option maxRecDepth 20000
set_option maxHeartbeats 4000000
noncomputable def PA (k:Nat) (args:List I):Option I:=match fZ Go.Proofs.Tryz.prog jA (PF []) 300 (.fn k) args [] 0 with
 | some (r,H2)=>match bL H2 0 H2.length 0 8 r with
   | some v=>match cn 8 v with
     | true=>some v
     | false=>none
   | none=>none
 | none=>none
theorem YG {k:Nat} {args:List I} {v:I} (h:PA k args=some v):nj Go.Proofs.Tryz.prog k args v:=by
 unfold PA at h;split at h
 ·rename_i r H2 ak;split at h
  ·rename_i u aP;split at h
   ·rename_i aB;cases h;have ah:=(Cb eD jA (Y8 (l:=[]) (by simp)) (W7 UX) 300).Ha ak;refine ⟨⟨a'.refl _ _,ah.2.1,fun B aa J S w xs ag aI ad=>CallsIn.mono (ah.2.2 B aa J S w xs ag aI ad) fun e w' he=>?_⟩,aB⟩;cases e with
    | returned x=>exact xG ag (fun id aE=>by simp at aE) aP he
    | panicked c=>exact he.elim
    | outgrown=>exact he.elim
   ·cases h
  ·cases h
 ·cases h
def O8:I→Bool
 | .av [] 0 (.uniq 3)=>true
 | _=>false
theorem V8 {v:I} (h:O8 v=true):v=.av [] 0 (.uniq 3):=by
 unfold O8 at h;split at h
 ·rfl
 ·cases h
theorem acU:((List.range 20).all fun n=>match PA 76 [.av [] 0 .full,.int .i64 ((n+1:Nat):Int)] with | some v=>O8 v | none=>false)=true:=by qb
theorem acV {n:Nat} (h:n<20):qw 76 [.av [] 0 .full,hX ((n+1:Nat):Int)] (.av [] 0 (.uniq 3)):=by
 have:=List.all_eq_true.1 acU n (List.mem_range.2 h);split at this
 ·rename_i v ad;rw [V8 this] at ad;exact YG ad
 ·cases this
theorem acu:(match PA 56 [.av [.av [] 0 .shared,.av [] 0 .shared] 2 (.uniq 1)] with | some v=>O8 v | none=>false)=true:=by qb
theorem acr:qw 56 [.av [.av [] 0 .shared,.av [] 0 .shared] 2 (.uniq 1)] (.av [] 0 (.uniq 3)):=by
 have:=acu;split at this
 ·rename_i v ad;rw [V8 this] at ad;exact YG ad
 ·cases this
abbrev LE (l:List qC):I:=.av (l.flatMap qy) l.length .shared
theorem acs {l1 l2:List qC} (aI:l1.length+l2.length≤20) {H:List ar} {lo:Nat}:Sem Tryz.prog (.fn 56) [.av [LE l1,LE l2] 2 (.uniq 1)] H lo (.av ((l1++l2).flatMap qy) (l1++l2).length (.uniq 3)) H:=by
 by_cases aQ:l1.length+l2.length=0
 ·obtain rfl:=sT.1 (show l1.length=0 by omega);obtain rfl:=sT.1 (show l2.length=0 by omega);have:=YK (H:=H) (by rfl) acr;exact ⟨a'.refl _ _,this.2⟩
 obtain ⟨k,al⟩:∃ k,l1.length+l2.length=k+1:=⟨l1.length+l2.length-1,by omega⟩;refine rL eD aem rfl (a'.refl _ _) fun Q bo=>?_;unfold Yb;conv=>whnf
 have bH:IntKind.i64.wrap (0+(l1.length:Int))=(l1.length:Int):=by rw [HR _ (by omega) (by omega)];omega
 have bW:IntKind.i64.wrap ((l1.length:Int)+(l2.length:Int))=((l1.length+l2.length:Nat):Int):=by rw [HR _ (by omega) (by omega)];omega
 refine .intro (fun m T H'=>(m=2∧T=qg 36 [(0,.av [LE l1,LE l2] 2 (.own 1)),(3,hX 0),(9,.av [LE l1,LE l2] 2 .shared),(10,hX 2),(11,hX 0)]∧H'=H)∨(m=1∧T=qg 36 [(0,.av [LE l1,LE l2] 2 (.own 1)),(3,hX l1.length),(9,.av [LE l1,LE l2] 2 .shared),(10,hX 2),(11,hX 1)]∧H'=H)∨(m=0∧T=qg 36 [(0,.av [LE l1,LE l2] 2 (.own 1)),(3,hX ((l1.length+l2.length:Nat):Int)),(9,.av [LE l1,LE l2] 2 .shared),(10,hX 2),(11,hX 2)]∧H'=H)) 2 (.inl ⟨rfl,rfl,rfl⟩) ?_;rintro m T H' (⟨rfl,rfl,rfl⟩ | ⟨rfl,rfl,rfl⟩ | ⟨rfl,rfl,rfl⟩)
 ·conv=>whnf
  refine ⟨by decide,?_⟩;conv=>whnf
  rw [bH,decide_eq_false (show ¬ ((l1.length:Int)<0) by omega)];conv=>whnf
  exact ⟨1,by decide,.inr (.inl ⟨rfl,rfl,rfl⟩)⟩
 ·conv=>whnf
  refine ⟨by decide,?_⟩;conv=>whnf
  rw [bW,decide_eq_false (show ¬ (((l1.length+l2.length:Nat):Int)<0) by omega)];conv=>whnf
  exact ⟨0,by decide,.inr (.inr ⟨rfl,rfl,rfl⟩)⟩
 ·conv=>whnf
  rw [al];refine ⟨_,_,Ng (p7 rfl (p7 rfl rfl)) (acV (n:=k) (by omega)) _ _,?_⟩;conv=>whnf
  have bl:(l1.flatMap qy).length=l1.length*3:=Iz qy 3 (fun _=>rfl) l1;have cr:(l2.flatMap qy).length=l2.length*3:=Iz qy 3 (fun _=>rfl) l2;refine .intro (fun m T H2=>(m=2∧T=qg 36 [(6,.av [] 0 (.uniq 3)),(25,.av [LE l1,LE l2] 2 (.own 1)),(26,hX 2),(27,hX 0)]∧H2=H')∨(m=1∧T=qg 36 [(6,.av (l1.flatMap qy) l1.length (.uniq 3)),(25,.av [LE l1,LE l2] 2 (.own 1)),(26,hX 2),(27,hX 1)]∧H2=H')∨(m=0∧T=qg 36 [(6,.av ((l1++l2).flatMap qy) (l1++l2).length (.uniq 3)),(25,.av [LE l1,LE l2] 2 (.own 1)),(26,hX 2),(27,hX 2)]∧H2=H')) 2 (.inl ⟨rfl,rfl,rfl⟩) ?_;rintro m T H2 (⟨rfl,rfl,rfl⟩ | ⟨rfl,rfl,rfl⟩ | ⟨rfl,rfl,rfl⟩)
  ·(conv=>whnf);refine ⟨by decide,?_⟩;(conv=>whnf);refine ⟨bl,by omega,rfl,by omega,?_⟩;(conv=>whnf);refine ⟨1,by decide,.inr (.inl ⟨rfl,?_,rfl⟩)⟩;rw [sG];rfl
  ·(conv=>whnf);refine ⟨by decide,?_⟩;(conv=>whnf);refine ⟨cr,by omega,rfl,by omega,?_⟩;(conv=>whnf);refine ⟨0,by decide,.inr (.inr ⟨rfl,?_,rfl⟩)⟩;rw [uB,sD];rfl
  ·(conv=>whnf);exact bo _ _ _ ⟨.inr rfl,lF.refl _,rfl⟩

noncomputable def aaG:gB :=
 p5 [p3 2 [.jm 0] .box,p3 3 [.jm 1] .box,qh 4 0] (p5 [qK 5 2 0,qm 6 5,qK 7 3 0,qm 8 7,qq 9 6 8 .sub,p4 4 9] .ret)
theorem aff:qu Tryz.prog UG 59=some (aaG,10,[.tmp 4]):=by qb
def ZS (x:(Int×(Int×Int))) (y:(Int×(Int×Int))):Option Int :=
 some (w (x.1-y.1))
theorem ai5 {x:(Int×(Int×Int))} {y:(Int×(Int×Int))} {v:Int} (h:ZS x y=some v):qw 59 [(.agg [(hX x.1),(hX x.2.1),(hX x.2.2)]),(.agg [(hX y.1),(hX y.2.1),(hX y.2.2)])] (hX v):=by
 refine qO eD aff rfl rfl fun Q bo=>?_;have jG:qL [.tmp 4] Q (fun v=>(hX v)) v:=fun T H bD=>bo _ T H bD;unfold ZS at h;unfold aaG;conv=>whnf
 exact qe h jG rfl rfl
end Go.Proofs.YtkoioidpbbbaiaaGreat.Ab


namespace Go.Proofs.YtkoioidpbbbaiaaGreat.Ab
open Go
noncomputable def agJ:gB :=
 .ou false [p4 7 0,p6 8 4,p4 9 4,p3 10 [.Bs 9] (.conv .u64),p3 11 [.cv (.func 79 [] []),.m_ 10] (.call 3),p4 12 1,p3 13 [.cv (.func 78 [] []),.jm 7,.cv (.int .i64 0),.jm 8,.jm 11,.jm 12] (.call 1)]
noncomputable def SC:gB :=
 p5 [p6 5 0,q2 6 5,p4 4 6] agJ
theorem WK:qu Go.Proofs.Tryz.prog UF 58=some (SC,14,[]):=by qb
noncomputable def NY:gB :=
 p5 [p4 26 0,p4 27 1,p4 28 2,p4 29 4,p3 30 [.cv (.func 90 [] []),.jm 26,.jm 27,.jm 28,.jm 29] (.call 1)] .ret
noncomputable def agX:gB :=
 p5 [p4 33 0,p4 34 1,p4 35 2,p4 36 4,p3 37 [.cv (.func 91 [] []),.jm 33,.jm 34,.jm 35,.jm 36] (.call 1)] .ret
noncomputable def agY:gB :=
 p5 [p6 40 0,p6 41 1,p6 42 2,p6 43 4,p3 44 [.cv (.func 92 [] []),.jm 40,.jm 41,.jm 42,.jm 43] (.call 1)] (qF [p4 45 3,qv 46 45 1 .sub,p4 3 46])
noncomputable def agZ:gB :=
 p5 [p6 62 2,qv 63 62 1 .sub,p4 64 13,p6 65 1,qq 66 64 65 .sub,qq 67 63 66 .sub,p4 13 67] (qF [qh 14 1])
noncomputable def ag0:gB :=
 p5 [p6 57 0,p6 58 1,p6 59 2,p6 60 4,p3 61 [.cv (.func 94 [] []),.jm 57,.jm 58,.jm 59,.jm 60] (.call 1)] agZ
noncomputable def ag1:gB :=
 p5 [p6 76 0,p6 77 1,p6 78 2,p6 79 4,p3 80 [.cv (.func 95 [] []),.jm 76,.jm 77,.jm 78,.jm 79] (.call 1)] (.cond (.m_ 80) .ret .skip)
noncomputable def ag2:gB :=
 p5 [p6 98 0,p4 99 1,p6 100 2,p4 101 13,p6 102 4,p3 103 [.cv (.func 96 [] []),.jm 98,.jm 99,.jm 100,.jm 101,.jm 102] (.call 1),p4 15 103] (p5 [p4 104 15,p4 1 104] (.exit 1))
noncomputable def ag3:gB :=
 p5 [p6 129 0,p4 130 1,p6 131 16,p6 132 3,p6 133 4,p3 134 [.cv (.func 78 [] []),.jm 129,.jm 130,.jm 131,.jm 132,.jm 133] (.call 1)] (qF [p4 135 16,qW 136 135 1,p4 1 136])
noncomputable def ag4:gB :=
 p5 [p4 126 18,p4 127 20,qq 128 126 127 .geq,p4 10 128] ag3
noncomputable def agP:gB :=
 p5 [p6 140 0,p6 141 16,qW 142 141 1,p4 143 2,p6 144 3,p6 145 4,p3 146 [.cv (.func 78 [] []),.jm 140,.jm 142,.jm 143,.jm 144,.jm 145] (.call 1)] (qF [p4 147 16,p4 2 147])
noncomputable def agQ:gB :=
 p5 [p4 137 19,p4 138 20,qq 139 137 138 .geq,p4 10 139] agP
noncomputable def agR:gB :=
 p5 [p4 121 12,qv 122 121 8 .quo,p4 20 122] (p5 [p6 123 18,p6 124 19,qq 125 123 124 .lss] (.cond (.m_ 125) ag4 agQ))
noncomputable def agS:gB :=
 p5 [p6 115 16,p6 116 1,qq 117 115 116 .sub,p6 118 2,p6 119 16,qq 120 118 119 .sub,p4 18 117,p4 19 120] agR
noncomputable def agT:gB :=
 p5 [p6 106 0,p6 107 1,p6 108 2,p4 109 13,p6 110 4,p3 111 [.cv (.func 97 [] []),.jm 106,.jm 107,.jm 108,.jm 109,.jm 110] (.call 1),p4 105 111,qR 112 105 0,p3 113 [.Bs 105] (.ext 1),p4 16 112,p4 17 113] (p5 [p4 114 17,p4 11 114] agS)
noncomputable def agU:gB :=
 .seq (.seq (ri [p6 81 1,qv 82 81 0 .gtr,p4 83 82,ch 84 [.m_ 4] 83 true .mR,ch 85 [.m_ 0] 83 true .mR,ch 86 [.m_ 1] 83 true .mR,ch 87 [.Bs 86,.cv (.int .i64 1)] 83 true (.bin .sub),ch 88 [.Bs 85,.Bs 87] 83 true (.kV 3),ch 89 [.Bs 88] 83 true (.zE (.str 3)),ch 90 [.m_ 0] 83 true .mR,ch 91 [.m_ 13] 83 true .mR,ch 92 [.Bs 90,.Bs 91] 83 true (.kV 3),ch 93 [.Bs 92] 83 true (.zE (.str 3)),ch 94 [.m_ 84,.m_ 89,.m_ 93] 83 true (.call 6),ch 95 [.Bs 94,.cv (.int .i64 0)] 83 true (.bin .lss),ch 96 [.Bs 95] 83 true (.un .not),p3 97 [.m_ 83,.Bs 96,.cv (.bool false)] .pick]) (.cond (.m_ 97) ag2 .skip)) agT
noncomputable def agV:gB :=
 .seq (p5 [p6 68 10,p4 69 68,ch 70 [.m_ 11] 69 true .mR,p3 71 [.Bs 69,.Bs 70,.cv (.bool false)] .pick,p4 72 71,ch 73 [.jm 14] 72 true .mR,ch 74 [.Bs 73,.cv (.int .i64 1)] 72 true (.bin .eql),p3 75 [.Bs 72,.Bs 74,.cv (.bool false)] .pick] (.cond (.m_ 75) ag1 .skip)) agU
noncomputable def agW:gB :=
 p5 [p6 48 0,p6 49 1,p6 50 2,p6 51 4,p3 52 [.cv (.func 93 [] []),.jm 48,.jm 49,.jm 50,.jm 51] (.call 1),p4 47 52,qR 53 47 0,p3 54 [.Bs 47] (.ext 1),p4 13 53,p4 14 54] (.seq (p5 [p6 55 14,qv 56 55 2 .eql] (.cond (.m_ 56) ag0 .skip)) agV)
noncomputable def SM:gB :=
 .seq (p5 [p6 31 3,qv 32 31 0 .eql] (.cond (.m_ 32) agX .skip)) (.seq (p5 [p6 38 10,p3 39 [.Bs 38] (.un .not)] (.cond (.m_ 39) agY .skip)) agW)
noncomputable def NZ:gB :=
 .block 1 (p5 [p6 21 2,p6 22 1,qq 23 21 22 .sub,p4 12 23] (.seq (p5 [p6 24 12,qv 25 24 12 .leq] (.cond (.m_ 25) NY .skip)) SM))
noncomputable def SL:gB :=
 p5 [p3 10 [.cv (.bool true)] .mR] (p5 [p3 11 [.cv (.bool true)] .mR] (.block 0 (.loop (some (qd false [0,5,5,2,136])) NZ)))
theorem WN:qu Go.Proofs.Tryz.prog UO 78=some (SL,148,[]):=by qb
noncomputable def ag8:gB :=
 .block 3 (ri [p6 37 0,p6 38 9,p6 39 0,p6 40 9,qv 41 40 1 .sub,p6 42 0,p6 43 9,qv 44 43 1 .sub,rn 45 42 44 3,p3 46 [.Bs 45] (.zE (.str 3)),p6 47 0,p6 48 9,rn 49 47 48 3,p3 50 [.Bs 49] (.zE (.str 3)),rn 51 37 38 3,⟨none,[.jm 51,.jm 46],none,none,.st 3⟩,rn 52 39 41 3,⟨none,[.jm 52,.jm 50],none,none,.st 3⟩])
noncomputable def ag9:gB :=
 .seq (.seq (ri [p6 18 9,p6 19 1,qq 20 18 19 .gtr,p4 21 20,ch 22 [.m_ 3] 21 true .mR,ch 23 [.m_ 0] 21 true .mR,ch 24 [.m_ 9] 21 true .mR,ch 25 [.Bs 23,.Bs 24] 21 true (.kV 3),ch 26 [.Bs 25] 21 true (.zE (.str 3)),ch 27 [.m_ 0] 21 true .mR,ch 28 [.m_ 9] 21 true .mR,ch 29 [.Bs 28,.cv (.int .i64 1)] 21 true (.bin .sub),ch 30 [.Bs 27,.Bs 29] 21 true (.kV 3),ch 31 [.Bs 30] 21 true (.zE (.str 3)),ch 32 [.m_ 22,.m_ 26,.m_ 31] 21 true (.call 6),ch 33 [.Bs 32,.cv (.int .i64 0)] 21 true (.bin .lss),p3 34 [.m_ 21,.Bs 33,.cv (.bool false)] .pick]) (.cond (.m_ 34) .skip (.exit 2))) (.seq ag8 (qF [p4 35 9,qv 36 35 1 .sub,p4 9 36]))
noncomputable def ag_:gB :=
 .block 1 (p5 [p6 17 8,p4 9 17] (.block 2 (.loop (some (qd false [0,4,4,2,43])) ag9)))
noncomputable def aha:gB :=
 .seq (p5 [p6 12 8,p6 13 2,qq 14 12 13 .lss] (.cond (.m_ 14) .skip (.exit 0))) (.seq ag_ (qF [p4 15 8,qW 16 15 1,p4 8 16]))
noncomputable def SX:gB :=
 p5 [p6 10 1,qW 11 10 1,p4 8 11] (.block 0 (.loop (some (qd false [0,4,4,1,44])) aha))
theorem WQ:qu Go.Proofs.Tryz.prog UW 90=some (SX,53,[]):=by qb
end Go.Proofs.YtkoioidpbbbaiaaGreat.Ab


namespace Go.Proofs.YtkoioidpbbbaiaaGreat.Ab
open Go
set_option maxRecDepth 20000
set_option maxHeartbeats 4000000
def q8 (S:List qC) (j:Nat):qC:=ix S (j:Int)
def Kf (S:List qC) (j:Nat):List qC:=(S.set (j+1) (q8 S j)).set j (q8 S (j+1))
def NG (x y:qC):Bool:=decide (w (x.1-y.1)<0)
def Ic:Nat→List qC→List qC
 | 0,S=>S
 | j+1,S=>if NG (q8 S (j+1)) (q8 S j)=true then Ic j (Kf S j) else S
def IL:Nat→Nat→List qC→List qC
 | 0,_,S=>S
 | m+1,i,S=>IL m (i+1) (Ic i S)
def Hg (S:List qC):List qC:=IL (S.length-1) 1 S
theorem Y7 (S:List qC) (j:Nat):(Kf S j).length=S.length:=by simp [Kf]
theorem V3:∀ (j:Nat) (S:List qC),(Ic j S).length=S.length
 | 0,S=>rfl
 | j+1,S=>by
   unfold Ic;split
   ·rw [V3 j,Y7]
   ·rfl
theorem YN (S:List qC) (i:Nat) (c:qC) (h:i<S.length):(((S.flatMap qy).set (i*3) (hX c.1)).set (i*3+1) (hX c.2.1)).set (i*3+2) (hX c.2.2)=(S.set i c).flatMap qy:=by
 induction S generalizing i with
 | nil=>exact absurd h (by simp)
 | cons s S a8 =>
   cases i with
   | zero=>rfl
   | succ i =>
     have:=a8 i (by simpa using h);show (((hX s.1::hX s.2.1::hX s.2.2::S.flatMap qy).set ((i+1)*3) (hX c.1)).set ((i+1)*3+1) (hX c.2.1)).set ((i+1)*3+2) (hX c.2.2)=hX s.1::hX s.2.1::hX s.2.2::(S.set i c).flatMap qy;rw [←this,show (i+1)*3=i*3+1+1+1 by omega];rfl
abbrev II (S:List qC):ar:=.cells (S.flatMap qy)
theorem adR {H:List ar} {id lo n:Nat} (bC:lo≤id) {S:List qC} (aI:S.length=n) (za:n≤100) (ag:H[id]?=some (II S)) :
  Sem Tryz.prog (.fn 90) [.ref id 0 n none 3,hX 0,hX n,.func 59 [] []] H lo (.tuple []) (H.set id (II (Hg S))):=by
 have aE:=(sd.1 ag).1;refine rL eD WQ rfl ⟨by simp,fun j ab ae=>by rw [sf (by omega)]⟩ fun Q bo=>?_;have CI:Nat.ble lo id=true:=tw bC;have gs:∀ c:ar,(H.set id c)[id]?=some c:=fun c=>by rw [sn aE]
 have J5:∀ c e:ar,(H.set id c).set id e=H.set id e:=fun c e=>List.set_set ..;unfold SX;conv=>whnf
 refine .intro (fun m T H'=>∃ (i:Nat) (S':List qC),1≤i∧(i≤n∨i=1)∧m=n-i∧S'.length=n∧IL (n-i) i S'=Hg S∧T=qg 53 [(0,.ref id 0 n none 3),(1,hX 0),(2,hX n),(3,.func 59 [] []),(8,hX i)]∧H'=H.set id (II S')) (n-1) ⟨1,S,se _,.inr rfl,rfl,aI,by rw [←aI];rfl,rfl,?_⟩ ?_
 ·obtain ⟨ab,ae⟩:=sd.1 ag;rw [←ae,List.set_getElem_self]
 rintro m T H' ⟨i,S',adx,RJ,rfl,pj,he,rfl,rfl⟩;have Vh:i<n→IntKind.i64.wrap ((i:Int)+1)=((i+1:Nat):Int):=fun _=>by rw [HR _ (by omega) (by omega)];omega
 conv=>whnf
 refine HH (fun aR=>?_) (fun aR=>?_)
 ·have HJ:i<n:=by omega
  conv=>whnf
  refine .intro (fun j T H'=>∃ bK:List qC,j≤i∧bK.length=n∧Ic j bK=Ic i S'∧T=qg 53 [(0,.ref id 0 n none 3),(1,hX 0),(2,hX n),(3,.func 59 [] []),(8,hX i),(9,hX j)]∧H'=H.set id (II bK)) i ⟨S',se _,pj,rfl,rfl,rfl⟩ ?_;rintro j T H' ⟨bK,aw,Rl,Lh,rfl,rfl⟩;have pD:(bK.flatMap qy).length=bK.length*3:=Iz qy 3 (fun _=>rfl) bK;conv=>whnf
  cases j with
  | zero =>
    (conv=>whnf);refine ⟨n-(i+1),by omega,i+1,bK,by omega,by omega,rfl,Rl,?_,by rw [Vh HJ];rfl,rfl⟩;rw [←he,show n-i=(n-(i+1))+1 by omega];show _=IL (n-(i+1)) (i+1) (Ic i S');rw [←Lh];rfl
  | succ y =>
    (have hw:IntKind.i64.wrap (((y+1:Nat):Int)-1)=(y:Int):=by rw [HR _ (by omega) (by omega)];omega);rw [decide_eq_true (show (0:Int)<((y+1:Nat):Int) by omega)];(conv=>whnf);refine ⟨by omega,?_⟩;(conv=>whnf);refine Ew (gs _) ?_;(have gJ:0≤((y+1:Nat):Int)∧((y+1:Nat):Int)<(bK.length:Int):=by omega);(have iP:0≤(y:Int)∧(y:Int)<(bK.length:Int):=by omega);(conv=>whnf);refine Pz qy 3 H8 bK ((y+1:Nat):Int) gJ rfl ?_;(conv=>whnf);refine Kd qy 3 H8 bK ((y+1:Nat):Int) gJ 1 rfl ?_;(conv=>whnf);refine Kd qy 3 H8 bK ((y+1:Nat):Int) gJ 2 rfl ?_;(conv=>whnf);rw [hw];refine ⟨by omega,?_⟩;(conv=>whnf);refine Ew (gs _) ?_;(conv=>whnf);refine Pz qy 3 H8 bK (y:Int) iP rfl ?_;(conv=>whnf);refine Kd qy 3 H8 bK (y:Int) iP 1 rfl ?_;(conv=>whnf);refine Kd qy 3 H8 bK (y:Int) iP 2 rfl ?_;(conv=>whnf);refine ⟨p7 (H4 (p7 rfl (p7 rfl (p7 rfl rfl)))) (p7 (H4 (p7 rfl (p7 rfl (p7 rfl rfl)))) rfl),[.agg [hX (q8 bK (y+1)).1,hX (q8 bK (y+1)).2.1,hX (q8 bK (y+1)).2.2],.agg [hX (q8 bK y).1,hX (q8 bK y).2.1,hX (q8 bK y).2.2]],rfl,hX (w ((q8 bK (y+1)).1-(q8 bK y).1)),rfl,ai5 rfl,rC,?_⟩;(conv=>whnf);have mq:decide (w ((q8 bK (y+1)).1-(q8 bK y).1)<0)=NG (q8 bK (y+1)) (q8 bK y):=rfl;rw [mq];have h8:Ic (y+1) bK=if NG (q8 bK (y+1)) (q8 bK y)=true then Ic y (Kf bK y) else bK:=rfl;cases ak:NG (q8 bK (y+1)) (q8 bK y) with
    | false =>
      rw [ak,if_neg (by decide)] at h8;(conv=>whnf);refine ⟨n-(i+1),by omega,i+1,bK,by omega,by omega,rfl,Rl,?_,by rw [Vh HJ];rfl,rfl⟩;rw [←he,show n-i=(n-(i+1))+1 by omega];show _=IL (n-(i+1)) (i+1) (Ic i S');rw [←Lh,h8]
    | true =>
      rw [ak,if_pos rfl] at h8;(conv=>whnf);rw [hw];refine ⟨by omega,?_⟩;(conv=>whnf);refine Ew (gs _) ?_;(conv=>whnf);refine Pz qy 3 H8 bK (y:Int) iP rfl ?_;(conv=>whnf);refine Kd qy 3 H8 bK (y:Int) iP 1 rfl ?_;(conv=>whnf);refine Kd qy 3 H8 bK (y:Int) iP 2 rfl ?_;(conv=>whnf);refine ⟨by omega,?_⟩;(conv=>whnf);refine Ew (gs _) ?_;(conv=>whnf);refine Pz qy 3 H8 bK ((y+1:Nat):Int) gJ rfl ?_;(conv=>whnf);refine Kd qy 3 H8 bK ((y+1:Nat):Int) gJ 1 rfl ?_;(conv=>whnf);refine Kd qy 3 H8 bK ((y+1:Nat):Int) gJ 2 rfl ?_;(conv=>whnf);refine ⟨by omega,?_⟩;(conv=>whnf);rw [CI];refine Ew (gs _) ?_;(conv=>whnf);rw [show 0+((y+1:Nat):Int).toNat*3=(y+1)*3 by omega];refine Gn (by omega) ?_;(conv=>whnf);refine Gn (by rw [ta];omega) ?_;(conv=>whnf);refine Gn (by rw [ta,ta];omega) ?_;(conv=>whnf);have e1:=YN bK (y+1) (q8 bK y) (by omega);obtain ⟨jw,Rm⟩:∃ jw,jw=bK.set (y+1) (q8 bK y):=⟨_,rfl⟩;(have J7:jw.length=n:=by rw [Rm,ta];exact Rl);rw [←Rm] at e1;have ajY:(jw.flatMap qy).length=jw.length*3:=Iz qy 3 (fun _=>rfl) jw;erw [e1,J5];refine ⟨by omega,?_⟩;(conv=>whnf);rw [CI];refine Ew (gs _) ?_;(conv=>whnf);rw [show 0+(y:Int).toNat*3=y*3 by omega];refine Gn (by omega) ?_;(conv=>whnf);refine Gn (by rw [ta];omega) ?_;(conv=>whnf);refine Gn (by rw [ta,ta];omega) ?_;(conv=>whnf);have b9:=YN jw y (q8 bK (y+1)) (by omega);erw [b9,J5];(conv=>whnf);rw [hw];refine ⟨y,by omega,jw.set y (q8 bK (y+1)),by omega,by rw [ta];exact J7,?_,rfl,rfl⟩;rw [←Lh,h8,Rm];rfl
 ·have bj:n-i=0:=by omega
  rw [bj] at he;have he:S'=Hg S:=he;subst he;conv=>whnf
  exact bo _ _ _ ⟨.inl rfl,lF.refl _,rfl⟩
theorem afV {H:List ar} {id lo n:Nat} (bC:lo≤id) {S:List qC} {JC:Int} (aI:S.length=n) (za:n≤12) (ag:H[id]?=some (II S)) :
  Sem Tryz.prog (.fn 78) [.ref id 0 n none 3,hX 0,hX n,hX JC,.func 59 [] []] H lo (.tuple []) (H.set id (II (Hg S))):=by
 refine rL eD WN rfl ⟨by simp,fun j ab ae=>by rw [sf (by omega)]⟩ fun Q bo=>?_;unfold SL;obtain ⟨Q3,Jv⟩:∃ c,NZ=c:=⟨_,rfl⟩;rw [Jv];conv=>whnf
 refine .intro (fun m T H'=>T=qg 148 [(0,.ref id 0 n none 3),(1,hX 0),(2,hX n),(3,hX JC),(4,.func 59 [] []),(10,B true),(11,B true)]∧H'=H) 0 ⟨rfl,rfl⟩ ?_;rintro m T H' ⟨rfl,rfl⟩;subst Jv;unfold NZ;obtain ⟨a7,cc⟩:∃ c,NY=c:=⟨_,rfl⟩;obtain ⟨Q2,La⟩:∃ c,SM=c:=⟨_,rfl⟩;rw [cc,La];conv=>whnf
 rw [show IntKind.i64.wrap ((n:Int)-0)=(n:Int) by rw [HR _ (by omega) (by omega)];omega,decide_eq_true (show (n:Int)≤12 by omega)];conv=>whnf
 subst cc;unfold NY;conv=>whnf
 refine ⟨_,_,rH (adR bC aI (by omega) ag),?_⟩;conv=>whnf
 exact bo _ _ _ ⟨.inr rfl,lF.refl _,rfl⟩
theorem ahx {H:List ar} {id lo n:Nat} (bC:lo≤id) {S:List qC} (aI:S.length=n) (za:n≤12) (ag:H[id]?=some (II S)) :
  Sem Tryz.prog (.fn 58) [.ref id 0 n none 3,.func 59 [] []] H lo (.tuple []) (H.set id (II (Hg S))):=by
 refine rL eD WK rfl ⟨by simp,fun j ab ae=>by rw [sf (by omega)]⟩ fun Q bo=>?_;unfold SC;conv=>whnf
 rw [show IntKind.u64.wrap (n:Int)=(n:Int) by rw [Zu];omega];refine ⟨by first | rfl | simp only [tH,uj,Mr,Mz,Ms,Mu,Mt,Mv,MB,MA,Kb,Mw,Mx,My,tx,uh],_,OH n za,?_⟩
 conv=>whnf
 refine ⟨_,_,rH (afV bC aI za ag),?_⟩;conv=>whnf
 exact bo _ _ _ ⟨.inl rfl,lF.refl _,rfl⟩
section
variable {H:List ar} {lo:Nat}
theorem adS:Sem Tryz.prog (.fn 90) [.av [] 0 .shared,hX 0,hX 0,.func 59 [] []] H lo (.tuple []) H:=by
 refine rL eD WQ rfl (a'.refl _ _) fun Q bo=>?_;unfold SX;conv=>whnf
 refine .intro (fun m T H'=>T=qg 53 [(0,.av [] 0 .shared),(1,hX 0),(2,hX 0),(3,.func 59 [] []),(8,hX 1)]∧H=H') 0 ⟨rfl,rfl⟩ ?_;rintro m T H' ⟨rfl,rfl⟩;conv=>whnf
 exact bo _ _ _ ⟨.inl rfl,lF.refl _,rfl⟩
theorem afW {JC:Int}:Sem Tryz.prog (.fn 78) [.av [] 0 .shared,hX 0,hX 0,hX JC,.func 59 [] []] H lo (.tuple []) H:=by
 refine rL eD WN rfl (a'.refl _ _) fun Q bo=>?_;unfold SL;obtain ⟨Q3,Jv⟩:∃ c,NZ=c:=⟨_,rfl⟩;rw [Jv];conv=>whnf
 refine .intro (fun m T H'=>T=qg 148 [(0,.av [] 0 .shared),(1,hX 0),(2,hX 0),(3,hX JC),(4,.func 59 [] []),(10,B true),(11,B true)]∧H'=H) 0 ⟨rfl,rfl⟩ ?_;rintro m T H' ⟨rfl,rfl⟩;subst Jv;unfold NZ;obtain ⟨a7,cc⟩:∃ c,NY=c:=⟨_,rfl⟩;obtain ⟨Q2,La⟩:∃ c,SM=c:=⟨_,rfl⟩;rw [cc,La];conv=>whnf
 subst cc;unfold NY;conv=>whnf
 refine ⟨_,_,rH adS,?_⟩;conv=>whnf
 exact bo _ _ _ ⟨.inr rfl,lF.refl _,rfl⟩
theorem ahy:Sem Tryz.prog (.fn 58) [.av [] 0 .shared,.func 59 [] []] H lo (.tuple []) H:=by
 refine rL eD WK rfl (a'.refl _ _) fun Q bo=>?_;unfold SC;conv=>whnf
 refine ⟨by first | rfl | simp only [tH,uj,Mr,Mz,Ms,Mu,Mt,Mv,MB,MA,Kb,Mw,Mx,My,tx,uh],_,OH 0 (by decide),?_⟩
 conv=>whnf
 refine ⟨_,_,rH afW,?_⟩;conv=>whnf
 exact bo _ _ _ ⟨.inl rfl,lF.refl _,rfl⟩
end

abbrev L5 (p:qn) (ql:List (List Int)):List I:=[(.agg [(.av (p.1.flatMap p_) p.1.length .shared),(hX p.2.1),(hX p.2.2)]),(.av (ql.map oW) ql.length (.uniq 1))]
theorem aiN {eH:(List Int)} {qU:Unit→Option ((Option (((List (Int×Int))×(Int×Int))×Unit))×Int)} {s2:Int} {p:((List (Int×Int))×(Int×Int))} {ql:(List (List Int))} {s1:Int} {v:((Option (((List (Int×Int))×(Int×Int))×Unit))×Int)} {Q:cN→List I→List ar→Prop}   (jG:∀ (e:Int) (T:List I),v=(none,e)→r0 [rT p] T [.tmp 4,.tmp 5]=some [.eF,hX e]→Q .ret T [rT p]) (I4:∀ (qf:List I),qU ()=some v→rm 48 [(2,(.ptr 0 0)),(8,(.av ((ix ql s1).map hX) (ix ql s1).length .shared)),(17,(.av (ql.map oW) ql.length (.own 1))),(18,(hX (ql.length:Int))),(19,(hX s1))] qf→Q (.exit 2) qf [ar.cells [(.av (p.1.flatMap p_) p.1.length .shared),(hX p.2.1),(hX p.2.2)]]) {T:List I} (bZ:eW [false,false,true,false,false,false,false,false,true,false,false,false,false,false,false,false,false,true,true,true,false,false,false,false,false,false,true,true,true,false,false,false,false,false,false,false,false,false,false,false,false,false,false,false,false,false,false,false] T=qg 48 [(2,(.ptr 0 0)),(8,(.av ((ix ql s1).map hX) (ix ql s1).length .shared)),(17,(.av (ql.map oW) ql.length (.own 1))),(18,(hX (ql.length:Int))),(19,(hX s1)),(26,(.av (eH.map hX) eH.length .shared)),(27,(hX (eH.length:Int))),(28,(hX s2))]) (h:IH eH qU qi s2=some v) :
  dN Tryz.prog Kv 40 0 none JZ T [ar.cells [(.av (p.1.flatMap p_) p.1.length .shared),(hX p.2.1),(hX p.2.2)]] Q:=by
 unfold JZ;skip;refine wp_loop bZ ?_;refine .intro (fun m T H=>∃ (s2:Int),T=qg 48 [(2,(.ptr 0 0)),(8,(.av ((ix ql s1).map hX) (ix ql s1).length .shared)),(17,(.av (ql.map oW) ql.length (.own 1))),(18,(hX (ql.length:Int))),(19,(hX s1)),(26,(.av (eH.map hX) eH.length .shared)),(27,(hX (eH.length:Int))),(28,(hX s2))]∧H=[ar.cells [(.av (p.1.flatMap p_) p.1.length .shared),(hX p.2.1),(hX p.2.2)]]∧IH eH qU m s2=some v) qi ⟨s2,rfl,rfl,h⟩ ?_;clear h bZ;rintro m T H ⟨s2,rfl,rfl,h⟩;cases m
 ·exact rA h
 rename_i m;rw [IH.eq_2] at h;conv=>whnf
 refine bs h (fun qS h=>?_) fun qS h=>?_
 ·rw [qS];conv=>whnf
  refine qE h id fun re h=>?_;rw [rj hX eH s2 re];conv=>whnf
  refine bs h (fun q_ h=>?_) fun q_ h=>?_
  ·rw [q_];(conv=>whnf);obtain rfl:=Option.some.inj h;exact jG _ _ rfl rfl
  ·rw [q_];(conv=>whnf);exact ⟨m,sg m,(w (s2+(1:Int))),rfl,rfl,h⟩
 ·rw [qS];conv=>whnf
  exact I4  _ h ⟨rfl,rfl⟩
theorem ZK {p:((List (Int×Int))×(Int×Int))} {ql:(List (List Int))} {qc:Unit→Option ((Option (((List (Int×Int))×(Int×Int))×Unit))×Int)} {s1:Int} {v:((Option (((List (Int×Int))×(Int×Int))×Unit))×Int)} {Q:cN→List I→List ar→Prop}   (jG:∀ (e:Int) (T:List I),v=(none,e)→r0 [rT p] T [.tmp 4,.tmp 5]=some [.eF,hX e]→Q .ret T [rT p]) (ra:∀ (qf:List I),qc ()=some v→rm 48 [(2,(.ptr 0 0))] qf→Q (.exit 0) qf [ar.cells [(.av (p.1.flatMap p_) p.1.length .shared),(hX p.2.1),(hX p.2.2)]]) {T:List I} (bZ:eW [false,false,true,false,false,false,false,false,false,false,false,false,false,false,false,false,false,true,true,true,false,false,false,false,false,false,false,false,false,false,false,false,false,false,false,false,false,false,false,false,false,false,false,false,false,false,false,false] T=qg 48 [(2,(.ptr 0 0)),(17,(.av (ql.map oW) ql.length (.own 1))),(18,(hX (ql.length:Int))),(19,(hX s1))]) (h:HE p ql qc qi s1=some v) :
  dN Tryz.prog Kv 40 0 none Jq T [ar.cells [(.av (p.1.flatMap p_) p.1.length .shared),(hX p.2.1),(hX p.2.2)]] Q:=by
 unfold Jq;obtain ⟨r_,qD⟩:∃ c,JZ=c:=⟨_,rfl⟩;rw [qD];refine wp_loop bZ ?_;refine .intro (fun m T H=>∃ (s1:Int),T=qg 48 [(2,(.ptr 0 0)),(17,(.av (ql.map oW) ql.length (.own 1))),(18,(hX (ql.length:Int))),(19,(hX s1))]∧H=[ar.cells [(.av (p.1.flatMap p_) p.1.length .shared),(hX p.2.1),(hX p.2.2)]]∧HE p ql qc m s1=some v) qi ⟨s1,rfl,rfl,h⟩ ?_;clear h bZ;rintro m T H ⟨s1,rfl,rfl,h⟩;cases m
 ·exact rA h
 rename_i m;rw [HE.eq_2] at h;conv=>whnf
 refine bs h (fun qt h=>?_) fun qt h=>?_
 ·rw [qt];conv=>whnf
  refine qE h id fun qH h=>?_;rw [rj oW ql s1 qH];conv=>whnf
  obtain ⟨bh,qX,h⟩:=p' h;refine ⟨qj.pl,_,TC qX,?_⟩;conv=>whnf
  obtain ⟨eH,q9,h⟩:=p' h;refine ⟨(p7 (I8 rfl (p7 (Ir (p7 (rM (fun _=>rfl) _ _ _) rfl)) rfl)) rfl),_,TB  q9,?_⟩;conv=>whnf
  subst qD;refine aiN ?_ ?_ (by exact rfl) h
  ·exact fun e T bD ai=>jG e T bD ai
  ·intro  qf h qA;obtain ⟨rr,rfl⟩:=qA.ex;(conv=>whnf);refine bs h (fun ry h=>?_) fun ry h=>?_
   ·rw [ry];(conv=>whnf);obtain rfl:=Option.some.inj h;exact jG _ _ rfl rfl
   ·rw [ry];(conv=>whnf);exact ⟨m,sg m,(w (s1+(1:Int))),rfl,rfl,h⟩
 ·rw [qt];conv=>whnf
  exact ra  _ h ⟨rfl,rfl⟩
theorem aiJ {p:qn} {ql:List (List Int)} {e:Int} (h:rX p ql=some (none,e)):Sem Tryz.prog (.fn 40) (L5 p ql) [] 0 (.tuple [.eF,hX e]) [rT p]:=by
 refine rL eD NH rfl (IP (sE _)) fun Q bo=>?_;have jG:∀ (cS:Int) (T:List I),((none,e):Option (qn×Unit)×Int)=(none,cS)→r0 [rT p] T [.tmp 4,.tmp 5]=some [.eF,hX cS]→Q .ret T [rT p]:=fun cS T he ai=>by
  obtain rfl:=(Prod.mk.inj he).2;exact bo _ _ _ ⟨.inr rfl,lF.refl _,by rw [ai];rfl⟩
 unfold rX at h;unfold M8;obtain ⟨J3,rO⟩:∃ c,Jq=c:=⟨_,rfl⟩;rw [rO];conv=>whnf
 obtain ⟨aS,gJ,h⟩:=p' h;refine ⟨qj.pl,_,Oq gJ,?_⟩;conv=>whnf
 refine bs h (fun gK h=>?_) fun gK h=>?_
 ·rw [gK];conv=>whnf
  obtain rfl:aS=e:=(Prod.mk.inj (Option.some.inj h)).2;exact jG _ _ rfl rfl
 ·rw [gK];conv=>whnf
  subst rO;refine ZK ?_ ?_ (by exact rfl) h
  ·exact fun e T bD ai=>jG e T bD ai
  ·intro  qf h qA;exact absurd (Prod.mk.inj (Option.some.inj h)).1 (by simp)
theorem aiO {p:qn} {ql:List (List Int)} {t:qn×Unit} {e:Int} (h:rX p ql=some (some t,e)):t=(p,())∧e=0∧Sem Tryz.prog (.fn 40) (L5 p ql) [] 0 (.tuple [.ptr 2 0,hX 0]) [rT p,.map [] 0,.cells [(.av (p.1.flatMap p_) p.1.length .shared),(hX p.2.1),(hX p.2.2),.map 1]]:=by
 have ad:t=(p,())∧e=0:=by
  have aX:=h;unfold rX at aX;obtain ⟨aS,gJ,aX⟩:=p' aX;split at aX
  ·cases aX
  ·exact Wm aX
 obtain ⟨rfl,rfl⟩:=ad;refine ⟨rfl,rfl,?_⟩;refine rL eD NH rfl (IP (sE _)) fun Q bo=>?_;unfold rX at h;unfold M8;obtain ⟨J3,rO⟩:∃ c,Jq=c:=⟨_,rfl⟩;rw [rO];conv=>whnf
 obtain ⟨aS,gJ,h⟩:=p' h;refine ⟨qj.pl,_,Oq gJ,?_⟩;conv=>whnf
 refine bs h (fun gK h=>?_) fun gK h=>?_
 ·exact absurd (Prod.mk.inj (Option.some.inj h)).1 (by simp)
 ·rw [gK];conv=>whnf
  subst rO;refine ZK ?_ ?_ (by exact rfl) h
  ·exact fun e T bD ai=>absurd (Prod.mk.inj bD).1 (by simp)
  ·intro  qf h qA;obtain ⟨rr,rfl⟩:=qA.ex;(conv=>whnf);exact bo _ _ _ ⟨.inr rfl,lF.refl _,rfl⟩
section
variable {p:qn} {ql:List (List Int)}
theorem ab7 {e:Int} {lo:Nat} (h:rX p ql=some (none,e)):oU Tryz.prog 8 lo (.fn 40) (L5 p ql) [] (.tuple [.eF,hX e]) [] :=
 ⟨_,EB (aiJ h),by
  show (k6 _ _ _ _ _ _ (.fn 40) (L5 p ql) [] 0).bind _=_
  rw [EA];rfl⟩
theorem ab9 {t:qn×Unit} {e:Int} {lo:Nat} (h:rX p ql=some (some t,e)):oU Tryz.prog 8 lo (.fn 40) (L5 p ql) [] (.tuple [.bR [(.av (p.1.flatMap p_) p.1.length .shared),(hX p.2.1),(hX p.2.2),.map 0],hX 0]) [.map [] 0] :=
 ⟨_,EB (aiO h).2.2,by
  show (k6 _ _ _ _ _ _ (.fn 40) (L5 p ql) [] 0).bind _=_;rw [EA];have e1:dZ (bL [rT p,.map [] 0,.cells [(.av (p.1.flatMap p_) p.1.length .shared),(hX p.2.1),(hX p.2.2),.map 1]] 0 1 0 6) [(.av (p.1.flatMap p_) p.1.length .shared),(hX p.2.1),(hX p.2.2),.map 1]=some [(.av (p.1.flatMap p_) p.1.length .shared),(hX p.2.1),(hX p.2.2),.map 0] :=
   rN (yW (HC (fun _=>p7 rfl (p7 rfl rfl)) _ _ _)) (rN (yW rfl) (rN (yW rfl) (rN rfl IQ)))
  have b9:bL [rT p,.map [] 0,.cells [(.av (p.1.flatMap p_) p.1.length .shared),(hX p.2.1),(hX p.2.2),.map 1]] 0 1 0 8 (.tuple [.ptr 2 0,hX 0])=some (.tuple [.bR [(.av (p.1.flatMap p_) p.1.length .shared),(hX p.2.1),(hX p.2.2),.map 0],hX 0]) :=
   Ni (rN (show (dZ (bL [rT p,.map [] 0,.cells [(.av (p.1.flatMap p_) p.1.length .shared),(hX p.2.1),(hX p.2.2),.map 1]] 0 1 0 6) [(.av (p.1.flatMap p_) p.1.length .shared),(hX p.2.1),(hX p.2.2),.map 1]).map I.bR=_ by rw [e1];rfl) (rN rfl IQ))
  show (match mapM (bL [rT p,.map [] 0,.cells [(.av (p.1.flatMap p_) p.1.length .shared),(hX p.2.1),(hX p.2.2),.map 1]] 0 1 0 8) [],bL [rT p,.map [] 0,.cells [(.av (p.1.flatMap p_) p.1.length .shared),(hX p.2.1),(hX p.2.2),.map 1]] 0 1 0 8 (.tuple [.ptr 2 0,hX 0]) with | some es',some v=>some (v,[]++[ar.map es' 0]) | _,_=>none)=_
  rw [b9];rfl⟩
end
end Go.Proofs.YtkoioidpbbbaiaaGreat.Ab


namespace Go.Proofs.YtkoioidpbbbaiaaGreat.Ab
open Go
noncomputable def Sr:gB :=
 p5 [p6 33 9, p4 34 8, p3 35 [.jm 33, .jm 34] (.other (Oper.mk (some 35) (Op.call (Call.mk (Callee.builtin Builtin.copy) (Array.mk [Operand.tmp 33, Operand.tmp 34]) (Array.mk [38, 38]))) 3 "curl.go:142" (Array.mk [Edge.mk 0 Ground.data, Edge.mk 1 Ground.data]) none) 0)] (p5 [p4 36 9, p4 4 36, qh 5 0] .ret)
noncomputable def Kc:gB :=
 p5 [p6 30 8,q2 31 30,p3 32 [.m_ 31,.Bs 31] (.z1 [.int .i64 0,.int .i64 0,.int .i64 0] 3 24),p4 9 32] Sr
noncomputable def Ss:gB :=
 p5 [p6 20 6,p6 21 1,p3 22 [.cv (.func 57 [] []),.jm 20,.jm 21,.cv (.int .i64 0)] (.call 1),p4 23 6,p4 24 1,p3 25 [.cv (.func 57 [] []),.jm 23,.jm 24,.cv (.int .i64 1)] (.call 1),p3 26 [.Bs 22,.Bs 25] (.yB 2 1 [.av [] 0 .full] [0,1]),p3 27 [.cv (.func 56 [] []),.jm 26] (.call 1),⟨some 8,[.jm 27],none,some 27,.Bq⟩] (p5 [p6 28 8,p3 29 [.cv (.func 58 [] []),.jm 28,.cv (.func 59 [] [])] (.call 1)] Kc)
noncomputable def X1:gB :=
 .seq (p5 [p6 17 7,qv 18 17 0 .neq] (.cond (.m_ 18) (p5 [p4 19 7,p3 4 [.cv (.av [] 0 .full)] (.nil 3),p4 5 19] .ret) .skip)) Ss
noncomputable def X2:gB :=
 p5 [p3 11 [.Bs 2] (.zE (.str 3)),p6 12 1,p3 13 [.Bs 12] (.yB 1 1 [.av [] 0 .full] [0]),p3 14 [.cv (.func 40 [] []),.jm 11,.jm 13] (.call 8),p4 10 14,qR 15 10 0,p3 16 [.Bs 10] (.ext 1),p4 6 15,p4 7 16] X1
noncomputable def X0:gB :=
 p5 [p3 2 [.jm 0] .yy,p3 4 [.cv (.av [] 0 .full)] (.nil 3),qh 5 0] X2
theorem aef:qu Go.Proofs.Tryz.prog OC 23=some (X0,37,[.tmp 4,.tmp 5]):=by qb
end Go.Proofs.YtkoioidpbbbaiaaGreat.Ab


namespace Go.Proofs.YtkoioidpbbbaiaaGreat.Ab
open Go
set_option maxRecDepth 20000
set_option maxHeartbeats 4000000
def KR (p:qn) (order:List Int):Option (List qC×Int) :=
 (rX p [order]).bind fun r=>match r with
 | (none,q)=>if decide (q≠0)=true then some ([],q) else none
 | (some b,_)=>(K0 b order 0).bind fun l1=>(K0 b order 1).bind fun l2=>qs (l1.length+l2.length≤12) <| some (Hg (l1++l2),0)
theorem acP (b:sa):HX b 0 [.map [] 0]:=⟨[],0,rfl,fun e he=>absurd he (by simp)⟩
theorem V5:∀ (m i:Nat) (S:List qC),(IL m i S).length=S.length
 | 0,_,_=>rfl
 | m+1,i,S=>by unfold IL;rw [V5 m,V3]
theorem YV (S:List qC):(Hg S).length=S.length:=V5 _ _ _
theorem ahc (n:Nat) {a b c:I}:(e7 n [a,b,c]).length=n*3:=by
 induction n with
 | zero=>rfl
 | succ n a8=>show ([a,b,c]++e7 n [a,b,c]).length=_;rw [sD,a8];simp;omega
theorem YD {S:List qC} {H:List ar} {id n:Nat} {cap:Option Nat} (ag:H[id]?=some (II S)) (aI:S.length=n):rowOf H (.ref id 0 n cap 3)=some (S.flatMap qy):=by
 have ao:(S.flatMap qy).length=S.length*3:=Iz qy 3 (fun _=>rfl) S;simp only [rowOf,ag,sG,tu];rw [if_pos (by omega),tb (by omega),R2 (Zp (f:=qy) (fun _=>N_ rfl (N_ rfl (N_ rfl Zq))) S)]
theorem ahu {vs cs:List I} (h:vs.length=cs.length):setCells 0 vs cs=vs:=by
 apply List.ext_getElem?;intro j;rw [m8 _ _ _ _ (by omega)];by_cases aw:j<vs.length
 ·rw [if_pos ⟨by omega,by omega⟩];simp
 ·rw [if_neg (by omega),tO (by omega),tO (by omega)]
theorem acv {P:Program} {lo a b n:Nat} {H:List ar} {S:List qC} {cells:List I} {cap:Option Nat} {e:TypeId} {ts:Array TypeId} (e1:(ts[0]?).bind P.underlying=some (.slice e)) (b9:bE P e=some 3) (bC:lo≤a)
  (af:H[b]?=some (II S)) (aI:S.length=n) (cq:H[a]?=some (.cells cells)) (ak:cells.length=n*3):j7 P lo ts H [.ref a 0 n (some n) 3,.ref b 0 n cap 3]=some (.int .i64 (n:Int),H.set a (II S)):=by
 have ao:(S.flatMap qy).length=S.length*3:=Iz qy 3 (fun _=>rfl) S;have cF:=YD (cap:=cap) af aI;unfold j7;simp only [e1,b9,lenOf,cF,fP,cq,if_pos bC];rw [if_pos ⟨trivial,by omega⟩,if_pos (by omega),Nat.min_self,tb (by omega),ahu (by omega)];rfl
theorem Vr {S:List qC} {H:List ar} {id n d:Nat} {cap:Option Nat} (aE:id<H.length) (ag:H[id]?=some (II S)) (aI:S.length=n):bL H 0 H.length 0 (d+2) (.ref id 0 n cap 3)=some (.av (S.flatMap qy) n (eZ cap n)):=by
 show (if id<0 then some (I.ref id 0 n cap 3) else if id=H.length then some (.ref 0 0 n cap 3) else match rowOf H (.ref id 0 n cap 3) with | some row=>(dZ (bL H 0 H.length 0 (d+1)) row).map fun cs=>.av cs n (eZ cap n) | none=>none)=_;rw [if_neg (by omega),if_neg (by omega),YD ag aI];have lX:dZ (bL H 0 H.length 0 (d+1)) (S.flatMap qy)=some (S.flatMap qy):=zU fun u hu=>by
  obtain ⟨x,_,aj⟩:=List.mem_flatMap.1 hu;simp only [qy,List.mem_cons,List.not_mem_nil,or_false] at aj;rcases aj with rfl | rfl | rfl <;> rfl
 simp only [lX,Option.map_some]
theorem ahL {H2:List ar} {L:List qC} (fm:L.length≤12) {Tc:I} {Q:cN→List I→List ar→Prop}
  (bo:∀ T H,HY [.tmp 4,.tmp 5] (.tuple [.av ((Hg L).flatMap qy) (Hg L).length .shared,hX 0]) .ret T H→Q .ret T H) :
  dN Tryz.prog OC 23 0 none (.seq (.ou false [p3 28 [.m_ 8] .mR,p3 29 [.cv (.func 58 [] []),.jm 28,.cv (.func 59 [] [])] (.call 1)]) Kc) (qg 37 [(4,.av [] 0 (.uniq 3)),(5,hX 0),(7,hX 0),(8,.ref H2.length 0 L.length none 3),(18,Tc),(27,.ref H2.length 0 L.length none 3)]) (H2++[II L]) Q:=by
 have DG:(Hg L).length=L.length:=YV L;obtain ⟨a9,b_⟩:∃ c,Kc=c:=⟨_,rfl⟩;rw [b_];conv=>whnf
 refine ⟨_,_,rH (ahx (sE _) rfl fm (I3 _ _)),?_⟩;rw [HK];conv=>whnf
 subst b_;unfold Kc Sr;conv=>whnf
 refine ⟨by omega,sY _,by omega,?_⟩;conv=>whnf
 rw [tD];refine ⟨_,_,fun C=>(Xb rfl).trans (acv (e:=62) (S:=Hg L) (by qb) (by qb) (sE _) (by exact VI (I3 _ _)) DG (I3 _ _) (ahc _)),?_⟩;conv=>whnf
 rw [HK];refine bo _ _ ⟨.inr rfl,[.ref (H2++[II (Hg L)]).length 0 L.length (some L.length) 3,hX 0],rfl,_,Ni (rN (Vr (S:=Hg L) (by simp) (I3 _ _) DG) (rN (yW rfl) IQ)),?_⟩;have e1:eZ (some L.length) L.length=.full:=by simp [eZ]
 rw [e1,DG];rfl
theorem acw {P:Program} {lo a:Nat} {H:List ar} {cap:Option Nat} {c:hB} {e:TypeId} {ts:Array TypeId} (e1:(ts[0]?).bind P.underlying=some (.slice e)) (b9:bE P e=some 3) (bC:lo≤a) (cq:H[a]?=some (.cells [])):j7 P lo ts H [.ref a 0 0 cap 3,.av [] 0 c]=some (.int .i64 0,H.set a (.cells [])):=by
 unfold j7;simp only [e1,b9,lenOf,rowOf,fP,cq,if_pos bC];rfl
theorem ahM {H2:List ar} {Tc:I} {Q:cN→List I→List ar→Prop}
  (bo:∀ T H,HY [.tmp 4,.tmp 5] (.tuple [.av (([]:List qC).flatMap qy) ([]:List qC).length .shared,hX 0]) .ret T H→Q .ret T H) :
  dN Tryz.prog OC 23 0 none (.seq (.ou false [p3 28 [.m_ 8] .mR,p3 29 [.cv (.func 58 [] []),.jm 28,.cv (.func 59 [] [])] (.call 1)]) Kc) (qg 37 [(4,.av [] 0 (.uniq 3)),(5,hX 0),(7,hX 0),(8,.av [] 0 (.uniq 3)),(18,Tc),(27,.av [] 0 .shared)]) H2 Q:=by
 obtain ⟨a9,b_⟩:∃ c,Kc=c:=⟨_,rfl⟩;rw [b_];conv=>whnf
 refine ⟨_,_,rH ahy,?_⟩;conv=>whnf
 subst b_;unfold Kc Sr;conv=>whnf
 refine ⟨by omega,sY _,by omega,?_⟩;conv=>whnf
 refine ⟨_,_,fun C=>(Xb rfl).trans (acw (e:=62) (a:=H2.length) (by qb) (by qb) (sE _) (I3 _ _)),?_⟩;conv=>whnf
 rw [HK];refine bo _ _ ⟨.inr rfl,[.ref H2.length 0 0 (some 0) 3,hX 0],rfl,_,Ni (rN (Vr (S:=[]) (by simp) (I3 _ _) rfl) (rN (yW rfl) IQ)),rfl⟩
theorem Tj {p:qn} {order:List Int} {v:List qC×Int} (h:KR p order=some v):qw 23 [.agg [.av (p.1.flatMap p_) p.1.length .shared,hX p.2.1,hX p.2.2],.av (order.map hX) order.length .shared] (.tuple [.av (v.1.flatMap qy) v.1.length .shared,hX v.2]):=by
 unfold KR at h;obtain ⟨⟨aS,bh⟩,ai,h⟩:=p' h;refine qO eD aef rfl (Is (p7 (HC (fun _=>p7 rfl (p7 rfl (p7 rfl rfl))) _ _ _) (p7 rfl rfl))) fun Q bo=>?_;have jG:∀ T H,HY [.tmp 4,.tmp 5] (.tuple [.av (v.1.flatMap qy) v.1.length .shared,hX v.2]) .ret T H→Q .ret T H:=fun T H bD=>bo _ T H bD;unfold X0 X2 X1;obtain ⟨br,eP⟩:∃ c,Ss=c:=⟨_,rfl⟩;rw [eP];conv=>whnf
 refine ⟨rfl,?_⟩;conv=>whnf
 rcases aS with _ | b
 ·refine ⟨_,_,ab7 ai,?_⟩;conv=>whnf
  refine bs h (fun af h=>?_) fun af h=>?_
  ·rw [af];(conv=>whnf);obtain rfl:=Option.some.inj h;exact jG _ _ (Iu rfl rfl)
  ·cases h
 ·obtain ⟨rfl,rfl,_⟩:=Of ai;refine ⟨_,_,ab9 ai,?_⟩;obtain ⟨l1,ab,h⟩:=p' h;obtain ⟨l2,ae,h⟩:=p' h;obtain ⟨aI,h⟩:=rW h;obtain rfl:=Option.some.inj h;obtain ⟨H1,aJ,Da,f1,e1,s1⟩:=ZR ab (m:=0) (lo:=0) (se 0) (acP (p,()));obtain ⟨H2,aN,pN,f2,b9,s2⟩:=ZR ae (m:=0) (lo:=0) (se 0) f1;have bm:=acs (l1:=l1) (l2:=l2) (H:=H2) (lo:=0) (by omega);subst eP;unfold Ss;by_cases he:(l1++l2).length≠0
  ·rcases Da with rfl | rfl | rfl <;> rcases pN with rfl | rfl | rfl
   all_goals
    obtain ⟨a9,b_⟩:∃ c,gB.seq (.ou false [p3 28 [.m_ 8] .mR,p3 29 [.cv (.func 58 [] []),.jm 28,.cv (.func 59 [] [])] (.call 1)]) Kc=c:=⟨_,rfl⟩;rw [b_];(conv=>whnf);refine ⟨_,_,rH s1,?_⟩;(conv=>whnf);refine ⟨_,_,rH s2,?_⟩;(conv=>whnf);refine ⟨_,_,rH bm,?_⟩;(conv=>whnf);refine .inl ⟨he,?_⟩;(conv=>whnf);subst b_;exact ahL (H2:=H2) (L:=l1++l2) (by simp;omega) jG
  ·(have ajX:l1.length+l2.length=0:=by simp at he;simp [he]);obtain rfl:=sT.1 (show l1.length=0 by omega);obtain rfl:=sT.1 (show l2.length=0 by omega);rcases Da with rfl | rfl | rfl <;> rcases pN with rfl | rfl | rfl
   all_goals
    obtain ⟨a9,b_⟩:∃ c,gB.seq (.ou false [p3 28 [.m_ 8] .mR,p3 29 [.cv (.func 58 [] []),.jm 28,.cv (.func 59 [] [])] (.call 1)]) Kc=c:=⟨_,rfl⟩;rw [b_];(conv=>whnf);refine ⟨_,_,rH s1,?_⟩;(conv=>whnf);refine ⟨_,_,rH s2,?_⟩;(conv=>whnf);refine ⟨_,_,rH bm,?_⟩;(conv=>whnf);refine .inr ⟨rfl,?_⟩;(conv=>whnf);subst b_;exact ahM (H2:=H2) jG
end Go.Proofs.YtkoioidpbbbaiaaGreat.Ab
