
import Derived.Test.YtfakoboiahbhaaaGreatJp9
import Derived.Test.YtfakoboiahbhaaaGreatJp4
import Derived.Test.YtfakoboiahbhaaaGreatJp8
import Derived.KernelRfl
import Derived.Test.YtfakoboiahbhaaaGreatProg
import Derived.Test.YtfakoboiahbhaaaGreatJp5
set_option linter.unusedSimpArgs false
set_option linter.unusedVariables false
set_option linter.unusedSectionVars false

open Array renaming size_setIfInBounds→sr
open Bool renaming and_eq_true→r_,and_self→sL,and_true→sN,not_eq_true'→ta
open Decidable renaming not_not→uS
open Int renaming le_refl→uw,toNat_natCast→ti,toNat_of_nonneg→tK
open List renaming all_cons→sG,all_nil→sM,append_assoc→sy,append_nil→sV,drop_eq_getElem_cons→sU,drop_eq_nil_of_le→tb,drop_zero→sT,find?_eq_none→vZ,flatten_cons→tR,getElem?_append→sg,getElem?_append_left→se,getElem?_append_right→sB,getElem?_drop→sY,getElem?_eq_some_iff→rV,getElem?_replicate→vj,getElem?_set_ne→sa,getElem?_set_self→rY,getElem_mem→sH,length_append→sj,length_cons→sD,length_filter_le→tD,length_map→sZ,length_singleton→tF,length_take→s_,map_append→th,map_cons→sE,map_map→tq,map_nil→uh,mem_append→sQ,mem_cons→sf,mem_cons_of_mem→tP,mem_filter→sK,mem_map→sq,mem_singleton→sI,nodup_append→uj,pairwise_iff_getElem→tc,set_getElem_self→tC,set_set→rZ,take_length→tX,take_succ_eq_append_getElem→tW,take_zero→tI
open Nat renaming add_assoc→tE,ble_eq_true_of_le→sX,le_refl→rX,le_trans→sJ,lt_succ_self→su,min_eq_left→tL,mul_one→tr,sub_self→tT,zero_le→si
open Option renaming bind_some→rW,map_some→sc
namespace Go.Proofs.YtfakoboiahbhaaaGreat.Ab
open Go
section
variable {b:p3} {S:List Int}
theorem Wm:∀ (r pre:Row),((pre++r).map (·.1)).Nodup→Ho pre r=false
 | [],_,_=>rfl
 | p::r,pre,h=>by
   rw [Ho,if_neg]
   ·exact Wm r (pre++[p]) (by simpa using h)
   ·intro al;obtain ⟨q,a4,e⟩:=List.any_eq_true.1 al;have e:=of_decide_eq_true e;rw [th,uj] at h;exact h.2.2 q.1 (List.mem_map_of_mem a4) p.1 (by simp) e
def IH (b:p3) (rows:List Row):Int×Int:=if q3 b≠0 then (0,q3 b) else match rows.find? fun r=>decide ((GR b r).2.2≠0) with
 | some r=>(0,(GR b r).2.2)
 | none=>if ((rows.flatten).map (·.1)).Nodup then (if (rows.flatten).length≠b.2.length then (0,15) else (rows.length,0)) else (0,11)
end
end Go.Proofs.YtfakoboiahbhaaaGreat.Ab


namespace Go.Proofs.YtfakoboiahbhaaaGreat.Ab
open Go
set_option maxRecDepth 20000
set_option maxHeartbeats 4000000
noncomputable def QP:ez :=
 .loop (some (EA false [1,2,3,2,57])) (.seq (GC [Gp 17 7,Gp 18 1,Gl 19 18,F2 20 17 19 .lss] (.cond (.sl 20) .skip (.exit 0))) (.seq (.block 1 (.seq (Gu [gO 24 [.sl 2] (.w8 (.str 2)),Gp 25 1,Gp 26 7,Gi 27 25 26 1,Gm 28 27,gO 29 [.iD (.func 19 [] []),.sl 24,.sl 28] (.call 3),Gq 23 29,GK 30 23 0,GK 31 23 1,GK 32 23 2,Gq 8 30,Gq 9 31,Gq 10 32]) (.seq (GC [Gp 33 10,F1 34 33 0 .neq] (.cond (.sl 34) (GC [Gq 35 10,Gn 4 0,Gq 5 35] .ret) .skip)) (Gt [Gq 36 6,Gp 37 1,Gp 38 7,Gi 39 37 38 1,Gm 40 39,gO 41 [.hJ 36,.hJ 40] (.app 2 16),Gq 6 41])))) (Gt [Gq 21 7,F0 22 21 1,Gq 7 22])))
noncomputable def QQ:ez :=
 .loop (some (EA false [1,2,3,1,4,1,53])) (.seq (GC [Gp 42 11,Gp 43 6,Gl 44 43,F2 45 42 44 .lss] (.cond (.sl 45) .skip (.exit 2))) (.seq (.block 3 (.seq (Gu [Gp 48 6,Gp 49 11,gO 50 [.hJ 48,.hJ 49] (.AY 2 false true false),Gp 51 6,Gp 52 11,Gi 53 51 52 2,F7 54 53 0,Gm 55 54,gO 56 [.iD (.func 69 [] []),.sl 50,.sl 55] (.call 3)]) (.cond (.sl 56) (GC [Gn 4 0,Gn 5 11] .ret) .skip))) (Gt [Gq 46 11,F0 47 46 1,Gq 11 47])))
noncomputable def aba:ez :=
 GC [gO 2 [.hJ 0] .box,Gn 4 0,Gn 5 0] (.seq (GC [gO 12 [.sl 2] (.w8 (.str 2)),gO 13 [.iD (.func 21 [] []),.sl 12] (.call 3),F1 14 13 0 .neq] (.cond (.sl 14) (GC [gO 15 [.hM 2] (.w8 (.str 2)),gO 16 [.iD (.func 21 [] []),.sl 15] (.call 3),Gn 4 0,Gq 5 16] .ret) .skip)) (GC [gO 6 [.iD (.ay [] 0 .full)] (.nil 2)] (.seq (GC [Gn 7 0] (.block 0 QP)) (.seq (GC [Gn 11 0] (.block 2 QQ)) (.seq (GC [Gq 57 6,Gl 58 57,F7 59 2 1,Gm 60 59,Gl 61 60,F2 62 58 61 .neq] (.cond (.sl 62) (GC [Gn 4 0,Gn 5 15] .ret) .skip)) (GC [Gq 63 1,Gl 64 63,Gq 4 64,Gn 5 0] .ret))))))
theorem afP:zg Tryz.prog O0 26=some (aba,65,[.tmp 4,.tmp 5]):=by kernel_rfl
def L5 (b:p8) (rows:ri) (p4:qc→Option (Int×Int)):Nat→qc→Int→Option (Int×Int)
 | 0,_,_=>none
 | m+1,s1,s2 =>
   if (decide (s2<(rows.length:Int)))=true then
    p2 (0≤s2∧s2<(rows.length:Int)) <|
    (LZ b (ix rows s2)).bind fun eE =>
    if (decide (eE.2.2≠(0:Int)))=true then
     some ((0:Int),eE.2.2)
    else
     p2 (0≤s2∧s2<(rows.length:Int)) <|
     p2 ((s1.length+(ix rows s2).length)*16≤140737488355328) <|
     L5 b rows p4 m (s1++(ix rows s2)) (w (s2+(1:Int)))
   else
    p4 s1
def L6 (x0:qc) (qn:Unit→Option (Int×Int)):Nat→Int→Option (Int×Int)
 | 0,_=>none
 | m+1,s3 =>
   if (decide (s3<(x0.length:Int)))=true then
    p2 (0≤s3∧s3≤(x0.length:Int)) <|
    p2 (0≤s3∧s3<(x0.length:Int)) <|
    (Mb (x0.take s3.toNat) ((ix x0 s3).1)).bind fun qp =>
    if qp=true then
     some ((0:Int),(11:Int))
    else
     L6 x0 qn m (w (s3+(1:Int)))
   else
    qn ()
def M0 (b:p8) (rows:ri):Option (Int×Int) :=
 (Hi b).bind fun aS =>
 if (decide (aS≠(0:Int)))=true then
  (Hi b).bind fun bk =>
  some ((0:Int),bk)
 else
  L5 b rows (fun x0 =>
    L6 x0 (fun _ =>
      if (decide ((x0.length:Int)≠(b.2.length:Int)))=true then
       some ((0:Int),(15:Int))
      else
       some ((rows.length:Int),(0:Int))) p6 (0:Int)) p6 ([]:List (Int×Int)) (0:Int)
theorem akf {b:p8} {rows:ri} {p4:qc→Option (Int×Int)} {s1:qc} {s2:Int} {v:(Int×Int)} {Q:rm}   (jz:qD [.tmp 4,.tmp 5] Q (fun v=>(.tuple [(hS v.1),(hS v.2)])) v) (qY:∀ (x0:qc) (p9:List I),p4 x0=some v→qV 65 [(1,(.ay (rows.map (GU p7)) rows.length .shared)),(2,(.ptr 0 0)),(6,(qf x0 (.uniq 2)))] p9→Q (.exit 0) p9 [qg b]) {T:List I} (bZ:eS (EA false [1,2,3,2,57]) T=GH 65 [(1,(.ay (rows.map (GU p7)) rows.length .shared)),(2,(.ptr 0 0)),(6,(qf s1 (.uniq 2))),(7,(hS s2))]) (h:L5 b rows p4 p6 s1 s2=some v) :
  dC Tryz.prog O0 26 0 none QP T [qg b] Q:=by
 unfold QP;refine wp_loop bZ ?_;refine .intro (fun m T H=>∃ (s1:qc) (s2:Int),T=GH 65 [(1,(.ay (rows.map (GU p7)) rows.length .shared)),(2,(.ptr 0 0)),(6,(qf s1 (.uniq 2))),(7,(hS s2))]∧H=[qg b]∧L5 b rows p4 m s1 s2=some v) p6 ⟨s1,s2,rfl,rfl,h⟩ ?_;clear h bZ;rintro m T H ⟨s1,s2,rfl,rfl,h⟩;cases m
 ·exact q4 h
 rename_i m;rw [L5.eq_2] at h;conv=>whnf
 refine bs h (fun qC h=>?_) fun qC h=>?_
 ·rw [qC];conv=>whnf
  refine qy h id fun qG h=>?_;rw [Ht (GU p7) rows s2 qG];conv=>whnf
  obtain ⟨eE,qZ,h⟩:=qi h;refine ⟨qh.pl,_,aj8 qZ,GX,?_⟩;conv=>whnf
  refine bs h (fun qT h=>?_) fun qT h=>?_
  ·rw [qT];(conv=>whnf);exact qd h jz rfl rfl
  ·rw [qT];(conv=>whnf);refine qy h id fun qO h=>?_;rw [Ht (GU p7) rows s2 qO];(conv=>whnf);obtain ⟨q5,h⟩:=qw h;refine ⟨by first | rfl | (simp;done) | exact Ww p7 _ qK _,by have:=q5;omega,rfl,q5,?_⟩
   erw [adf p7 s1 (ix rows s2)];(conv=>whnf);exact ⟨m,su m,(s1++(ix rows s2)),(w (s2+(1:Int))),rfl,rfl,h⟩
 ·rw [qC];conv=>whnf
  exact qY _ _ h ⟨rfl,rfl⟩
theorem akg {x0:qc} {qn:Unit→Option (Int×Int)} {s3:Int} {b:p8} {rows:ri} {v:(Int×Int)} {Q:rm}   {Kp:ir} (jz:qD [.tmp 4,.tmp 5] Q (fun v=>(.tuple [(hS v.1),(hS v.2)])) v) (HT:∀ (p9:List I),qn ()=some v→qV 65 [(1,(.ay (rows.map (GU p7)) rows.length .shared)),(2,(.ptr 0 0)),(6,(qf x0 (.own 2)))] p9→Q (.exit 2) p9 [qg b]) (RZ:(Kp=(.uniq 2)∨Kp=(.own 2))) {T:List I} (bZ:eS (EA false [1,2,3,1,4,1,53]) T=GH 65 [(1,(.ay (rows.map (GU p7)) rows.length .shared)),(2,(.ptr 0 0)),(6,(.ay (x0.flatMap p7) x0.length Kp)),(11,(hS s3))]) (h:L6 x0 qn p6 s3=some v) :
  dC Tryz.prog O0 26 0 none QQ T [qg b] Q:=by
 unfold QQ;refine wp_loop bZ ?_;refine .intro (fun m T H=>∃ (s3:Int) (Kp:ir),(Kp=(.uniq 2)∨Kp=(.own 2))∧T=GH 65 [(1,(.ay (rows.map (GU p7)) rows.length .shared)),(2,(.ptr 0 0)),(6,(.ay (x0.flatMap p7) x0.length Kp)),(11,(hS s3))]∧H=[qg b]∧L6 x0 qn m s3=some v) p6 ⟨s3,_,RZ,rfl,rfl,h⟩ ?_;clear h bZ;rintro m T H ⟨s3,Kp,RZ,rfl,rfl,h⟩;cases m
 ·exact q4 h
 rename_i m;rw [L6.eq_2] at h;rcases RZ with rfl | rfl
 ·conv=>whnf
  refine bs h (fun q2 h=>?_) fun q2 h=>?_
  ·rw [q2];(conv=>whnf);refine qy h id fun rM h=>?_;erw [Ul p7 2 qK x0 s3 rM];(conv=>whnf);refine qy h id fun ry h=>?_;rw [qR p7 2 qK x0 s3 ry];(conv=>whnf);obtain ⟨qp,rB,h⟩:=qi h;refine ⟨qh.pl,_,UI rB,GX,?_⟩;(conv=>whnf);cases qp
   ·(conv=>whnf);replace h:=Hu rfl h;exact ⟨m,su m,(w (s3+(1:Int))),_,(.inr rfl),rfl,rfl,h⟩
   ·(conv=>whnf);replace h:=Hv rfl h;exact qd h jz rfl rfl
  ·rw [q2];(conv=>whnf);exact HT  _ h ⟨rfl,rfl⟩
 ·conv=>whnf
  refine bs h (fun q2 h=>?_) fun q2 h=>?_
  ·rw [q2];(conv=>whnf);refine qy h id fun rM h=>?_;erw [Ul p7 2 qK x0 s3 rM];(conv=>whnf);refine qy h id fun ry h=>?_;rw [qR p7 2 qK x0 s3 ry];(conv=>whnf);obtain ⟨qp,rB,h⟩:=qi h;refine ⟨qh.pl,_,UI rB,GX,?_⟩;(conv=>whnf);cases qp
   ·(conv=>whnf);replace h:=Hu rfl h;exact ⟨m,su m,(w (s3+(1:Int))),_,(.inr rfl),rfl,rfl,h⟩
   ·(conv=>whnf);replace h:=Hv rfl h;exact qd h jz rfl rfl
  ·rw [q2];(conv=>whnf);exact HT  _ h ⟨rfl,rfl⟩
theorem akh {b:p8} {rows:ri} {v:(Int×Int)} (h:M0 b rows=some v):qt 26 [(.agg [(hS b.1),(.ay (b.2.flatMap p7) b.2.length .shared)]),(.ay (rows.map (GU p7)) rows.length .shared)] (.tuple [(hS v.1),(hS v.2)]):=by
 refine qN dI afP rfl (I8 (p5 rfl (p5 rfl rfl))) fun Q bn=>?_;have jz:qD [.tmp 4,.tmp 5] Q (fun v=>(.tuple [(hS v.1),(hS v.2)])) v:=fun T H bK=>bn _ T H bK;unfold M0 at h;unfold aba;obtain ⟨Hy,qB⟩:∃ c,QP=c:=⟨_,rfl⟩;rw [qB];obtain ⟨Ko,rT⟩:∃ c,QQ=c:=⟨_,rfl⟩;rw [rT];conv=>whnf
 obtain ⟨aS,eV,h⟩:=qi h;refine ⟨qh.pl,_,JS eV,?_⟩;conv=>whnf
 refine bs h (fun fl h=>?_) fun fl h=>?_
 ·rw [fl];conv=>whnf
  obtain ⟨bk,qo,h⟩:=qi h;refine ⟨qh.pl,_,JS qo,?_⟩;conv=>whnf
  exact qd h jz rfl rfl
 ·rw [fl];conv=>whnf
  subst qB;refine akf ?_ ?_ (by exact rfl) h
  ·exact fun T H bK=>jz T H bK
  ·intro x0 p9 h qs;obtain ⟨ru,rfl⟩:=qs.ex;(conv=>whnf);subst rT;refine akg ?_ ?_ (.inl rfl) (by exact rfl) h
   ·exact fun T H bK=>jz T H bK
   ·intro  p9 h qs;obtain ⟨ru,rfl⟩:=qs.ex;(conv=>whnf);refine bs h (fun Hk h=>?_) fun Hk h=>?_
    ·rw [Hk];(conv=>whnf);exact qd h jz rfl rfl
    ·rw [Hk];(conv=>whnf);exact qd h jz rfl rfl

noncomputable def QO:ez :=
 .loop (some (EA false [0,1,2,2,17])) (.seq (GC [Gp 7 4,Gp 8 0,Gl 9 8,F2 10 7 9 .lss] (.cond (.sl 10) .skip (.exit 0))) (.seq (.block 1 (Gt [Gq 13 3,Gp 14 0,Gp 15 4,Gi 16 14 15 1,Gm 17 16,Gl 18 17,gO 19 [.hJ 13,.hJ 18] .max,Gq 3 19])) (Gt [Gq 11 4,F0 12 11 1,Gq 4 12])))
noncomputable def aa_:ez :=
 GC [gO 2 [.iD (.bool false)] .iT] (GC [Gp 5 0,Gl 6 5,Gq 3 6] (.seq (GC [Gn 4 0] (.block 0 QO)) (GC [Gq 20 3,F1 21 20 14 .gtr,Gq 2 21] .ret)))
theorem afO:zg Tryz.prog Ri 24=some (aa_,22,[.tmp 2]):=by kernel_rfl
def L4 (l:ri) (p4:Int→Option Bool):Nat→Int→Int→Option Bool
 | 0,_,_=>none
 | m+1,s1,s2 =>
   if (decide (s2<(l.length:Int)))=true then
    p2 (0≤s2∧s2<(l.length:Int)) <|
    L4 l p4 m (max s1 ((ix l s2).length:Int)) (w (s2+(1:Int)))
   else
    p4 s1
def MZ (l:ri):Option Bool :=
 L4 l (fun x0 =>
   some (decide ((14:Int)<x0))) p6 (l.length:Int) (0:Int)
theorem aka {l:ri} {p4:Int→Option Bool} {s1:Int} {s2:Int} {v:Bool} {Q:rm}   (qY:∀ (x0:Int) (p9:List I),p4 x0=some v→qV 22 [(3,(hS x0))] p9→Q (.exit 0) p9 []) {T:List I} (bZ:eS (EA false [0,1,2,2,17]) T=GH 22 [(0,(.ay (l.map (GU p7)) l.length .shared)),(3,(hS s1)),(4,(hS s2))]) (h:L4 l p4 p6 s1 s2=some v) :
  dC Tryz.prog Ri 24 0 none QO T [] Q:=by
 unfold QO;refine wp_loop bZ ?_;refine .intro (fun m T H=>∃ (s1 s2:Int),T=GH 22 [(0,(.ay (l.map (GU p7)) l.length .shared)),(3,(hS s1)),(4,(hS s2))]∧H=[]∧L4 l p4 m s1 s2=some v) p6 ⟨s1,s2,rfl,rfl,h⟩ ?_;clear h bZ;rintro m T H ⟨s1,s2,rfl,rfl,h⟩;cases m
 ·exact q4 h
 rename_i m;rw [L4.eq_2] at h;conv=>whnf
 refine bs h (fun eV h=>?_) fun eV h=>?_
 ·rw [eV];conv=>whnf
  refine qy h id fun fl h=>?_;rw [Ht (GU p7) l s2 fl];conv=>whnf
  exact ⟨m,su m,(max s1 ((ix l s2).length:Int)),(w (s2+(1:Int))),rfl,rfl,h⟩
 ·rw [eV];conv=>whnf
  exact qY _ _ h ⟨rfl,rfl⟩
theorem akb {l:ri} {v:Bool} (h:MZ l=some v):qt 24 [(.ay (l.map (GU p7)) l.length .shared)] (B v):=by
 refine qN dI afO rfl rfl fun Q bn=>?_;have jz:qD [.tmp 2] Q (fun v=>(B v)) v:=fun T H bK=>bn _ T H bK;unfold MZ at h;unfold aa_;obtain ⟨Hy,qB⟩:∃ c,QO=c:=⟨_,rfl⟩;rw [qB];conv=>whnf
 subst qB;refine aka ?_ (by exact rfl) h;intro x0 p9 h qs;obtain ⟨ru,rfl⟩:=qs.ex;conv=>whnf
 exact qd h jz rfl rfl

noncomputable def QU:ez :=
 .loop (some (EA false [0,2,3,1,20])) (.seq (GC [Gp 11 5,Gp 12 0,Gl 13 12,F2 14 11 13 .lss] (.cond (.sl 14) .skip (.exit 0))) (.seq (.block 1 (.seq (Gu [Gp 17 0,Gp 18 5,Gi 19 17 18 1,Gm 20 19,Gp 21 1,Gp 22 5,Gi 23 21 22 1,Gm 24 23,F2 25 20 24 .neq]) (.cond (.sl 25) (GC [gO 4 [.iD (.bool false)] .iT] .ret) .skip))) (Gt [Gq 15 5,F0 16 15 1,Gq 5 16])))
noncomputable def abi:ez :=
 GC [gO 4 [.iD (.bool false)] .iT] (.seq (GC [Gp 6 0,Gl 7 6,Gp 8 1,Gl 9 8,F2 10 7 9 .neq] (.cond (.sl 10) (GC [gO 4 [.iD (.bool false)] .iT] .ret) .skip)) (.seq (GC [Gn 5 0] (.block 0 QU)) (GC [gO 4 [.iD (.bool true)] .iT] .ret)))
theorem afW:zg Tryz.prog Rk 33=some (abi,26,[.tmp 4]):=by kernel_rfl
def L8 (a b:p0) (p4:Unit→Option Bool):Nat→Int→Option Bool
 | 0,_=>none
 | m+1,s1 =>
   if (decide (s1<(a.length:Int)))=true then
    p2 (0≤s1∧s1<(a.length:Int)) <|
    p2 (0≤s1∧s1<(b.length:Int)) <|
    if (decide ((ix a s1)≠(ix b s1)))=true then
     some false
    else
     L8 a b p4 m (w (s1+(1:Int)))
   else
    p4 ()
def L7 (a b:p0):Option Bool :=
 if (decide ((a.length:Int)≠(b.length:Int)))=true then
  some false
 else
  L8 a b (fun _ =>
    some true) p6 (0:Int)
theorem akx {a:p0} {b:p0} {p4:Unit→Option Bool} {s1:Int} {v:Bool} {Q:rm}   (jz:qD [.tmp 4] Q (fun v=>(B v)) v) (qY:∀ (p9:List I),p4 ()=some v→qV 26 [] p9→Q (.exit 0) p9 []) {T:List I} (bZ:eS (EA false [0,2,3,1,20]) T=GH 26 [(0,(qj a .shared)),(1,(qj b .shared)),(5,(hS s1))]) (h:L8 a b p4 p6 s1=some v) :
  dC Tryz.prog Rk 33 0 none QU T [] Q:=by
 unfold QU;refine wp_loop bZ ?_;refine .intro (fun m T H=>∃ (s1:Int),T=GH 26 [(0,(qj a .shared)),(1,(qj b .shared)),(5,(hS s1))]∧H=[]∧L8 a b p4 m s1=some v) p6 ⟨s1,rfl,rfl,h⟩ ?_;clear h bZ;rintro m T H ⟨s1,rfl,rfl,h⟩;cases m
 ·exact q4 h
 rename_i m;rw [L8.eq_2] at h;conv=>whnf
 refine bs h (fun fl h=>?_) fun fl h=>?_
 ·rw [fl];conv=>whnf
  refine qy h id fun qo h=>?_;rw [Ht hS a s1 qo];conv=>whnf
  refine qy h id fun qC h=>?_;rw [Ht hS b s1 qC];conv=>whnf
  refine bs h (fun qG h=>?_) fun qG h=>?_
  ·rw [qG];(conv=>whnf);exact qd h jz rfl rfl
  ·rw [qG];(conv=>whnf);exact ⟨m,su m,(w (s1+(1:Int))),rfl,rfl,h⟩
 ·rw [fl];conv=>whnf
  exact qY  _ h ⟨rfl,rfl⟩
theorem UC {a:p0} {b:p0} {v:Bool} (h:L7 a b=some v):qt 33 [(.ay (a.map hS) a.length .shared),(.ay (b.map hS) b.length .shared)] (B v):=by
 refine qN dI afW rfl rfl fun Q bn=>?_;have jz:qD [.tmp 4] Q (fun v=>(B v)) v:=fun T H bK=>bn _ T H bK;unfold L7 at h;unfold abi;obtain ⟨Hy,qB⟩:∃ c,QU=c:=⟨_,rfl⟩;rw [qB];conv=>whnf
 refine bs h (fun eV h=>?_) fun eV h=>?_
 ·rw [eV];conv=>whnf
  exact qd h jz rfl rfl
 ·rw [eV];conv=>whnf
  subst qB;refine akx ?_ ?_ (by exact rfl) h
  ·exact fun T H bK=>jz T H bK
  ·intro  p9 h qs;obtain ⟨ru,rfl⟩:=qs.ex;(conv=>whnf);exact qd h jz rfl rfl

noncomputable def QV:ez :=
 .loop (some (EA false [0,2,3,1,21])) (.seq (GC [Gp 11 5,Gp 12 0,Gl 13 12,F2 14 11 13 .lss] (.cond (.sl 14) .skip (.exit 0))) (.seq (.block 1 (.seq (Gu [Gp 17 0,Gp 18 5,Gi 19 17 18 1,Gm 20 19,Gp 21 1,Gp 22 5,Gi 23 21 22 1,Gm 24 23,gO 25 [.iD (.func 33 [] []),.sl 20,.sl 24] (.call 3),gO 26 [.hM 25] (.un .not)]) (.cond (.sl 26) (GC [gO 4 [.iD (.bool false)] .iT] .ret) .skip))) (Gt [Gq 15 5,F0 16 15 1,Gq 5 16])))
noncomputable def abj:ez :=
 GC [gO 4 [.iD (.bool false)] .iT] (.seq (GC [Gp 6 0,Gl 7 6,Gp 8 1,Gl 9 8,F2 10 7 9 .neq] (.cond (.sl 10) (GC [gO 4 [.iD (.bool false)] .iT] .ret) .skip)) (.seq (GC [Gn 5 0] (.block 0 QV)) (GC [gO 4 [.iD (.bool true)] .iT] .ret)))
theorem afX:zg Tryz.prog Rl 34=some (abj,27,[.tmp 4]):=by kernel_rfl
def L9 (a b:q6) (p4:Unit→Option Bool):Nat→Int→Option Bool
 | 0,_=>none
 | m+1,s1 =>
   if (decide (s1<(a.length:Int)))=true then
    p2 (0≤s1∧s1<(a.length:Int)) <|
    p2 (0≤s1∧s1<(b.length:Int)) <|
    (L7 (ix a s1) (ix b s1)).bind fun aS =>
    if aS=true then
     L9 a b p4 m (w (s1+(1:Int)))
    else
     some false
   else
    p4 ()
def OC (a b:q6):Option Bool :=
 if (decide ((a.length:Int)≠(b.length:Int)))=true then
  some false
 else
  L9 a b (fun _ =>
    some true) p6 (0:Int)
theorem aky {a:q6} {b:q6} {p4:Unit→Option Bool} {s1:Int} {v:Bool} {Q:rm}   (jz:qD [.tmp 4] Q (fun v=>(B v)) v) (qY:∀ (p9:List I),p4 ()=some v→qV 27 [] p9→Q (.exit 0) p9 []) {T:List I} (bZ:eS (EA false [0,2,3,1,21]) T=GH 27 [(0,(.ay (a.map jk) a.length .shared)),(1,(.ay (b.map jk) b.length .shared)),(5,(hS s1))]) (h:L9 a b p4 p6 s1=some v) :
  dC Tryz.prog Rl 34 0 none QV T [] Q:=by
 unfold QV;refine wp_loop bZ ?_;refine .intro (fun m T H=>∃ (s1:Int),T=GH 27 [(0,(.ay (a.map jk) a.length .shared)),(1,(.ay (b.map jk) b.length .shared)),(5,(hS s1))]∧H=[]∧L9 a b p4 m s1=some v) p6 ⟨s1,rfl,rfl,h⟩ ?_;clear h bZ;rintro m T H ⟨s1,rfl,rfl,h⟩;cases m
 ·exact q4 h
 rename_i m;rw [L9.eq_2] at h;conv=>whnf
 refine bs h (fun fl h=>?_) fun fl h=>?_
 ·rw [fl];conv=>whnf
  refine qy h id fun qo h=>?_;rw [Ht jk a s1 qo];conv=>whnf
  refine qy h id fun qC h=>?_;rw [Ht jk b s1 qC];conv=>whnf
  obtain ⟨aS,qG,h⟩:=qi h;refine ⟨qh.pl,_,UC qG,GX,?_⟩;conv=>whnf
  cases aS
  ·(conv=>whnf);replace h:=Hu rfl h;exact qd h jz rfl rfl
  ·(conv=>whnf);replace h:=Hv rfl h;exact ⟨m,su m,(w (s1+(1:Int))),rfl,rfl,h⟩
 ·rw [fl];conv=>whnf
  exact qY  _ h ⟨rfl,rfl⟩
theorem akz {a:q6} {b:q6} {v:Bool} (h:OC a b=some v):qt 34 [(.ay (a.map jk) a.length .shared),(.ay (b.map jk) b.length .shared)] (B v):=by
 refine qN dI afX rfl rfl fun Q bn=>?_;have jz:qD [.tmp 4] Q (fun v=>(B v)) v:=fun T H bK=>bn _ T H bK;unfold OC at h;unfold abj;obtain ⟨Hy,qB⟩:∃ c,QV=c:=⟨_,rfl⟩;rw [qB];conv=>whnf
 refine bs h (fun eV h=>?_) fun eV h=>?_
 ·rw [eV];conv=>whnf
  exact qd h jz rfl rfl
 ·rw [eV];conv=>whnf
  subst qB;refine aky ?_ ?_ (by exact rfl) h
  ·exact fun T H bK=>jz T H bK
  ·intro  p9 h qs;obtain ⟨ru,rfl⟩:=qs.ex;(conv=>whnf);exact qd h jz rfl rfl
end Go.Proofs.YtfakoboiahbhaaaGreat.Ab


namespace Go.Proofs.YtfakoboiahbhaaaGreat.Ab
open Go
section
variable {b:p3}
theorem aab {x0:Row} (bo:x0.length≤100000) (ai:∀ i:Nat,i<x0.length→(x0.take i).length≤1000) {k:Unit→Option (Int×Int)}:∀ (m i:Nat) (z:Int),z=i→i≤x0.length→x0.length-i<m→L6 x0 k m z=if Ho (x0.take i) (x0.drop i)=true then some (0,11) else k ()
 | 0,_,_,_,_,h=>absurd h (by omega)
 | m+1,i,_,rfl,hi,hm=>by
   rw [L6];by_cases h:(i:Int)<(x0.length:Int)
   ·(have rR:i<x0.length:=by omega);rw [if_pos (decide_eq_true h),qb ⟨by omega,by omega⟩,qb ⟨by omega,h⟩,q_ rR,ti,aaB _ _ (ai i rR),rW,sU rR,Ho];by_cases a0:((x0.take i).any fun q=>decide (q.1=x0[i].1))=true
    ·rw [if_pos a0,if_pos a0,if_pos rfl]
    ·rw [if_neg a0,if_neg a0,re i (by omega),aab bo ai m (i+1) _ rfl (by omega) (by omega),Om rR]
   ·rw [if_neg (by simpa using h),tb (by omega),Ho,if_neg (by simp)]
theorem Z' (ag:b.2.length≤1000) {rows:List Row} (aj:rows.length≤1000) (C4:∀ r∈rows,r.length≤1000) {k:Row→Option (Int×Int)}:∀ (m i:Nat) (z:Int) (acc:Row),z=i→i≤rows.length→rows.length-i<m→acc.length≤1000*i →
  L5 b rows k m acc z=match (rows.drop i).find? fun r=>decide ((GR b r).2.2≠0) with | some r=>some (0,(GR b r).2.2) | none=>k (acc++(rows.drop i).flatten)
 | 0,_,_,_,_,_,h,_=>absurd h (by omega)
 | m+1,i,_,acc,rfl,hi,hm,cg=>by
   rw [L5];by_cases h:(i:Int)<(rows.length:Int)
   ·(have rR:i<rows.length:=by omega);have ak:=C4 _ (sH rR);rw [if_pos (decide_eq_true h),qb ⟨by omega,h⟩,q_ rR,aj4 b _ ag ak,rW,sU rR,List.find?_cons];by_cases ao:(GR b rows[i]).2.2≠0
    ·rw [if_pos (decide_eq_true ao),decide_eq_true ao]
    ·rw [if_neg (by simpa using ao),decide_eq_false ao,qb ⟨by omega,h⟩,qb (by omega),re i (by omega),Z' ag aj C4 m (i+1) _ _ rfl (by omega) (by omega) (by rw [sj];omega),tR,sy]
   ·rw [if_neg (by simpa using h),tb (by omega)];simp
theorem RF:∀ {rows:List Row} {n:Nat},(∀ r∈rows,r.length≤n)→rows.flatten.length≤n*rows.length
 | [],_,_=>by simp
 | r::rows,n,h=>by
   have ad:=h r (by simp);have af:=RF fun q a4=>h q (tP _ a4);rw [tR,sj,sD,Nat.mul_add];omega
theorem ake (ag:b.2.length≤1000) {rows:List Row} (aj:rows.length≤20) (C4:∀ r∈rows,r.length≤20):M0 b rows=some (IH b rows):=by
 rw [M0,Ov b ag,rW];unfold IH;by_cases h:q3 b=0
 ·have pe:=RF C4;rw [if_neg (by simp [h]),if_neg (by simp [h]),Z' ag (by omega) (fun r aj=>sJ (C4 r aj) (by omega)) p6 0 0 [] rfl (by omega) (rq (by omega)) (by simp),sT];cases (rows.find? fun r=>decide ((GR b r).2.2≠0)) with
  | some r=>rfl
  | none =>
    simp only [List.nil_append];rw [aab (by omega) (fun i _=>by rw [s_];omega) p6 0 0 rfl (by omega) (rq (by omega)),tI,sT];by_cases aN:(rows.flatten.map (·.1)).Nodup
    ·rw [if_pos aN,Wm _ _ (by simpa using aN),if_neg (by simp)];by_cases ak:rows.flatten.length≠b.2.length
     ·rw [if_pos ak,if_pos (show decide ((rows.flatten.length:Int)≠(b.2.length:Int))=true by simp only [decide_eq_true_eq];omega)]
     ·rw [if_neg ak,if_neg (show ¬ decide ((rows.flatten.length:Int)≠(b.2.length:Int))=true by simp only [decide_eq_true_eq];omega)]
    ·rw [if_neg aN]
     have:Ho [] rows.flatten=true:=by
      cases a0:Ho [] rows.flatten with
      | true=>rfl
      | false=>exact absurd (by simpa using RB _ _ a0 (by simp)) aN
     rw [this,if_pos rfl]
 ·rw [if_pos (by simpa using h),if_pos h,rW]
theorem Z_ {l:List Row} (ak:l.length≤9223372036854775807) {k:Int→Option Bool}:∀ (m i:Nat) (z a:Int),z=i→i≤l.length→l.length-i<m →
  ∃ aM,L4 l k m a z=k aM∧(14<aM↔14<a∨∃ r∈l.drop i,14<r.length)
 | 0,_,_,_,_,_,h=>absurd h (by omega)
 | m+1,i,_,a,rfl,hi,hm=>by
   rw [L4];by_cases h:(i:Int)<(l.length:Int)
   ·(have rR:i<l.length:=by omega);rw [if_pos (decide_eq_true h),qb ⟨by omega,h⟩,q_ rR,re i (by omega)];obtain ⟨aM,ad,af⟩:=Z_ ak (k:=k) m (i+1) _ (max a (l[i].length:Int)) rfl (by omega) (by omega);refine ⟨aM,ad,?_⟩;rw [af,sU rR];constructor
    ·rintro (h | ⟨r,aj,h⟩)
     ·by_cases ao:14<a
      ·exact .inl ao
      ·exact .inr ⟨_,List.mem_cons_self,by omega⟩
     ·exact .inr ⟨r,tP _ aj,h⟩
    ·rintro (h | ⟨r,aj,h⟩)
     ·exact .inl (by omega)
     ·rcases sf.1 aj with rfl | aj
      ·exact .inl (by omega)
      ·exact .inr ⟨r,aj,h⟩
   ·rw [if_neg (by simpa using h),tb (by omega)];exact ⟨a,rfl,by simp⟩
theorem aj_ {l:List Row} (ak:l.length≤9223372036854775807):∃ r:Bool,MZ l=some r∧(r=true↔14<l.length∨∃ q∈l,14<q.length):=by
 rw [MZ];obtain ⟨aM,ad,af⟩:=Z_ ak (k:=fun x0=>some (decide ((14:Int)<x0))) p6 0 0 (l.length:Int) rfl (by omega) (rq (by omega));refine ⟨_,ad,?_⟩;rw [decide_eq_true_eq,af,sT];constructor
 ·rintro (h | h)
  ·exact .inl (by omega)
  ·exact .inr h
 ·rintro (h | h)
  ·exact .inl (by omega)
  ·exact .inr h
theorem aae {a:List Int} (cg:a.length≤1000):∀ (m i:Nat) (z:Int),z=i→i≤a.length→a.length-i<m→L8 a a (fun _=>some true) m z=some true
 | 0,_,_,_,_,h=>absurd h (by omega)
 | m+1,i,_,rfl,hi,hm=>by
   rw [L8];by_cases h:(i:Int)<(a.length:Int)
   ·rw [if_pos (decide_eq_true h),qb ⟨by omega,h⟩,qb ⟨by omega,h⟩,if_neg (by simp),re i (by omega)];exact aae cg m (i+1) _ rfl (by omega) (by omega)
   ·rw [if_neg (by simpa using h)]
theorem UD {a:List Int} (cg:a.length≤1000):L7 a a=some true:=by
 rw [L7,if_neg (by simp)];exact aae cg p6 0 0 rfl (by omega) (rq (by omega))
theorem aaf {a:List (List Int)} (cg:a.length≤1000) (aj:∀ r∈a,r.length≤1000):∀ (m i:Nat) (z:Int),z=i→i≤a.length→a.length-i<m→L9 a a (fun _=>some true) m z=some true
 | 0,_,_,_,_,h=>absurd h (by omega)
 | m+1,i,_,rfl,hi,hm=>by
   rw [L9];by_cases h:(i:Int)<(a.length:Int)
   ·(have rR:i<a.length:=by omega);rw [if_pos (decide_eq_true h),qb ⟨by omega,h⟩,qb ⟨by omega,h⟩,q_ rR,UD (aj _ (sH rR)),rW,if_pos rfl,re i (by omega)];exact aaf cg aj m (i+1) _ rfl (by omega) (by omega)
   ·rw [if_neg (by simpa using h)]
theorem akA {a:List (List Int)} (cg:a.length≤1000) (aj:∀ r∈a,r.length≤1000):OC a a=some true:=by
 rw [OC,if_neg (by simp)];exact aaf cg aj p6 0 0 rfl (by omega) (rq (by omega))
end
end Go.Proofs.YtfakoboiahbhaaaGreat.Ab


namespace Go.Proofs.YtfakoboiahbhaaaGreat.Ab
open Go
noncomputable def TV:ez :=
 GC [gO 5 [] (.ya 0 1 [.int .i64 0] []),Gq 6 0,gO 7 [.hJ 5,.hJ 6] (.app 1 8),Gq 2 7] .ret
noncomputable def TU:ez :=
 GC [gO 2 [.iD (.ay [] 0 .full)] (.nil 1)] (.seq (GC [Gp 3 0, gO 4 [.hM 3, .iD (.ay [] 0 .full)] (.other (Oper.mk (some 4) (Op.binOp .eql 38 (Operand.tmp 3) (Operand.const (Value.slice none 0 0)) 38) 4 "slices.go:357" (Array.mk [Edge.mk 0 Ground.data]) none) 0)] (.cond (.sl 4) (GC [gO 2 [.iD (.ay [] 0 .full)] (.nil 1)] .ret) .skip)) TV)
theorem Xq:zg Go.Proofs.Tryz.prog VP 75=some (TU,8,[.tmp 2]):=by kernel_rfl
noncomputable def TF:ez :=
 GC [Gp 17 6,F1 18 17 0 .neq] (.cond (.sl 18) (GC [Gq 19 6,Gn 4 0,Gq 5 19] .ret) .skip)
noncomputable def TI:ez :=
 GC [Gp 33 12,F1 34 33 0 .neq] (.cond (.sl 34) (GC [Gq 35 12,Gn 4 0,Gq 5 35] .ret) .skip)
noncomputable def TJ:ez :=
 .j3 true [Gp 42 7,Gp 43 7,Gl 44 43,Gp 45 7,Gl 46 45,gO 47 [.hJ 42,.hJ 44,.hJ 46] (.AY 1 false true true),F7 48 14 0,Gm 49 48,gO 50 [.hM 49] (.ya 1 1 [.int .i64 0] [0]),gO 51 [.hJ 47,.hJ 50] (.app 1 8),Gq 7 51]
noncomputable def TK:ez :=
 .block 3 (GC [gO 40 [.sl 36,.sl 38] (.pQ 2),gO 41 [.hM 40] (.w8 (.str 2)),gO 14 [] (.alloc [.int .i64 0,.int .i64 0]),⟨none,[.sl 14,.hJ 41],none,none,.st 2⟩] TJ)
noncomputable def TL:ez :=
 GC [Gq 36 9,gO 37 [.sl 36] .w_,Gn 38 0] (.block 2 (.loop (some (EA false [1,2,4,1,12,3,13,3,34])) (GC [gO 39 [.sl 38,.sl 37] (.bin .lss)] (.seq (.cond (.sl 39) .skip (.exit 2)) (.seq TK (Gt [F0 52 38 1,Gq 38 52]))))))
noncomputable def TM:ez :=
 .seq (GC [gO 27 [.sl 2] (.w8 (.str 2)),Gp 28 9,gO 29 [.iD (.func 18 [] []),.sl 27,.sl 28] (.call 3),Gq 26 29,GK 30 26 0,GK 31 26 1,gO 32 [.hM 26] (.ext 2),Gq 10 30,Gq 11 31,Gq 12 32] TI) TL
noncomputable def TN:ez :=
 .block 1 (GC [gO 24 [.sl 20,.sl 22] (.pQ 1),Gm 25 24,Gq 9 25] TM)
noncomputable def Oa:ez :=
 GC [Gq 65 7,Gl 66 65,F7 67 2 1,Gm 68 67,Gl 69 68,F2 70 66 69 .lss,Gq 64 70] (.cond (.sl 64) (GC [Gn 4 0,Gn 5 15] .ret) .skip)
noncomputable def P3:ez :=
 .block 4 (GC [Gp 57 7,gO 58 [.iD (.func 75 [] []),.sl 57] (.call 0),gO 59 [.iD (.func 74 [] []),.hJ 58] (.call 1),Gl 60 59,Gp 61 7,Gl 62 61,F2 63 60 62 .lss,Gq 56 63] (.cond (.sl 56) (GC [Gn 4 0,Gn 5 11] .ret) Oa))
noncomputable def P2:ez :=
 GC [Gq 71 1,Gl 72 71,Gq 4 72,Gn 5 0] .ret
noncomputable def TG:ez :=
 .seq (GC [Gp 20 1,gO 21 [.sl 20] .w_,Gn 22 0] (.block 0 (.loop (some (EA false [1,2,4,1,12,3,50])) (GC [gO 23 [.sl 22,.sl 21] (.bin .lss)] (.seq (.cond (.sl 23) .skip (.exit 0)) (.seq TN (Gt [F0 53 22 1,Gq 22 53]))))))) (GC [⟨some 54,[.hJ 7],none,some 7,.A7⟩,gO 55 [.iD (.func 73 [] []),.hJ 54] (.call 1)] (.seq P3 P2))
noncomputable def TH:ez :=
 .seq (GC [gO 15 [.sl 2] (.w8 (.str 2)),gO 16 [.iD (.func 20 [] []),.sl 15] (.call 3),Gq 6 16] TF) (GC [gO 7 [.iD (.ay [] 0 .full)] (.nil 1)] TG)
noncomputable def Ys:ez :=
 GC [gO 2 [.hJ 0] .box,Gn 4 0,Gn 5 0] TH
theorem afD:zg Go.Proofs.Tryz.prog Vz 25=some (Ys,73,[.tmp 4,.tmp 5]):=by kernel_rfl
end Go.Proofs.YtfakoboiahbhaaaGreat.Ab


namespace Go.Proofs.YtfakoboiahbhaaaGreat.Ab
open Go
set_option maxRecDepth 20000
set_option maxHeartbeats 4000000
theorem Yx (z:I):∀ n:Nat,eZ n [z]=List.replicate n z
 | 0=>rfl
 | n+1=>by simp [eZ,Yx z n,List.replicate_succ]
theorem adN (lo id off len:Nat) (H:List au) (l:List I) (bF:lo≤id) (ah:H[id]?=some (.cells l)) (h:off+len≤l.length) :
  kU Go.Proofs.Tryz.prog lo #[38] H [.ref id off len none 1]=some (.tuple [],H.set id (.cells (l.take off++List.replicate len (hS 0)++l.drop (off+len)))):=by
 have e1:((#[38]:Array TypeId)[0]?).bind Go.Proofs.Tryz.prog.underlying=some (.slice 3):=by kernel_rfl
 have cm:bU Go.Proofs.Tryz.prog 3=some 1:=by kernel_rfl
 have dF:zeroCells Go.Proofs.Tryz.prog 3=some [.int .i64 0]:=by kernel_rfl
 have oL:setCells off (eZ len [I.int .i64 0]) l=l.take off++List.replicate len (hS 0)++l.drop (off+len):=by
  apply List.ext_getElem?;intro j;rw [n' _ _ _ _ (by rw [ij];simp;omega),ij,Yx];simp only [tF,tr];by_cases aw:j<off
  ·rw [if_neg (by omega),sy,se (by simp;omega),List.getElem?_take_of_lt aw]
  ·by_cases fm:j<off+len
   ·rw [if_pos ⟨by omega,fm⟩,se (by simp;omega),sB (by simp;omega),vj,vj,s_,if_pos (by omega),if_pos (by omega)]
   ·rw [if_neg (by omega),sB (by simp;omega),sY];congr 1;simp;omega
 unfold kU;simp only [e1,cm,dF,g_,ah,sc,if_pos bF];rw [if_pos ⟨trivial,rfl,by decide⟩,if_pos (by omega),oL];rfl
section
variable {id lo:Nat} {H:List au} {Jk:FuncId} {H5 cs:List I} {p:Int→Bool} {cur rest:List Int}
end

section
variable {id lo:Nat} {H:List au}
theorem adR (l r:List Int) (aT:0<l.length) (ak:l.length≤1000) (ah:H[id]?=some (.cells ((l++r).map hS))) :
  Sem Go.Proofs.Tryz.prog (.fn 75) [.ref id 0 l.length none 1] H lo (.ay (l.map hS) l.length (.uniq 1)) H:=by
 refine rH dI Xq rfl ⟨rX _,fun j _ _=>rfl⟩ fun Q bn=>?_;unfold TU TV;conv=>whnf
 refine ⟨.bool false,H,fun C=>by kernel_rfl,?_⟩;conv=>whnf
 refine DX ah ?_;conv=>whnf
 refine ⟨by simp,?_⟩;rw [show List.map I.view (List.take (l.length*1) (List.drop 0 (List.map hS (l++r))))=l.map hS by rw [sT,tr,th,List.take_left' (by simp),tq];rfl];conv=>whnf
 refine ⟨by simp,by omega,rfl,by omega,?_⟩;conv=>whnf
 exact bn _ _ _ ⟨.inr rfl,⟨rfl,fun j o aw=>.inr aw⟩,by rw [Nat.zero_add];rfl⟩
end

end Go.Proofs.YtfakoboiahbhaaaGreat.Ab


namespace Go.Proofs.YtfakoboiahbhaaaGreat.Ab
open Go
set_option maxRecDepth 20000
set_option maxHeartbeats 4000000

end Go.Proofs.YtfakoboiahbhaaaGreat.Ab


namespace Go.Proofs.YtfakoboiahbhaaaGreat.Ab
open Go
set_option maxRecDepth 20000
set_option maxHeartbeats 4000000

section
variable {t:p3} {S:List Int} {H:List au} {bi k:Nat} {at_ i:Int} {can out:Row} {Kb Kc Kd:I} {K:cD→List I→List au→Prop}
def alf (t:p3):Option Row:=if q3 t=0∧0<t.2.length then some (agC t) else none
end

def aah (b:p8):Option (qc×Int) :=
 (Ih b).bind fun aS =>
 match aS with
 | (none,q1) =>
   if (decide (q1≠(0:Int)))=true then
    some ([],q1)
   else
    if (decide ((b.2.length:Int)=(0:Int)))=true then
     some ([],(5:Int))
    else
     none
 | (some bT,q1) =>
   if (decide (q1≠(0:Int)))=true then
    some ([],q1)
   else
    if (decide ((b.2.length:Int)=(0:Int)))=true then
     some ([],(5:Int))
    else
     (UN bT).bind fun bk =>
     if (decide ((1:Int)<(bk.length:Int)))=true then
      some ([],(27:Int))
     else
      (alf bT).bind fun eE =>
      some (eE,(0:Int))

def aal (b:p8):Option (qc×Int) :=
 (aah b).bind fun aS =>
 if (decide (aS.2≠(0:Int)))=true then
  some ([],aS.2)
 else
  (Z9 b aS.1).bind fun bk =>
  if (decide (bk≠(0:Int)))=true then
   some ([],(27:Int))
  else
   some (aS.1,(0:Int))

def akD (b:p8):Option (Int×Int) :=
 (aal b).bind fun aS =>
 if (decide (aS.2=(0:Int)))=true then
  some ((0:Int),(0:Int))
 else
  (aag b).bind fun bk =>
  some (bk.1,bk.2)

def aao (b:p8):Option Int :=
 (UR b).bind fun aS =>
 if (decide (aS=(0:Int)))=true then
  (Ll b).bind fun bk =>
  if (decide ((0:Int)<(bk.length:Int)))=true then
   some (27:Int)
  else
   some aS
 else
  some aS

def akE (b:p8):Option (Int×Int) :=
 (Hi b).bind fun aS =>
 if (decide (aS≠(0:Int)))=true then
  (Hi b).bind fun bk =>
  some ((0:Int),bk)
 else
  (aao b).bind fun eE =>
  if (decide (eE=(0:Int)))=true then
   some ((0:Int),(0:Int))
  else
   (UQ b).bind fun qp =>
   some (qp,(0:Int))

def akF (b:p8):Option (ri×Int) :=
 (Ih b).bind fun aS =>
 match aS with
 | (none,q1) =>
   if (decide (q1≠(0:Int)))=true then
    some ([],q1)
   else
    none
 | (some bT,q1) =>
   if (decide (q1≠(0:Int)))=true then
    some ([],q1)
   else
    (UN bT).bind fun bk =>
    some (bk,(0:Int))

def Qy (b:p8) (qp:(Int×Int)) (HS:(ri×Int))  : Option Bool :=
 if (decide (qp.2≠(0:Int)))=true then
  if (decide ((HS.1.length:Int)=(0:Int)))=true then
   (IU).bind fun N5 =>
   some N5
  else
   some false
 else
  (M0 b HS.1).bind fun N6 =>
  if (decide (N6.2=(0:Int)))=true then
   if (decide (N6.1=qp.1))=true then
    (IU).bind fun ag9 =>
    some ag9
   else
    some false
  else
   some false
def Ji (b:p8):Option Bool :=
 (LW b).bind fun aS =>
 if aS=true then
  (IU).bind fun bk =>
  some bk
 else
  (aag b).bind fun eE =>
  (akB b).bind fun qp =>
  (aah b).bind fun rj =>
  (akC b).bind fun G9 =>
  (akD b).bind fun HE =>
  (akE b).bind fun JP =>
  (akF b).bind fun HS =>
  (aal b).bind fun HX =>
  if (decide (eE.1≠qp.1))=true then
   some false
  else
   if (decide (eE.2≠qp.2))=true then
    some false
   else
    (aam rj.1 G9.1).bind fun LO =>
    if LO=true then
     if (decide (rj.2≠G9.2))=true then
      some false
     else
      if (decide (HE.1≠JP.1))=true then
       some false
      else
       if (decide (HE.2≠JP.2))=true then
        some false
       else
        if (decide (HS.2≠qp.2))=true then
         some false
        else
         (aao b).bind fun N2 =>
         if (decide (HX.2≠N2))=true then
          some false
         else
          (MZ HS.1).bind fun N3 =>
          if N3=true then
           some false
          else
           if (decide ((14:Int)<(HX.1.length:Int)))=true then
            some false
           else
            if (decide (HX.2≠(0:Int)))=true then
             if (decide ((0:Int)<(HX.1.length:Int)))=true then
              some false
             else
              if (decide (HX.2=(0:Int)))=true then
               (UA b HX.1).bind fun N4 =>
               if (decide (N4≠(0:Int)))=true then
                some false
               else
                Qy b qp HS
              else
               Qy b qp HS
            else
             if (decide (HX.2=(0:Int)))=true then
              (UA b HX.1).bind fun ag_ =>
              if (decide (ag_≠(0:Int)))=true then
               some false
              else
               Qy b qp HS
             else
              Qy b qp HS
    else
     some false
end Go.Proofs.YtfakoboiahbhaaaGreat.Ab


namespace Go.Proofs.YtfakoboiahbhaaaGreat.Ab
open Go
section
variable {b:p3}
theorem RowsOf.each {S:List Int} {R:List Row} (h:RowsOf b S R) (aN:S.Nodup) {r:Row} (aj:r∈R):(r.map (·.1)).Nodup∧r.length≤S.length:=by
 have yY:(r.map (·.1)).Sublist ((R.flatten).map (·.1)):=by
  refine List.Sublist.map _ ?_;obtain ⟨s,t,rfl⟩:=List.append_of_mem aj;simp
 have ad:=yY.length_le;rw [sZ,h.all.length_eq] at ad;exact ⟨yY.nodup (h.all.nodup_iff.2 aN),ad⟩
theorem U6.short (p1:qH b) {R:List Row} (h:U6 b R):R.length≤10∧∀ r∈R,r.length≤10:=by
 have dz:=p1.len;refine ⟨?_,fun r aj=>?_⟩
 ·have ad:R.length≤R.flatten.length:=by
   have bO:=h.ne
   have:∀ l:List Row,(∀ r∈l,r≠[])→l.length≤l.flatten.length:=fun l=>by
    induction l with
    | nil=>intro _;simp
    | cons r l a' =>
      intro ak;have ad:=List.length_pos_iff.2 (ak r (by simp));have af:=a' fun q a4=>ak q (by simp [a4]);rw [tR,sj,sD];omega
   exact this R bO
  have af:=h.all.length_eq;rw [sZ,Hw] at af;omega
 ·have:=(h.toRowsOf.each (MS _) aj).2;rw [Hw] at this;omega
end
end Go.Proofs.YtfakoboiahbhaaaGreat.Ab


namespace Go.Proofs.YtfakoboiahbhaaaGreat.Ab
open Go
set_option maxRecDepth 20000
set_option maxHeartbeats 4000000

end Go.Proofs.YtfakoboiahbhaaaGreat.Ab


namespace Go.Proofs.YtfakoboiahbhaaaGreat.Ab
open Go
set_option maxRecDepth 20000
set_option maxHeartbeats 4000000
end Go.Proofs.YtfakoboiahbhaaaGreat.Ab


namespace Go.Proofs.YtfakoboiahbhaaaGreat.Ab
open Go
structure als (b:p3) (D:List Int) (n:Nat) (f t:Int) (r:Row):Prop where
 len:r.length=n
 run:qE b f r=some t
 ok:∀ p∈r,G' b p=false∧ix D (qz b p)≤(n:Int)∧1≤ix D (qz b p)∧ix D (fin b p)=ix D (qz b p)-1
 down:r.Pairwise fun p q=>ix D (qz b q)<ix D (qz b p)
 first:∀ p l,r=p::l→qz b p=f
theorem aec {b:p3} {wo f t:Int} {D:List Int} (h:Mt b wo t D) (aQ:0≤f∧f<6):0≤ix D f↔GM b wo f t:=by
 refine ⟨fun ad=>?_,fun ⟨n,aN⟩=>(h.least n f aN.symm).2.2.1⟩;have:=h.walk f.toNat (by omega) (by rw [tK aQ.1];exact ad);rw [tK aQ.1] at this;exact ⟨_,this.symm⟩
theorem Uz:IU=some true:=rfl
end Go.Proofs.YtfakoboiahbhaaaGreat.Ab


namespace Go.Proofs.YtfakoboiahbhaaaGreat.Ab
open Go
set_option maxRecDepth 20000
set_option maxHeartbeats 4000000
noncomputable def abb:ez :=
 GC [gO 1 [.hJ 0] .box, gO 2 [.iD (.ay [] 0 .full)] (.nil 1), Gn 3 0] (GC [gO 9 [.hM 1] (.w8 (.str 2)), gO 10 [.iD (.func 64 [] []), .sl 9] (.call 3), Gq 8 10, GK 11 8 0, gO 12 [.hM 8] (.ext 1), Gq 4 11, Gq 5 12] (.seq (GC [Gp 13 5, F1 14 13 0 .neq] (.cond (.sl 14) (GC [Gq 15 5, gO 2 [.iD (.ay [] 0 .full)] (.nil 1), Gq 3 15] .ret) .skip)) (GC [Gp 16 4, Gq 17 4, gO 18 [.iD (.func 77 [] []), .sl 17] (.call 3), gO 19 [.iD (.func 76 [] []), .sl 16, .sl 18] (.call 3), Gq 6 19] (GC [Gp 20 6, Gl 21 20, gO 22 [.sl 21, .hM 21] (.zz [.int .i64 0] 1 8), Gq 7 22] (GC [Gp 23 7, Gq 24 6, gO 25 [.hJ 23, .hJ 24] (.other (Oper.mk (some 25) (Op.call (Call.mk (Callee.builtin Builtin.copy) (Array.mk [Operand.tmp 23, Operand.tmp 24]) (Array.mk [38, 38]))) 3 "match.go:115" (Array.mk [Edge.mk 0 Ground.data, Edge.mk 1 Ground.data]) none) 0)] (GC [Gq 26 7, Gq 2 26, Gn 3 0] .ret))))))
theorem afQ:zg Tryz.prog VA 27=some (abb,27,[.tmp 2,.tmp 3]):=by kernel_rfl
def Ow (b:p8):Option (p0×Int) :=
 (Ih b).bind fun aS =>
 match aS with
 | (none,q1) =>
   if (decide (q1≠(0:Int)))=true then
    some ([],q1)
   else
    none
 | (some bT,q1) =>
   if (decide (q1≠(0:Int)))=true then
    some ([],q1)
   else
    (M7 bT).bind fun bk =>
    (Md bT bk).bind fun eE =>
    p2 (0≤(eE.length:Int)∧(eE.length:Int)≤(eE.length:Int)∧(eE.length:Int).toNat*8≤140737488355328) <|
    p2 ((eE.length:Int).toNat=(List.replicate (eE.length:Int).toNat (0:Int)).length∧eE.length=(eE.length:Int).toNat) <|
    p2 ((eE.length:Int).toNat=eE.length) <|
    some (eE,(0:Int))
theorem akj {b:p8} {v:(p0×Int)} (h:Ow b=some v):qt 27 [(.agg [(hS b.1),(.ay (b.2.flatMap p7) b.2.length .shared)])] (.tuple [(.ay (v.1.map hS) v.1.length .shared),(hS v.2)]):=by
 refine qN dI afQ rfl (I8 (p5 (rz (fun _=>rfl) _ _ _) (p5 rfl rfl))) fun Q bn=>?_;have jz:qD [.tmp 2,.tmp 3] Q (fun v=>(.tuple [(qj v.1 .shared),(hS v.2)])) v:=fun T H bK=>bn _ T H bK;unfold Ow at h;unfold abb;conv=>whnf
 obtain ⟨aS,eV,h⟩:=qi h;rcases aS with ⟨_ | bT,q1⟩
 ·refine ⟨qh.pl,_,Lk eV,?_⟩;conv=>whnf
  refine bs h (fun fl h=>?_) fun fl h=>?_
  ·rw [fl];(conv=>whnf);exact qd h jz rfl rfl
  ·rw [fl];(conv=>whnf);exact q4 h
 ·refine ⟨qh.pl,_,Lk eV,?_⟩;conv=>whnf
  refine bs h (fun qo h=>?_) fun qo h=>?_
  ·rw [qo];(conv=>whnf);exact qd h jz rfl rfl
  ·rw [qo];(conv=>whnf);obtain ⟨bk,qC,h⟩:=qi h;refine ⟨qh.pl,_,aaJ qC,?_⟩;(conv=>whnf);obtain ⟨eE,qG,h⟩:=qi h;refine ⟨qh.pl,_,akZ qG,?_⟩;(conv=>whnf);obtain ⟨qZ,h⟩:=qw h;refine ⟨qZ.1,qZ.2.1,qZ.2.2,?_⟩;rw [Ud hS (0:Int)];(conv=>whnf);obtain ⟨qT,h⟩:=qw h;refine ⟨_,_,fun C=>(agE rfl).trans (adY (e:=3) (f:=hS) (l:=(List.replicate (eE.length:Int).toNat (0:Int))) (m:=eE) (by kernel_rfl) (by kernel_rfl) (si _) (by first | exact qL.h | rfl | (simp [sg,I.settle];done)) qT.1 qT.2),?_⟩
   (conv=>whnf);obtain ⟨qO,h⟩:=qw h;obtain rfl:=Option.some.inj h;exact jz _ _ ⟨.inr rfl,_,rfl,_,(aeq (PH (WD (f:=hS) (l:=eE) (by first | exact qL.h | rfl | (simp [sg,I.settle];done)) qO (fun _=>rfl) (fun _=>rfl)) (PH (oV rfl) Su))),by simp only [I.settle,I.view,I.cu,sE,uh,ad8];exact congrArg (fun n=>I.tuple [I.ay _ n .shared,_]) qO⟩

noncomputable def abd:ez :=
 GC [gO 1 [.hJ 0] .box,gO 2 [.iD (.ay [] 0 .full)] (.nil 1),Gn 3 0] (.seq (GC [gO 4 [.sl 1] (.w8 (.str 2)),gO 5 [.iD (.func 21 [] []),.sl 4] (.call 3),F1 6 5 0 .neq] (.cond (.sl 6) (GC [gO 7 [.hM 1] (.w8 (.str 2)),gO 8 [.iD (.func 21 [] []),.sl 7] (.call 3),gO 2 [.iD (.ay [] 0 .full)] (.nil 1),Gq 3 8] .ret) .skip)) (GC [gO 9 [.hM 1] (.w8 (.str 2)),gO 10 [.iD (.func 78 [] []),.sl 9] (.call 3),Gq 2 10,Gn 3 0] .ret))
theorem afR:zg Tryz.prog VB 28=some (abd,11,[.tmp 2,.tmp 3]):=by kernel_rfl
def Ox (b:p8):Option (p0×Int) :=
 (Hi b).bind fun aS =>
 if (decide (aS≠(0:Int)))=true then
  (Hi b).bind fun bk =>
  some ([],bk)
 else
  (Ll b).bind fun eE =>
  some (eE,(0:Int))
theorem akl {b:p8} {v:(p0×Int)} (h:Ox b=some v):qt 28 [(.agg [(hS b.1),(.ay (b.2.flatMap p7) b.2.length .shared)])] (.tuple [(.ay (v.1.map hS) v.1.length .shared),(hS v.2)]):=by
 refine qN dI afR rfl (I8 (p5 (rz (fun _=>rfl) _ _ _) (p5 rfl rfl))) fun Q bn=>?_;have jz:qD [.tmp 2,.tmp 3] Q (fun v=>(.tuple [(qj v.1 .shared),(hS v.2)])) v:=fun T H bK=>bn _ T H bK;unfold Ox at h;unfold abd;conv=>whnf
 obtain ⟨aS,eV,h⟩:=qi h;refine ⟨qh.pl,_,JS eV,?_⟩;conv=>whnf
 refine bs h (fun fl h=>?_) fun fl h=>?_
 ·rw [fl];conv=>whnf
  obtain ⟨bk,qo,h⟩:=qi h;refine ⟨qh.pl,_,JS qo,?_⟩;conv=>whnf
  exact qd h jz rfl rfl
 ·rw [fl];conv=>whnf
  obtain ⟨eE,qC,h⟩:=qi h;refine ⟨qh.pl,_,ak3 qC,?_⟩;conv=>whnf
  exact qd h jz rfl rfl

noncomputable def OP:ez :=
 .cond (.sl 16) (GC [Gq 17 5,gO 2 [.iD (.ay [] 0 .full)] (.nil 1),Gq 3 17] .ret) .skip
noncomputable def UX:ez :=
 .cond (.sl 35) (Gt [Gq 36 6,Gq 37 7,gO 38 [.hM 37] (.ya 1 1 [.int .i64 0] [0]),gO 39 [.hJ 36,.hJ 38] (.app 1 8),Gq 6 39]) .skip
noncomputable def QR:ez :=
 GC [F7 31 8 0,Gm 32 31,gO 33 [.hM 9,.hM 32] (.y4 6 1),Gm 34 33,F1 35 34 0 .lss] UX
noncomputable def ON:ez :=
 GC [Gp 26 4,gO 27 [.sl 8] (.oT 1),Gm 28 27,Gp 29 7,gO 30 [.iD (.func 81 [] []),.sl 26,.sl 28,.sl 29] (.call 3),gO 9 [] (.alloc [.int .i64 0,.int .i64 0,.int .i64 0,.int .i64 0,.int .i64 0,.int .i64 0]),⟨none,[.sl 9,.hJ 30],none,none,.st 6⟩] QR
noncomputable def OM:ez :=
 .j3 false [F0 40 21 1,Gq 21 40]
noncomputable def OV:ez :=
 .seq (.block 1 (GC [Gp 23 21,gO 24 [.sl 19,.sl 21] (.pQ 2),gO 25 [.hM 24] (.w8 (.str 2)),gO 8 [] (.alloc [.int .i64 0,.int .i64 0]),Gq 7 23,⟨none,[.sl 8,.hJ 25],none,none,.st 2⟩] ON)) OM
noncomputable def OU:ez :=
 .seq (.cond (.sl 22) .skip (.exit 0)) OV
noncomputable def Mo:ez :=
 .loop (some (EA false [4,1,1,1,12,3,20])) (GC [gO 22 [.sl 21,.sl 20] (.bin .lss)] OU)
noncomputable def OT:ez :=
 .block 0 Mo
noncomputable def OS:ez :=
 GC [Gq 41 6,Gq 2 41,Gn 3 0] .ret
noncomputable def OQ:ez :=
 .seq (GC [F7 18 1 1,Gm 19 18,gO 20 [.sl 19] .w_,Gn 21 0] OT) OS
noncomputable def OO:ez :=
 GC [gO 6 [.iD (.ay [] 0 .full)] (.nil 1)] OQ
noncomputable def QS:ez :=
 .seq (GC [Gp 15 5,F1 16 15 0 .neq] OP) OO
noncomputable def UW:ez :=
 GC [gO 11 [.sl 1] (.w8 (.str 2)),gO 12 [.iD (.func 64 [] []),.sl 11] (.call 3),Gq 10 12,GK 13 10 0,gO 14 [.hM 10] (.ext 1),Gq 4 13,Gq 5 14] QS
noncomputable def abg:ez :=
 GC [gO 1 [.hJ 0] .box,gO 2 [.iD (.ay [] 0 .full)] (.nil 1),Gn 3 0] UW
theorem afU:zg Tryz.prog O1 31=some (abg,42,[.tmp 2,.tmp 3]):=by kernel_rfl
def Qx (b:p8) (p4:Unit→Option (p0×Int)):Nat→Option (p0×Int)
 | 0=>none
 | m+1 =>
   if (decide ((0:Int)<(b.2.length:Int)))=true then
    p2 (0≤(0:Int)∧(0:Int)<(b.2.length:Int)) <|
    none
   else
    p4 ()
def Lg (b bT:p8) (qn:p0→Option (p0×Int)):Nat→p0→Int→Option (p0×Int)
 | 0,_,_=>none
 | m+1,s1,s2 =>
   if (decide (s2<(b.2.length:Int)))=true then
    p2 (0≤s2∧s2<(b.2.length:Int)) <|
    (M8 bT ((ix b.2 s2).2) s2).bind fun bk =>
    p2 (bk.length=6∧(List.replicate 6 (0:Int)).length=6) <|
    p2 (0≤(ix b.2 s2).1∧(ix b.2 s2).1<(6:Int)∧6=bk.length) <|
    if (decide ((ix bk ((ix b.2 s2).1))<(0:Int)))=true then
     p2 ((s1.length+1)*8≤140737488355328) <|
     Lg b bT qn m (s1++[s2]) (w (s2+(1:Int)))
    else
     Lg b bT qn m s1 (w (s2+(1:Int)))
   else
    qn s1
def OA (b:p8):Option (p0×Int) :=
 (Ih b).bind fun aS =>
 match aS with
 | (none,q1) =>
   if (decide (q1≠(0:Int)))=true then
    some ([],q1)
   else
    Qx b (fun _ =>
      some ([],(0:Int))) p6
 | (some bT,q1) =>
   if (decide (q1≠(0:Int)))=true then
    some ([],q1)
   else
    Lg b bT (fun x0 =>
      some (x0,(0:Int))) p6 ([]:List Int) (0:Int)
theorem akr {b:p8} {p4:Unit→Option (p0×Int)} {v:(p0×Int)} {Q:rm} {bC:au}  (qY:∀ (p9:List I),p4 ()=some v→qV 42 [(6,(.ay [] 0 (.uniq 1)))] p9→Q (.exit 0) p9 [bC]) {T:List I} (bZ:eS (EA false [4,1,1,1,12,3,20]) T=GH 42 [(4,.eC),(6,(.ay [] 0 (.uniq 1))),(19,(qf b.2 .shared)),(20,(hS (b.2.length:Int))),(21,(hS (0:Int)))]) (h:Qx b p4 p6  = some v) :
  dC Tryz.prog O1 31 0 none Mo T [bC] Q:=by
 unfold Mo;obtain ⟨adA,Ny⟩:∃ c,OU=c:=⟨_,rfl⟩;rw [Ny];refine wp_loop bZ ?_;refine .intro (fun m T H=>T=GH 42 [(4,.eC),(6,(.ay [] 0 (.uniq 1))),(19,(qf b.2 .shared)),(20,(hS (b.2.length:Int))),(21,(hS (0:Int)))]∧H=[bC]∧Qx b p4 m  = some v) p6 ⟨rfl,rfl,h⟩ ?_;clear h bZ;rintro m T H ⟨rfl,rfl,h⟩;cases m
 ·exact q4 h
 rename_i m;rw [Qx.eq_2] at h;conv=>whnf
 subst Ny;unfold OU;obtain ⟨adB,Nz⟩:∃ c,OV=c:=⟨_,rfl⟩;rw [Nz];conv=>whnf
 refine bs h (fun qo h=>?_) fun qo h=>?_
 ·rw [qo];conv=>whnf
  subst Nz;unfold OV;obtain ⟨ads,Nr⟩:∃ c,OM=c:=⟨_,rfl⟩;rw [Nr];obtain ⟨adt,Ns⟩:∃ c,ON=c:=⟨_,rfl⟩;rw [Ns];conv=>whnf
  refine qy h id fun qC h=>?_;rw [qR p7 2 qK b.2 (0:Int) qC];conv=>whnf
  subst Ns;unfold ON;obtain ⟨adu,Pd⟩:∃ c,QR=c:=⟨_,rfl⟩;rw [Pd];conv=>whnf
  exact q4 h
 ·rw [qo];conv=>whnf
  exact qY  _ h ⟨rfl,rfl⟩
theorem aks {b:p8} {bT:p8} {qn:p0→Option (p0×Int)} {s1:p0} {s2:Int} {v:(p0×Int)} {Q:rm} {bC:au}  (HT:∀ (x0:p0) (Hs:List au) (p9:List I),qn x0=some v→qV 42 [(6,(qj x0 (.uniq 1)))] p9→Q (.exit 0) p9 (bC::Hs)) {T:List I} (bZ:eS (EA false [4,1,1,1,12,3,20]) T=GH 42 [(4,(.bW [(hS bT.1),(qf bT.2 .shared)])),(6,(qj s1 (.uniq 1))),(19,(qf b.2 .shared)),(20,(hS (b.2.length:Int))),(21,(hS s2))]) (h:Lg b bT qn p6 s1 s2=some v) :
  dC Tryz.prog O1 31 0 none Mo T [bC] Q:=by
 unfold Mo;obtain ⟨adA,Ny⟩:∃ c,OU=c:=⟨_,rfl⟩;rw [Ny];refine wp_loop bZ ?_;refine .intro (fun m T H=>∃ (s1:p0) (s2:Int) (U_:List au),T=GH 42 [(4,(.bW [(hS bT.1),(qf bT.2 .shared)])),(6,(qj s1 (.uniq 1))),(19,(qf b.2 .shared)),(20,(hS (b.2.length:Int))),(21,(hS s2))]∧H=(bC::U_)∧Lg b bT qn m s1 s2=some v) p6 ⟨s1,s2,[],rfl,rfl,h⟩ ?_;clear h bZ;rintro m T H ⟨s1,s2,U_,rfl,rfl,h⟩;cases m
 ·exact q4 h
 rename_i m;rw [Lg.eq_2] at h;conv=>whnf
 subst Ny;unfold OU;obtain ⟨adB,Nz⟩:∃ c,OV=c:=⟨_,rfl⟩;rw [Nz];conv=>whnf
 refine bs h (fun qZ h=>?_) fun qZ h=>?_
 ·rw [qZ];conv=>whnf
  subst Nz;unfold OV;obtain ⟨ads,Nr⟩:∃ c,OM=c:=⟨_,rfl⟩;rw [Nr];obtain ⟨adt,Ns⟩:∃ c,ON=c:=⟨_,rfl⟩;rw [Ns];conv=>whnf
  refine qy h id fun qT h=>?_;rw [qR p7 2 qK b.2 s2 qT];conv=>whnf
  refine DX (x:=au.cells [(hS (0:Int)),(hS (0:Int))]) (by first | exact qL.h | rfl | (simp [sg,I.settle];done)) ?_
  conv=>whnf
  rw [Ig];subst Ns;unfold ON;obtain ⟨adu,Pd⟩:∃ c,QR=c:=⟨_,rfl⟩;rw [Pd];conv=>whnf
  refine DX (x:=au.cells [(hS (ix b.2 s2).1),(hS (ix b.2 s2).2)]) (by first | exact qL.h | rfl | (simp [sg,I.settle];done)) ?_
  conv=>whnf
  obtain ⟨bk,qO,h⟩:=qi h;refine ⟨qh.pl,_,alb qO,?_⟩;conv=>whnf
  obtain ⟨q5,h⟩:=qw h;refine DX (x:=au.cells ((List.replicate 6 (0:Int)).map hS)) (by first | exact qL.h | rfl | (simp [sg,I.settle];done)) ?_
  conv=>whnf
  try rw [show List.map I.gU (List.map hS bk)=List.map hS bk from by rw [tq];rfl]
  first | (refine YU hS bk (n:=6) (l:=(List.replicate 6 (0:Int))) (si _) (fun _=>rfl) (by first | exact qL.h | rfl | (simp [sg,I.settle];done)) q5.1 q5.2 (by decide) ?_) | (rw [show Nat.beq (List.map hS bk).length 6=true from by rw [sZ,q5.1] <;> exact Nat.beq_refl _];refine Ur hS (List.replicate 6 (0:Int)) bk (fun _=>rfl) (by rw [q5.1,q5.2]) ?_)
  conv=>whnf
  rw [Ig];conv=>whnf
  subst Pd;unfold QR;obtain ⟨alF,WE⟩:∃ c,UX=c:=⟨_,rfl⟩;rw [WE];conv=>whnf
  refine DX (x:=au.cells [(hS (ix b.2 s2).1),(hS (ix b.2 s2).2)]) (by first | exact qL.h | rfl | (simp [sg,I.settle];done)) ?_
  conv=>whnf
  obtain ⟨q2,h⟩:=qw h;refine ⟨⟨q2.1,q2.2.1⟩,?_⟩;replace q2:0≤(ix b.2 s2).1∧(ix b.2 s2).1<(bk.length:Int):=⟨q2.1,by have:=q2.2;omega⟩;conv=>whnf
  refine DX (x:=au.cells (bk.map hS)) (by first | exact qL.h | rfl | (simp [sg,I.settle];done)) ?_
  conv=>whnf
  refine Js hS bk ((ix b.2 s2).1) q2 ?_;conv=>whnf
  subst WE;unfold UX;conv=>whnf
  refine bs h (fun rM h=>?_) fun rM h=>?_
  ·rw [rM];(conv=>whnf);obtain ⟨ry,h⟩:=qw h;refine ⟨by first | rfl | simp,by have:=ry;omega,rfl,ry,?_⟩
   erw [JB hS s1 s2];(conv=>whnf);subst Nr;unfold OM;(conv=>whnf);exact ⟨m,su m,(s1++[s2]),(w (s2+(1:Int))),_,rfl,rfl,h⟩
  ·rw [rM];(conv=>whnf);subst Nr;unfold OM;(conv=>whnf);exact ⟨m,su m,s1,(w (s2+(1:Int))),_,rfl,rfl,h⟩
 ·rw [qZ];conv=>whnf
  exact HT _ _ _ h ⟨rfl,rfl⟩
theorem akt {b:p8} {v:(p0×Int)} (h:OA b=some v):qt 31 [(.agg [(hS b.1),(.ay (b.2.flatMap p7) b.2.length .shared)])] (.tuple [(.ay (v.1.map hS) v.1.length .shared),(hS v.2)]):=by
 refine qN dI afU rfl (I8 (p5 (rz (fun _=>rfl) _ _ _) (p5 rfl rfl))) fun Q bn=>?_;have jz:qD [.tmp 2,.tmp 3] Q (fun v=>(.tuple [(qj v.1 .shared),(hS v.2)])) v:=fun T H bK=>bn _ T H bK;unfold OA at h;unfold abg;obtain ⟨Hy,qB⟩:∃ c,UW=c:=⟨_,rfl⟩;rw [qB];conv=>whnf
 subst qB;unfold UW;obtain ⟨Ko,rT⟩:∃ c,QS=c:=⟨_,rfl⟩;rw [rT];conv=>whnf
 obtain ⟨aS,eV,h⟩:=qi h;rcases aS with ⟨_ | bT,q1⟩
 ·refine ⟨qh.pl,_,Lk eV,?_⟩;conv=>whnf
  subst rT;unfold QS;obtain ⟨O8,Iq⟩:∃ c,OO=c:=⟨_,rfl⟩;rw [Iq];obtain ⟨adw,Nu⟩:∃ c,OP=c:=⟨_,rfl⟩;rw [Nu];conv=>whnf
  subst Nu;unfold OP;conv=>whnf
  refine bs h (fun fl h=>?_) fun fl h=>?_
  ·rw [fl];(conv=>whnf);exact qd h jz rfl rfl
  ·rw [fl];(conv=>whnf);subst Iq;unfold OO;obtain ⟨adx,Nv⟩:∃ c,OQ=c:=⟨_,rfl⟩;rw [Nv];(conv=>whnf);subst Nv;unfold OQ;obtain ⟨ady,Nw⟩:∃ c,OS=c:=⟨_,rfl⟩;rw [Nw];obtain ⟨adz,Nx⟩:∃ c,OT=c:=⟨_,rfl⟩;rw [Nx];(conv=>whnf);subst Nx;unfold OT;obtain ⟨adv,Nt⟩:∃ c,Mo=c:=⟨_,rfl⟩;rw [Nt];(conv=>whnf);subst Nt;refine akr ?_ (by exact rfl) h;intro  p9 h qs;obtain ⟨ru,rfl⟩:=qs.ex;(conv=>whnf);subst Nw;unfold OS;(conv=>whnf);exact qd h jz rfl rfl
 ·refine ⟨qh.pl,_,Lk eV,?_⟩;conv=>whnf
  subst rT;unfold QS;obtain ⟨O8,Iq⟩:∃ c,OO=c:=⟨_,rfl⟩;rw [Iq];obtain ⟨adw,Nu⟩:∃ c,OP=c:=⟨_,rfl⟩;rw [Nu];conv=>whnf
  subst Nu;unfold OP;conv=>whnf
  refine bs h (fun qG h=>?_) fun qG h=>?_
  ·rw [qG];(conv=>whnf);exact qd h jz rfl rfl
  ·rw [qG];(conv=>whnf);subst Iq;unfold OO;obtain ⟨adx,Nv⟩:∃ c,OQ=c:=⟨_,rfl⟩;rw [Nv];(conv=>whnf);subst Nv;unfold OQ;obtain ⟨ady,Nw⟩:∃ c,OS=c:=⟨_,rfl⟩;rw [Nw];obtain ⟨adz,Nx⟩:∃ c,OT=c:=⟨_,rfl⟩;rw [Nx];(conv=>whnf);subst Nx;unfold OT;obtain ⟨adv,Nt⟩:∃ c,Mo=c:=⟨_,rfl⟩;rw [Nt];(conv=>whnf);subst Nt;refine aks ?_ (by exact rfl) h;intro x0 Hs p9 h qs;obtain ⟨ru,rfl⟩:=qs.ex;(conv=>whnf);subst Nw;unfold OS;(conv=>whnf);exact qd h jz rfl rfl

noncomputable def abF:ez :=
 GC [gO 2 [.hJ 0] .box,gO 4 [.iD (.bool false)] .iT] (GC [gO 6 [.sl 2] (.w8 (.str 2)),Gp 7 1,gO 8 [.iD (.func 56 [] []),.sl 6,.sl 7] (.call 3),Gq 5 8] (.seq (Gu [Gp 9 5,gO 10 [.sl 2] (.oT 1),Gm 11 10,Gp 12 1,Gi 13 11 12 2,F7 14 13 0,Gm 15 14,Gi 16 9 15 1,Gm 17 16,Gp 18 5,gO 19 [.sl 2] (.oT 1),Gm 20 19,Gp 21 1,Gi 22 20 21 2,F7 23 22 1,Gm 24 23,Gi 25 18 24 1,Gm 26 25,F2 27 17 26 .neq,Gq 4 27]) .ret))
theorem agi:zg Tryz.prog VQ 82=some (abF,28,[.tmp 4]):=by kernel_rfl
def Mk (b:p8) (qW:Int):Option Bool :=
 (M3 b qW).bind fun aS =>
 p2 (0≤qW∧qW<(b.2.length:Int)) <|
 p2 (0≤(ix b.2 qW).1∧(ix b.2 qW).1<(aS.length:Int)) <|
 p2 (0≤qW∧qW<(b.2.length:Int)) <|
 p2 (0≤(ix b.2 qW).2∧(ix b.2 qW).2<(aS.length:Int)) <|
 some (decide ((ix aS ((ix b.2 qW).1))≠(ix aS ((ix b.2 qW).2))))
theorem ale {b:p8} {qW:Int} {v:Bool} (h:Mk b qW=some v):qt 82 [(.agg [(hS b.1),(.ay (b.2.flatMap p7) b.2.length .shared)]),(hS qW)] (B v):=by
 refine qN dI agi rfl rfl fun Q bn=>?_;have jz:qD [.tmp 4] Q (fun v=>(B v)) v:=fun T H bK=>bn _ T H bK;unfold Mk at h;unfold abF;conv=>whnf
 obtain ⟨aS,eV,h⟩:=qi h;refine ⟨qh.pl,_,aaw eV,?_⟩;conv=>whnf
 refine qy h id fun fl h=>?_;rw [qR p7 2 qK b.2 qW fl];conv=>whnf
 refine qy h id fun qo h=>?_;rw [Ht hS aS ((ix b.2 qW).1) qo];conv=>whnf
 refine qy h id fun qC h=>?_;rw [qR p7 2 qK b.2 qW qC];conv=>whnf
 refine qy h id fun qG h=>?_;rw [Ht hS aS ((ix b.2 qW).2) qG];conv=>whnf
 exact qd h jz rfl rfl

noncomputable def QT:ez :=
 .loop (some (EA false [1,1,2,2,20])) (.seq (GC [Gp 11 5,gO 12 [.sl 1] (.oT 1),Gm 13 12,Gl 14 13,F2 15 11 14 .lss] (.cond (.sl 15) .skip (.exit 0))) (.seq (.block 1 (GC [gO 18 [.sl 1] (.w8 (.str 2)),Gp 19 5,gO 20 [.iD (.func 82 [] []),.sl 18,.sl 19] (.call 3)] (.cond (.sl 20) (Gt [Gq 21 4,Gp 22 5,gO 23 [.hM 22] (.ya 1 1 [.int .i64 0] [0]),gO 24 [.hJ 21,.hJ 23] (.app 1 8),Gq 4 24]) .skip))) (Gt [Gq 16 5,F0 17 16 1,Gq 5 17])))
noncomputable def abh:ez :=
 GC [gO 1 [.hJ 0] .box,gO 2 [.iD (.ay [] 0 .full)] (.nil 1),Gn 3 0] (.seq (GC [gO 6 [.sl 1] (.w8 (.str 2)),gO 7 [.iD (.func 21 [] []),.sl 6] (.call 3),F1 8 7 0 .neq] (.cond (.sl 8) (GC [gO 9 [.hM 1] (.w8 (.str 2)),gO 10 [.iD (.func 21 [] []),.sl 9] (.call 3),gO 2 [.iD (.ay [] 0 .full)] (.nil 1),Gq 3 10] .ret) .skip)) (GC [gO 4 [.iD (.ay [] 0 .full)] (.nil 1)] (.seq (GC [Gn 5 0] (.block 0 QT)) (GC [Gq 25 4,Gq 2 25,Gn 3 0] .ret))))
theorem afV:zg Tryz.prog Rj 32=some (abh,26,[.tmp 2,.tmp 3]):=by kernel_rfl
def Lh (b:p8) (p4:p0→Option (p0×Int)):Nat→p0→Int→Option (p0×Int)
 | 0,_,_=>none
 | m+1,s1,s2 =>
   if (decide (s2<(b.2.length:Int)))=true then
    (Mk b s2).bind fun eE =>
    if eE=true then
     p2 ((s1.length+1)*8≤140737488355328) <|
     Lh b p4 m (s1++[s2]) (w (s2+(1:Int)))
    else
     Lh b p4 m s1 (w (s2+(1:Int)))
   else
    p4 s1
def OB (b:p8):Option (p0×Int) :=
 (Hi b).bind fun aS =>
 if (decide (aS≠(0:Int)))=true then
  (Hi b).bind fun bk =>
  some ([],bk)
 else
  Lh b (fun x0 =>
    some (x0,(0:Int))) p6 ([]:List Int) (0:Int)
theorem akv {b:p8} {p4:p0→Option (p0×Int)} {s1:p0} {s2:Int} {v:(p0×Int)} {Q:rm}   (qY:∀ (x0:p0) (bC:au) (p9:List I),p4 x0=some v→qV 26 [(4,(qj x0 (.uniq 1)))] p9→Q (.exit 0) p9 [bC]) {T:List I} (bZ:eS (EA false [1,1,2,2,20]) T=GH 26 [(1,(.ptr 0 0)),(4,(qj s1 (.uniq 1))),(5,(hS s2))]) (h:Lh b p4 p6 s1 s2=some v) :
  dC Tryz.prog Rj 32 0 none QT T [qg b] Q:=by
 unfold QT;refine wp_loop bZ ?_;refine .intro (fun m T H=>∃ (s1:p0) (s2:Int),T=GH 26 [(1,(.ptr 0 0)),(4,(qj s1 (.uniq 1))),(5,(hS s2))]∧H=[qg b]∧Lh b p4 m s1 s2=some v) p6 ⟨s1,s2,rfl,rfl,h⟩ ?_;clear h bZ;rintro m T H ⟨s1,s2,rfl,rfl,h⟩;cases m
 ·exact q4 h
 rename_i m;rw [Lh.eq_2] at h;conv=>whnf
 refine bs h (fun qC h=>?_) fun qC h=>?_
 ·rw [qC];conv=>whnf
  obtain ⟨eE,qG,h⟩:=qi h;refine ⟨qh.pl,_,ale qG,?_⟩;conv=>whnf
  cases eE
  ·(conv=>whnf);replace h:=Hu rfl h;exact ⟨m,su m,s1,(w (s2+(1:Int))),rfl,rfl,h⟩
  ·(conv=>whnf);replace h:=Hv rfl h;obtain ⟨qZ,h⟩:=qw h;refine ⟨by first | rfl | simp,by have:=qZ;omega,rfl,qZ,?_⟩
   erw [JB hS s1 s2];(conv=>whnf);exact ⟨m,su m,(s1++[s2]),(w (s2+(1:Int))),rfl,rfl,h⟩
 ·rw [qC];conv=>whnf
  exact qY _ _ _ h ⟨rfl,rfl⟩
theorem akw {b:p8} {v:(p0×Int)} (h:OB b=some v):qt 32 [(.agg [(hS b.1),(.ay (b.2.flatMap p7) b.2.length .shared)])] (.tuple [(.ay (v.1.map hS) v.1.length .shared),(hS v.2)]):=by
 refine qN dI afV rfl (I8 (p5 (rz (fun _=>rfl) _ _ _) (p5 rfl rfl))) fun Q bn=>?_;have jz:qD [.tmp 2,.tmp 3] Q (fun v=>(.tuple [(qj v.1 .shared),(hS v.2)])) v:=fun T H bK=>bn _ T H bK;unfold OB at h;unfold abh;obtain ⟨Hy,qB⟩:∃ c,QT=c:=⟨_,rfl⟩;rw [qB];conv=>whnf
 obtain ⟨aS,eV,h⟩:=qi h;refine ⟨qh.pl,_,JS eV,?_⟩;conv=>whnf
 refine bs h (fun fl h=>?_) fun fl h=>?_
 ·rw [fl];conv=>whnf
  obtain ⟨bk,qo,h⟩:=qi h;refine ⟨qh.pl,_,JS qo,?_⟩;conv=>whnf
  exact qd h jz rfl rfl
 ·rw [fl];conv=>whnf
  subst qB;refine akv ?_ (by exact rfl) h;intro x0 bC p9 h qs;obtain ⟨ru,rfl⟩:=qs.ex;conv=>whnf
  exact qd h jz rfl rfl
end Go.Proofs.YtfakoboiahbhaaaGreat.Ab


namespace Go.Proofs.YtfakoboiahbhaaaGreat.Ab
open Go
section
variable {b:p3}
theorem agz (S:List Int):(rk b S).length≤6:=by
 have:=tD (fun f=>decide (qI b S f % 2=1)) (upto 6);rw [Hw] at this;exact this
theorem Xz:(I7 b).length≤6:=agz _
def Ky (b:p3):List Int×Int:=if q3 b=0 then (I7 b,0) else ([],q3 b)
theorem Xy (p1:qH b):Ky b=(I7 b,0):=by unfold Ky;rw [if_pos (IG.2 p1)]
theorem Xx (h:q3 b≠0):Ky b=([],q3 b):=by unfold Ky;rw [if_neg h]
theorem agy:(Ky b).1.length≤6:=by
 unfold Ky;split
 ·exact Xz
 ·simp
theorem aki (ag:b.2.length≤1000):Ow b=some (Ky b):=by
 rw [Ow];by_cases h:q3 b=0
 ·have p1:=IG.1 h;have ak:=Xz (b:=b);rw [UH p1,rW,Xy p1];dsimp only;rw [if_neg (by simp),aaH ag,rW,aaF p1 On (by rw [Hw];exact ag),rW];show p2 _ (p2 _ (p2 _ (some (I7 b,(0:Int)))))=_;rw [qb ⟨by omega,by show ((I7 b).length:Int)≤_;exact uw _,by show ((I7 b).length:Int).toNat*8≤_;omega⟩,qb ⟨by simp,by show (I7 b).length=((I7 b).length:Int).toNat;omega⟩,qb (by show ((I7 b).length:Int).toNat=(I7 b).length;omega)]
 ·rw [UG ag h,rW,Xx h];dsimp only;rw [if_pos (by simpa using h)]
theorem akk (ag:b.2.length≤1000):Ox b=some (Ky b):=by
 rw [Ox,Ov b ag,rW];by_cases h:q3 b=0
 ·have p1:=IG.1 h;rw [if_neg (by simpa using h),ak1 p1,rW,Xy p1]
 ·rw [if_pos (by simpa using h),rW,Xx h]
def J7 (b:p3):List (List Int)×Int:=if q3 b=0 then (parts b,0) else ([],q3 b)
theorem XN (p1:qH b):J7 b=(parts b,0):=by unfold J7;rw [if_pos (IG.2 p1)]
theorem XM (h:q3 b≠0):J7 b=([],q3 b):=by unfold J7;rw [if_neg h]
theorem agO:(J7 b).1.length≤10∧∀ r∈(J7 b).1,r.length≤10:=by
 unfold J7;split
 ·rename_i h;have p1:=IG.1 h;exact ⟨agP p1,fun r aj=>(agQ p1 r aj).2⟩
 ·exact ⟨by simp,fun r aj=>absurd aj (by simp)⟩
theorem akm (ag:b.2.length≤1000):Oy b=some (J7 b):=by
 rw [Oy];by_cases h:q3 b=0
 ·have p1:=IG.1 h;rw [UH p1,rW,XN p1];dsimp only;rw [if_neg (by simp),aaH ag,rW,(QE p1).1,rW]
 ·rw [UG ag h,rW,XM h];dsimp only;rw [if_pos (by simpa using h)]
theorem ako (ag:b.2.length≤1000):Oz b=some (J7 b):=by
 rw [Oz,Ov b ag,rW];by_cases h:q3 b=0
 ·have p1:=IG.1 h;rw [if_neg (by simpa using h),ak5 p1,rW,XN p1]
 ·rw [if_pos (by simpa using h),rW,XM h]
def Is (b:p3) (i:Int):Bool:=(Mk b i).getD false
theorem Xc (p1:qH b) {i:Int} (hi:0≤i∧i<(b.2.length:Int)):Mk b i=some (Is b i)∧(Is b i=true↔¬ GM b i (ix b.2 i).1 (ix b.2 i).2):=by
 obtain ⟨N,B_,rb⟩:=aat p1 i;obtain ⟨n,rfl⟩:∃ n:Nat,i=n:=⟨i.toNat,by omega⟩;have ai:=Ka p1 (i:=n) (by omega);have ak:=rb.len;have e:Mk b (n:Int)=some (decide (ix N (ix b.2 (n:Int)).1≠ix N (ix b.2 (n:Int)).2)):=by
  rw [Mk,B_,rW,qb hi,qb ⟨ai.1,by omega⟩,qb hi,qb ⟨ai.2.2.1,by omega⟩]
 refine ⟨by unfold Is;rw [e];rfl,?_⟩;unfold Is;rw [e];show decide _=true↔_;rw [decide_eq_true_eq];exact not_congr (rb.iff ⟨ai.1,ai.2.1⟩ ⟨ai.2.2.1,ai.2.2.2⟩)
def NU (b:p3):List Int:=(upto b.2.length).filter (Is b)
theorem afl:(NU b).length≤b.2.length:=by
 have:=tD (Is b) (upto b.2.length)
 rwa [Hw] at this
def Kw (b:p3):List Int×Int:=if q3 b=0 then (NU b,0) else ([],q3 b)
theorem Xe (p1:qH b):Kw b=(NU b,0):=by unfold Kw;rw [if_pos (IG.2 p1)]
theorem Xd (h:q3 b≠0):Kw b=([],q3 b):=by unfold Kw;rw [if_neg h]
theorem afk (ag:b.2.length≤1000):(Kw b).1.length≤1000:=by
 unfold Kw;split
 ·exact sJ afl ag
 ·simp
theorem aad (p1:qH b) {k:List Int→Option (List Int×Int)}:∀ (m i:Nat) (z:Int),z=i→i≤b.2.length→b.2.length-i<m→Lh b k m ((upto i).filter (Is b)) z=k (NU b)
 | 0,_,_,_,_,h=>absurd h (by omega)
 | m+1,i,_,rfl,hi,hm=>by
   rw [Lh];have dz:=p1.len;by_cases h:(i:Int)<(b.2.length:Int)
   ·have ak:=tD (Is b) (upto i);rw [Hw] at ak;have a':=aad (k:=k) p1 m (i+1) _ rfl (by omega) (by omega);rw [MR] at a';rw [if_pos (decide_eq_true h),(Xc p1 ⟨by omega,h⟩).1,rW,re i (by omega)];cases aw:Is b (i:Int) with
    | true =>
      rw [aw,if_pos rfl] at a';rw [if_pos rfl,qb (by omega)];exact a'
    | false =>
      rw [aw,if_neg (by decide),sV] at a';rw [if_neg (by decide)];exact a'
   ·rw [if_neg (by simpa using h),show i=b.2.length by omega];rfl
theorem aku (ag:b.2.length≤1000):OB b=some (Kw b):=by
 rw [OB,Ov b ag,rW];by_cases h:q3 b=0
 ·have p1:=IG.1 h;rw [if_neg (by simpa using h),Xe p1];exact aad p1 p6 0 0 rfl (by omega) (rq (by omega))
 ·rw [if_pos (by simpa using h),rW,Xd h]
theorem aac (p1:qH b) {k:List Int→Option (List Int×Int)}:∀ (m i:Nat) (z:Int),z=i→i≤b.2.length→b.2.length-i<m→Lg b b k m ((upto i).filter (Is b)) z=k (NU b)
 | 0,_,_,_,_,h=>absurd h (by omega)
 | m+1,i,_,rfl,hi,hm=>by
   rw [Lg];have dz:=p1.len;have bX:=p1.f6;by_cases h:(i:Int)<(b.2.length:Int)
   ·have ak:=tD (Is b) (upto i);rw [Hw] at ak;have a':=aac (k:=k) p1 m (i+1) _ rfl (by omega) (by omega);rw [MR] at a';have ai:=Ka p1 (i:=i) (by omega);obtain ⟨D,al,rb⟩:=aaL p1 (wo:=(i:Int)) (to:=(ix b.2 (i:Int)).2) ⟨ai.2.2.1,ai.2.2.2⟩;have ao:=aec rb (f:=(ix b.2 (i:Int)).1) ⟨ai.1,by omega⟩;have aw:=(Xc p1 (i:=(i:Int)) ⟨by omega,h⟩).2;rw [if_pos (decide_eq_true h),qb ⟨by omega,h⟩,al,rW,qb ⟨rb.len,by simp⟩,qb ⟨ai.1,by omega,rb.len.symm⟩,re i (by omega)];by_cases aQ:ix D (ix b.2 (i:Int)).1<0
    ·(have aeV:Is b (i:Int)=true:=aw.2 fun Cj=>by have:=ao.2 Cj;omega);rw [aeV,if_pos rfl] at a';rw [if_pos (decide_eq_true aQ),qb (by omega)];exact a'
    ·have aeU:Is b (i:Int)=false:=by
      cases e:Is b (i:Int) with
      | false=>rfl
      | true=>exact absurd (ao.1 (by omega)) (aw.1 e)
     rw [aeU,if_neg (by decide),sV] at a';rw [if_neg (by simpa using aQ)];exact a'
   ·rw [if_neg (by simpa using h),show i=b.2.length by omega];rfl
theorem akq (ag:b.2.length≤1000):OA b=some (Kw b):=by
 rw [OA];by_cases h:q3 b=0
 ·have p1:=IG.1 h;rw [UH p1,rW,Xe p1];dsimp only;rw [if_neg (by simp)];exact aac p1 p6 0 0 rfl (by omega) (rq (by omega))
 ·rw [UG ag h,rW,Xd h];dsimp only;rw [if_pos (by simpa using h)]
end
end Go.Proofs.YtfakoboiahbhaaaGreat.Ab


namespace Go.Proofs.YtfakoboiahbhaaaGreat.Ab
open Go
set_option maxRecDepth 20000
set_option maxHeartbeats 4000000

end Go.Proofs.YtfakoboiahbhaaaGreat.Ab


namespace Go.Proofs.YtfakoboiahbhaaaGreat.Ab
open Go
section
variable {b:p3}
def SE (b:p3) (done own:Row) (p:Int×Int):Bool:=!(done.any fun q=>decide (q.1=p.1)) && (decide (own=[]) || decide (fin b (own.getD (own.length-1) default)=qz b p))
def Xv (b:p3) (done own:Row) (i:Int):Row:=[(i,0),(i,1)].filter (SE b done own)
def SC (b:p3) (done own:Row):Row:=(upto b.2.length).flatMap (Xv b done own)
theorem agt {done own:Row} {p:Int×Int}:p∈SC b done own↔IQ b p∧SE b done own p=true:=by
 unfold SC Xv;rw [List.mem_flatMap];constructor
 ·rintro ⟨i,hi,aC⟩;rw [sK] at aC;have:=Hl.1 hi;simp only [sf,List.not_mem_nil,or_false] at aC;rcases aC with ⟨rfl | rfl,h⟩
  ·exact ⟨⟨this.1,this.2,by simp,by simp⟩,h⟩
  ·exact ⟨⟨this.1,this.2,by simp,by simp⟩,h⟩
 ·rintro ⟨⟨ad,af,aG,a7⟩,h⟩;refine ⟨p.1,Hl.2 ⟨ad,af⟩,sK.2 ⟨?_,h⟩⟩;obtain ⟨x,y⟩:=p;have alK:0≤y:=aG;have alL:y≤1:=a7;rcases (show y=0∨y=1 by omega) with rfl | rfl <;> simp
structure Nb (b:p3) (D own:Row):Prop where
 ok:∀ p∈D++own,IQ b p
 Hr:((D++own).map (·.1)).Nodup
 go:own=[]∨∃ a,qE b a own=some (fin b (own.getD (own.length-1) default))
theorem Nb.len {D own:Row} (h:Nb b D own):D.length+own.length≤b.2.length:=by
 have:=LM h.Hr (n:=b.2.length) fun x al=>by
  obtain ⟨p,aC,rfl⟩:=sq.1 al;exact ⟨(h.ok p aC).1,(h.ok p aC).2.1⟩
 simpa using this
theorem Nb.next {D own:Row} (h:Nb b D own) {p:Int×Int} (aC:p∈SC b (D++own) own):Nb b D (own++[p]):=by
 obtain ⟨bQ,aN⟩:=agt.1 aC;unfold SE at aN;simp only [r_,Bool.or_eq_true,ta,decide_eq_true_eq] at aN;refine ⟨fun q a4=>?_,?_,.inr ?_⟩
 ·rw [←sy] at a4;rcases sQ.1 a4 with a4 | a4
  ·exact h.ok q a4
  ·rw [sI.1 a4];exact bQ
 ·rw [←sy,th,uj];refine ⟨h.Hr,by simp,fun x al y a1 e=>?_⟩;simp only [sE,uh,sI] at a1;subst a1;subst e;obtain ⟨q,a4,e⟩:=sq.1 al;have:=List.any_eq_false.1 aN.1 q a4;simp [e] at this
 ·have aeW:(own++[p]).getD ((own++[p]).length-1) default=p:=by simp
  rw [aeW];rcases aN.2 with aT | aT
  ·subst aT;exact ⟨qz b p,J_.2 ⟨rfl,rfl⟩⟩
  ·by_cases ad:own=[]
   ·subst ad;exact ⟨qz b p,J_.2 ⟨rfl,rfl⟩⟩
   ·rcases h.go with af | ⟨a,af⟩
    ·exact absurd af ad
    ·refine ⟨a,?_⟩;rw [Jt,af,rW];exact J_.2 ⟨aT.symm,rfl⟩
section
variable {V4:List Int} (yB:V4.length≤1000) (aeK:∀ x∈V4,0≤x∧x≤255)
include yB aeK
end
end
end Go.Proofs.YtfakoboiahbhaaaGreat.Ab


namespace Go.Proofs.YtfakoboiahbhaaaGreat.Ab
open Go
set_option maxRecDepth 20000
set_option maxHeartbeats 4000000
def qP (l:List Int):Nat→List Int
 | 0=>[]
 | k+1=>if 0<k∧l.getD k 0=l.getD (k-1) 0 then qP l k else qP l k++[l.getD k 0]
theorem Rz (l:List Int):∀ k,(qP l k).length≤k
 | 0=>rX _
 | k+1=>by
   have:=Rz l k;simp only [qP];split
   ·omega
   ·simp;omega
theorem adM (lo id off len:Nat) (H:List au) (l:List I) (bF:lo≤id) (ah:H[id]?=some (.cells l)) (h:off+len=l.length) :
  kU Go.Proofs.Tryz.prog lo #[38] H [.ref id off len none 1]=some (.tuple [],H.set id (.cells (l.take off++List.replicate len (hS 0)))):=by
 rw [adN lo id off len H l bF ah (by omega),tb (by omega),sV]
theorem Rt (l:List Int) (k x:Nat) (h:(qP l k).length≤x) (al:x<l.length):((qP l k++l.drop (qP l k).length).map hS)[x]?=some (hS (l.getD x 0)):=by
 rw [List.getElem?_map,sB h,sY,show (qP l k).length+(x-(qP l k).length)=x by omega,List.getElem?_eq_getElem al];simp [al]
theorem aif (l:List Int) (A:List Int) (v:Int) (h:A.length<l.length):((A++l.drop A.length).map hS).set A.length (hS v)=((A++[v])++l.drop (A++[v]).length).map hS:=by
 rw [th,List.set_append_right _ _ (by simp),sZ,tT,sU h,sE,List.set_cons_zero];simp
theorem Xi (l:List Int) (x:Nat) (al:x<l.length):(l.map hS)[x]?=some (hS (l.getD x 0)):=by simp [al]
section
variable {H:List au} {id lo:Nat}
theorem adX (bF:lo≤id) (l:List Int) (aT:0<l.length) (ak:l.length≤1000) (ah:H[id]?=some (.cells (l.map hS))) {Q:cD→List I→List au→Prop}
  (bn:∀ T Rd,c6 T 2=.ref id 0 (qP l l.length).length none 1→Rd=H.set id (.cells ((qP l l.length++List.replicate (l.length-(qP l l.length).length) 0).map hS))→Q .ret T Rd) :
  dC Go.Proofs.Tryz.prog Ro 74 lo none MN (GH 61 [(0,.ref id 0 l.length none 1),(2,.ay [] 0 (.uniq 1))]) H Q:=by
 have aE:=(rV.1 ah).1;have Cd:Nat.ble lo id=true:=sX bF;have gs:∀ c:au,(H.set id c)[id]?=some c:=fun c=>by rw [rY aE]
 have qa:∀ c e:au,((H.set id c).set id e)[id]?=some e:=fun c e=>by rw [rZ,gs]
 have same:H.set id (.cells (l.map hS))=H:=by
  obtain ⟨ad,af⟩:=rV.1 ah;rw [←af,tC]
 unfold MN;obtain ⟨m3,rA⟩:∃ c,Ob=c:=⟨_,rfl⟩;rw [rA];conv=>whnf
 have fin:∀ T,c6 T 2=.ref id 0 l.length none 1→qP l l.length=l→Q .ret T H:=fun T bZ e=>bn _ _ (by rw [bZ,e]) (by rw [e,tT,List.replicate_zero,sV,same]);by_cases af:((l.length:Nat):Int)<2
 ·rw [decide_eq_true af];conv=>whnf
  have:l.length=1:=by omega
  refine fin _ rfl ?_
  match l,this with
  | [x],_=>rfl
 rw [decide_eq_false af];conv=>whnf
 refine .intro (fun m T H'=>∃ k,1≤k∧k≤l.length∧m=l.length-k∧qP l k=l.take k∧T=GH 61 [(0,.ref id 0 l.length none 1),(3,hS (k:Nat))]∧H=H') (l.length-1) ⟨1,by omega,by omega,rfl,?_,rfl,rfl⟩ ?_
 ·match l,aT with
  | x::r,_=>rfl
 rintro m T H' ⟨k,CF,pr,rfl,he,rfl,rfl⟩;subst rA;unfold Ob Yv;obtain ⟨fR,rJ⟩:∃ c,TT=c:=⟨_,rfl⟩;rw [rJ];conv=>whnf
 by_cases av:(k:Int)<(l.length:Int)
 ·rw [decide_eq_true av];conv=>whnf
  refine ⟨by omega,?_⟩;conv=>whnf
  refine DX ah ?_;conv=>whnf
  refine DX (x:=hS (l.getD k 0)) (by rw [show 0+(k:Int).toNat*1=k by simp];exact Xi l k (by omega)) ?_;conv=>whnf
  rw [show IntKind.i64.wrap ((k:Int)-1)=((k-1:Nat):Int) by rw [qm _ (by omega) (by omega)];omega];refine ⟨by omega,?_⟩;conv=>whnf
  refine DX ah ?_;conv=>whnf
  refine DX (x:=hS (l.getD (k-1) 0)) (by rw [show 0+(((k-1:Nat)):Int).toNat*1=k-1 by simp];exact Xi l (k-1) (by omega)) ?_;conv=>whnf
  by_cases a0:l.getD k 0=l.getD (k-1) 0
  ·rw [decide_eq_true a0];(conv=>whnf);(have NQ:qP l (k+1)=l.take k:=by simp only [qP];rw [if_pos ⟨by omega,a0⟩,he]);subst rJ;unfold TT;obtain ⟨bt,dZ⟩:∃ c,TR=c:=⟨_,rfl⟩;obtain ⟨dX,B2⟩:∃ c,TS=c:=⟨_,rfl⟩;rw [dZ,B2];(conv=>whnf);refine ⟨rfl,by omega,fun _=>?_,fun h=>by omega⟩;(conv=>whnf);refine .intro (fun m T H'=>∃ q,1≤q∧k+q≤l.length∧m=l.length-q∧(qP l (k+q)).length+1≤k+q∧T=GH 61 [(0,.ref id 0 l.length none 1),(3,hS (qP l (k+q)).length),(4,.ref id (0+(k:Int).toNat*1) (l.length-(k:Int).toNat) none 1),(5,hS (q:Nat))]∧H'=H.set id (.cells ((qP l (k+q)++l.drop (qP l (k+q)).length).map hS))) (l.length-1) ⟨1,rX _,by omega,rfl,by rw [NQ];simp;omega,?_,?_⟩ ?_
   ·rw [NQ,s_,tL (by omega)];rfl
   ·rw [NQ,s_,tL (by omega),List.take_append_drop];exact same.symm
   rintro m T H' ⟨q,Jq,CX,rfl,hw,rfl,rfl⟩;subst dZ;unfold TR Yt;obtain ⟨ba,cd⟩:∃ c,TQ=c:=⟨_,rfl⟩;rw [cd];(conv=>whnf);by_cases a4:(q:Int)<((l.length-k:Nat):Int)
   ·rw [show decide ((q:Int)<((l.length-(k:Int).toNat:Nat):Int))=true from decide_eq_true a4];(conv=>whnf);refine ⟨by simp;omega,?_⟩;(conv=>whnf);refine DX (gs _) ?_;(conv=>whnf);refine DX (x:=hS (l.getD (k+q) 0)) (by rw [show 0+(k:Int).toNat*1+(q:Int).toNat*1=k+q by simp];exact Rt l (k+q) (k+q) (by omega) (by omega)) ?_;(conv=>whnf);rw [show IntKind.i64.wrap ((q:Int)-1)=((q-1:Nat):Int) by rw [qm _ (by omega) (by omega)];omega];refine ⟨by simp;omega,?_⟩;(conv=>whnf);refine DX (gs _) ?_;(conv=>whnf);refine DX (x:=hS (l.getD (k+q-1) 0)) (by rw [show 0+(k:Int).toNat*1+(((q-1:Nat)):Int).toNat*1=k+q-1 by simp;omega];exact Rt l (k+q) (k+q-1) (by omega) (by omega)) ?_;(conv=>whnf);by_cases al:l.getD (k+q) 0=l.getD (k+q-1) 0
    ·rw [decide_eq_false (not_not_intro al)];(conv=>whnf);(have e:qP l (k+(q+1))=qP l (k+q):=by rw [←tE];simp only [qP];rw [if_pos ⟨by omega,al⟩]);refine ⟨l.length-(q+1),by omega,q+1,by omega,by omega,rfl,by rw [e];omega,?_,by rw [e]⟩;rw [e,←qU q (by omega)];rfl
    ·rw [decide_eq_true al];(conv=>whnf);(have e:qP l (k+(q+1))=qP l (k+q)++[l.getD (k+q) 0]:=by rw [←tE];simp only [qP];rw [if_neg fun h=>al h.2]);subst cd;refine JQ fun mV I1=>?_;unfold TQ;(conv=>whnf);refine ⟨by simp;omega,?_⟩;(conv=>whnf);refine DX (gs _) ?_;(conv=>whnf);refine DX (x:=hS (l.getD (k+q) 0)) (by rw [show 0+(k:Int).toNat*1+(q:Int).toNat*1=k+q by simp];exact Rt l (k+q) (k+q) (by omega) (by omega)) ?_;(conv=>whnf);refine ⟨by omega,?_⟩;(conv=>whnf);rw [Cd];(conv=>whnf);refine DX (gs _) ?_;(conv=>whnf);refine A' (by simp;omega) ?_;(conv=>whnf);refine I1 _ _ _ ?_;(conv=>whnf);refine ⟨l.length-(q+1),by omega,q+1,by omega,by omega,rfl,by rw [e,sj,tF];omega,?_,?_⟩
     ·rw [e,sj,tF,←qU q (by omega),←qU (qP l (k+q)).length (by omega)];rfl
     ·rw [rZ,e,show 0+((qP l (k+q)).length:Int).toNat*1=(qP l (k+q)).length by simp,aif l (qP l (k+q)) _ (by omega)]
   ·rw [show decide ((q:Int)<((l.length-(k:Int).toNat:Nat):Int))=false from decide_eq_false a4];(conv=>whnf);(obtain rfl:q=l.length-k:=by omega);rw [show k+(l.length-k)=l.length by omega] at hw ⊢;subst B2;unfold TS Yu;(conv=>whnf);refine ⟨rfl,by omega,fun _=>?_,fun h=>by omega⟩;(conv=>whnf);refine ⟨_,_,fun C=>(adM lo id _ _ _ _ bF (gs _) (by simp)),?_⟩;(conv=>whnf);refine ⟨rfl,by omega,?_⟩;(conv=>whnf);refine bn _ _ rfl ?_;rw [rZ];have e:(List.take (0+((qP l l.length).length:Int).toNat*1) ((qP l l.length++l.drop (qP l l.length).length).map hS)++List.replicate (l.length-((qP l l.length).length:Int).toNat) (hS 0))=(qP l l.length++List.replicate (l.length-(qP l l.length).length) 0).map hS:=by
     simp
    rw [←e]
  ·rw [decide_eq_false a0];(conv=>whnf);refine ⟨l.length-(k+1),by omega,k+1,by omega,by omega,rfl,?_,by rw [←qU k (by omega)];rfl,rfl⟩;simp only [qP];rw [if_neg fun h=>a0 h.2,he,tW (by omega)];simp [show k<l.length by omega]
 ·rw [decide_eq_false av];conv=>whnf
  obtain rfl:k=l.length:=by omega
  exact fin _ rfl (by rw [he,tX])
theorem adW (l:List Int) (aT:0<l.length) (ak:l.length≤1000) (bF:lo≤H.length) :
  Sem Go.Proofs.Tryz.prog (.fn 74) [.ay (l.map hS) l.length (.uniq 1)] H lo (.ref H.length 0 (qP l l.length).length none 1) (H++[.cells ((qP l l.length++List.replicate (l.length-(qP l l.length).length) 0).map hS)]):=by
 refine rH dI Xp rfl ⟨by simp,fun j ad af=>by rw [se af]⟩ fun Q bn=>?_;unfold TP;obtain ⟨BI,H9⟩:∃ c,MN=c:=⟨_,rfl⟩;rw [H9];conv=>whnf
 subst H9;have h:=adX (H:=H++[.cells (l.map hS)]) (id:=H.length) bF l aT ak (by simp) (Q:=Q) fun T Rd bZ al=>bn _ _ _ ⟨.inr rfl,by rw [al,Ig];exact ⟨rfl,fun j o aw=>.inr aw⟩,by simp only [j2,bZ,sc,hc]⟩;unfold MN at h ⊢;obtain ⟨m3,rA⟩:∃ c,Ob=c:=⟨_,rfl⟩;rw [rA] at h ⊢;conv=>whnf
 refine .inl ⟨by omega,?_⟩;conv=>whnf
 conv at h=>whnf
 exact h
end

def U7 (n:Nat):Prop:=∀ (l:List Int),l.length≤n→∀ (H:List au) (id lo:Nat),lo≤id→H[id]?=some (.cells (l.map hS)) →
 ∃ N,Sem Tryz.prog (.fn 73) [.ref id 0 l.length none 1] H lo (.tuple []) (H.set id (.cells ((rK l).map hS))++List.replicate N .dead)
section
variable {H:List au} {lo:Nat}
theorem aff:Sem Go.Proofs.Tryz.prog (.fn 115) [.ay [] 0 (.own 1),hS 0,hS 0] H lo (.tuple []) H:=by
 refine rH dI Xl rfl (bb.refl _ _) fun Q bn=>?_;unfold S2;conv=>whnf
 refine .intro (fun m T H'=>T=GH 49 [(0,.ay [] 0 (.own 1)),(1,hS 0),(2,hS 0),(6,hS 1)]∧H=H') 0 ⟨rfl,rfl⟩ ?_;rintro m T H' ⟨rfl,rfl⟩;conv=>whnf
 exact bn _ _ _ ⟨.inl rfl,⟨by simp,fun j o aw=>.inr aw⟩,rfl⟩
theorem agU {qx:Int}:Sem Go.Proofs.Tryz.prog (.fn 96) [.ay [] 0 (.own 1),hS 0,hS 0,hS qx] H lo (.tuple []) H:=by
 refine rH dI Ss rfl (bb.refl _ _) fun Q bn=>?_;unfold P8;obtain ⟨O7,Ip⟩:∃ c,LQ=c:=⟨_,rfl⟩;rw [Ip];conv=>whnf
 refine .intro (fun m T H'=>T=GH 134 [(0,.ay [] 0 (.own 1)),(1,hS 0),(2,hS 0),(3,hS qx),(8,B true),(9,B true)]∧H'=H) 0 ⟨rfl,rfl⟩ ?_;rintro m T H' ⟨rfl,rfl⟩;subst Ip;unfold LQ;obtain ⟨ba,cd⟩:∃ c,LP=c:=⟨_,rfl⟩;obtain ⟨O6,JH⟩:∃ c,Oc=c:=⟨_,rfl⟩;rw [cd,JH];conv=>whnf
 subst cd;unfold LP;conv=>whnf
 refine ⟨_,_,qS aff,?_⟩;conv=>whnf
 exact bn _ _ _ ⟨.inr rfl,⟨rfl,fun j o aw=>.inr aw⟩,rfl⟩
theorem ail:Sem Go.Proofs.Tryz.prog (.fn 73) [.ay [] 0 (.uniq 1)] H lo (.tuple []) H:=by
 refine rH dI Sr rfl (bb.refl _ _) fun Q bn=>?_;unfold P4;conv=>whnf
 refine ⟨by first | rfl | simp only [sG,sM,GY,G6,GZ,G1,G0,G2,G8,G7,rQ,G3,G4,G5,sN,sL],_,Lp 0 (by decide),?_⟩
 conv=>whnf
 refine ⟨_,_,qS agU,?_⟩;conv=>whnf
 exact bn _ _ _ ⟨.inl rfl,⟨by simp,fun j o aw=>.inr aw⟩,rfl⟩
theorem adQ:Sem Go.Proofs.Tryz.prog (.fn 75) [.ay [] 0 .shared] H lo (.ay [] 0 (.uniq 1)) H:=by
 refine rH dI Xq rfl (bb.refl _ _) fun Q bn=>?_;unfold TU TV;conv=>whnf
 refine ⟨.dq,H,fun C=>by kernel_rfl,?_⟩;conv=>whnf
 refine ⟨?_,?_⟩
 ·conv=>whnf
  exact bn _ _ _ ⟨.inr rfl,⟨rfl,fun j o aw=>.inr aw⟩,rfl⟩
 ·conv=>whnf
  refine ⟨rfl,by omega,rfl,by omega,?_⟩;conv=>whnf
  exact bn _ _ _ ⟨.inr rfl,⟨rfl,fun j o aw=>.inr aw⟩,rfl⟩
theorem adV:Sem Go.Proofs.Tryz.prog (.fn 74) [.ay [] 0 (.uniq 1)] H lo (.ay [] 0 .shared) H:=by
 refine rH dI Xp rfl (bb.refl _ _) fun Q bn=>?_;unfold TP MN;obtain ⟨m3,rA⟩:∃ c,Ob=c:=⟨_,rfl⟩;rw [rA];conv=>whnf
 refine .inr ⟨rfl,?_⟩;conv=>whnf
 exact bn _ _ _ ⟨.inr rfl,⟨rfl,fun j o aw=>.inr aw⟩,rfl⟩
end

theorem ah5 {b:p3} {rows:List Row} {k:Nat} (aT:q3 b=0) (av:k<rows.length) (aO:∀ r∈rows.take k,(GR b r).2.2=0) (ag:(GR b rows[k]).2.2≠0):IH b rows=(0,(GR b rows[k]).2.2):=by
 unfold IH;rw [if_neg (by simp [aT])]
 have:rows.find? (fun r=>decide ((GR b r).2.2≠0))=some rows[k]:=by
  obtain ⟨x,al⟩:∃ x,x=rows[k]:=⟨_,rfl⟩;have e:rows=rows.take k++x::rows.drop (k+1):=by rw [al,←sU av,List.take_append_drop]
  rw [←al] at ag ⊢;conv=>lhs;rw [e]
  rw [List.find?_append,vZ.2 (fun r aj=>by simpa using aO r aj),Option.none_or,List.find?_cons_of_pos (by simpa using ag)]
 rw [this]
theorem ah6 {b:p3} {rows:List Row} (aT:q3 b=0) (aO:∀ r∈rows,(GR b r).2.2=0):IH b rows=if ((rows.flatten).map (·.1)).Nodup then (if (rows.flatten).length≠b.2.length then ((0:Int),(15:Int)) else ((rows.length:Int),0)) else (0,11):=by
 unfold IH;rw [if_neg (by simp [aT]),vZ.2 (fun r aj=>by simpa using aO r aj)]
theorem Wd {l:List Int} (ai:l.Pairwise (·≤·)):∀ k,k≤l.length→((qP l k).length=k↔(l.take k).Nodup)
 | 0,_=>by simp [qP]
 | k+1,av=>by
   have a':=Wd ai k (by omega);have hle:=Rz l k;(have JL:k<l.length:=by omega);(have e1:l.getD k 0=l[k]:=by simp [JL]);have ae6:l.take (k+1)=l.take k++[l[k]]:=tW JL;have jJ:(l.take (k+1)).Nodup↔(l.take k).Nodup∧l[k] ∉ l.take k:=by
    rw [ae6,uj];constructor
    ·rintro ⟨a,_,c⟩;exact ⟨a,fun hm=>c _ hm _ (by simp) rfl⟩
    ·rintro ⟨a,c⟩;exact ⟨a,by simp,fun x al y a1 e=>c (by simp at a1;subst a1;subst e;exact al)⟩
   have ky:l[k]∈l.take k↔0<k∧l.getD k 0=l.getD (k-1) 0:=by
    constructor
    ·intro hm;obtain ⟨i,hi,e⟩:=List.getElem_of_mem hm;(have Pt:i<k:=by simp at hi;omega);rw [List.getElem_take] at e;(have CF:k-1<l.length:=by omega);refine ⟨by omega,?_⟩;rw [e1,show l.getD (k-1) 0=l[k-1] by simp [CF]];have ad:=tc.1 ai (k-1) k CF JL (by omega);have af:l[i]≤l[k-1]:=by
      rcases Nat.lt_or_ge i (k-1) with h | h
      ·exact tc.1 ai i (k-1) (by omega) CF h
      ·have:i=k-1:=by omega
       subst this;exact uw _
     omega
    ·rintro ⟨ad,af⟩;(have CF:k-1<l.length:=by omega);rw [e1,show l.getD (k-1) 0=l[k-1] by simp [CF]] at af;rw [af];exact List.mem_iff_getElem.2 ⟨k-1,by simp;omega,by rw [List.getElem_take]⟩
   rw [jJ];simp only [qP];split
   ·rename_i h;constructor
    ·intro af;omega
    ·rintro ⟨_,aG⟩;exact absurd (ky.2 h) aG
   ·rename_i h;rw [sj,tF];constructor
    ·intro af;exact ⟨a'.1 (by omega),fun hm=>h (ky.1 hm)⟩
    ·rintro ⟨aG,_⟩;rw [a'.2 aG]
theorem aim (l:List Int):(rK l).Pairwise (·≤·):=by
 have:=(Oh Sort.swo_ltInt l).2;refine this.imp fun h=>?_;simp only [Sort.ltInt,decide_eq_false_iff_not] at h;omega
theorem adT (l:List Int):(qP (rK l) (rK l).length).length<l.length↔¬ l.Nodup:=by
 have ad:=Wd (aim l) (rK l).length (rX _);have af:=Rz (rK l) (rK l).length;have aG:=Qi l;rw [tX,(YS l).nodup_iff] at ad;rw [←ad];omega
theorem adL {n:Nat} (ai:U7 n) (aN:n≤1000) {b:p3} {rows:List Row} (ag:b.2.length≤1000) (aj:rows.length≤1000) (C4:∀ r∈rows,r.length≤1000) (ax:(∀ r∈rows,(GR b r).2.2=0)→rows.flatten.length≤n) :
  qt 25 [(.agg [(hS b.1),(.ay (b.2.flatMap p7) b.2.length .shared)]),(.ay (rows.map (GU p7)) rows.length .shared)] (.tuple [(hS (IH b rows).1),(hS (IH b rows).2)]):=by
 refine qN dI afD rfl (I8 (p5 rfl (p5 rfl rfl))) fun Q bn=>?_;have jz:∀ T H,IW [.tmp 4,.tmp 5] (.tuple [(hS (IH b rows).1),(hS (IH b rows).2)]) .ret T H→Q .ret T H:=fun T H bK=>bn _ T H bK;clear bn;have Lx:∀ (x y:Int) T H,IH b rows=(x,y)→IW [.tmp 4,.tmp 5] (.tuple [hS x,hS y]) .ret T H→Q .ret T H:=fun x y T H e h=>by
  rw [e] at jz;exact jz T H h
 unfold Ys;obtain ⟨Rw,Jm⟩:∃ c,TH=c:=⟨_,rfl⟩;rw [Jm];conv=>whnf
 subst Jm;unfold TH;obtain ⟨ba,cd⟩:∃ c,TF=c:=⟨_,rfl⟩;obtain ⟨Rv,Jl⟩:∃ c,TG=c:=⟨_,rfl⟩;rw [cd,Jl];conv=>whnf
 refine ⟨qh.pl,_,Z7 (Qw b ag),?_⟩;conv=>whnf
 subst cd;unfold TF;conv=>whnf
 by_cases aT:q3 b≠0
 ·rw [decide_eq_true aT];conv=>whnf
  exact Lx 0 (q3 b) _ _ (if_pos aT) (KA rfl rfl)
 rw [decide_eq_false aT];have aT:=uS.1 aT;conv=>whnf
 subst Jl;unfold TG;obtain ⟨m2,Hd⟩:∃ c,TN=c:=⟨_,rfl⟩;obtain ⟨BI,H9⟩:∃ c,P3=c:=⟨_,rfl⟩;obtain ⟨Ru,I0⟩:∃ c,P2=c:=⟨_,rfl⟩;rw [Hd,H9,I0];conv=>whnf
 have Ps:∀ k,(rows.take k).flatten.length≤1000*rows.length:=fun k=>by
  refine sJ (RF fun r aj=>C4 r (List.mem_of_mem_take aj)) ?_;rw [s_];exact Nat.mul_le_mul_left _ (Nat.min_le_right _ _)
 have alR:1000*rows.length≤1000000:=by omega
 refine .intro (fun m T H=>∃ (k:Nat) (Y:List au),k≤rows.length∧(∀ r∈rows.take k,(GR b r).2.2=0)∧m=rows.length-k∧T=GH 73 [(1,(.ay (rows.map (GU p7)) rows.length .shared)),(2,.ptr 0 0),(7,.ay (((rows.take k).flatten.map (·.1)).map hS) ((rows.take k).flatten.map (·.1)).length (.uniq 1)),(20,(.ay (rows.map (GU p7)) rows.length .shared)),(21,hS rows.length),(22,hS (k:Int))]∧H=au.cells [(hS b.1),(.ay (b.2.flatMap p7) b.2.length .shared)]::Y) _ ⟨0,[],by omega,by simp,rfl,rfl,rfl⟩ ?_;rintro m T H ⟨k,Y,av,aO,rfl,rfl,rfl⟩;conv=>whnf
 refine JF (fun h=>?_) (fun h=>?_)
 ·have JL:k<rows.length:=by omega
  subst Hd;unfold TN;obtain ⟨fR,rJ⟩:∃ c,TM=c:=⟨_,rfl⟩;rw [rJ];conv=>whnf
  refine ⟨⟨by omega,h⟩,?_⟩;rw [Ht (GU p7) rows (k:Int) ⟨by omega,h⟩,q_ JL];conv=>whnf
  subst rJ;unfold TM;obtain ⟨bm,b_⟩:∃ c,TI=c:=⟨_,rfl⟩;obtain ⟨dX,B2⟩:∃ c,TL=c:=⟨_,rfl⟩;rw [b_,B2];conv=>whnf
  refine ⟨qh.pl,_,aj3 (ajZ b rows[k] ag (C4 _ (sH JL))),?_⟩;conv=>whnf
  subst b_;unfold TI;conv=>whnf
  by_cases he:(GR b rows[k]).2.2≠0
  ·rw [decide_eq_true he];(conv=>whnf);exact Lx 0 _ _ _ (ah5 aT JL aO he) (KA rfl rfl)
  rw [decide_eq_false he];have he:=uS.1 he;conv=>whnf
  subst B2;unfold TL;obtain ⟨b9,hq⟩:∃ c,TK=c:=⟨_,rfl⟩;rw [hq];conv=>whnf
  have alV:=C4 _ (sH JL);have yF:=Ps k;refine .intro (fun m T H=>∃ (j:Nat) (Y:List au),j≤rows[k].length∧m=rows[k].length-j∧T=GH 73 [(1,(.ay (rows.map (GU p7)) rows.length .shared)),(2,.ptr 0 0),(7,.ay ((((rows.take k).flatten++rows[k].take j).map (·.1)).map hS) (((rows.take k).flatten++rows[k].take j).map (·.1)).length (.uniq 1)),(20,(.ay (rows.map (GU p7)) rows.length .shared)),(21,hS rows.length),(22,hS (k:Int)),(36,(.ay (rows[k].flatMap p7) rows[k].length .shared)),(37,hS rows[k].length),(38,hS (j:Int))]∧H=au.cells [(hS b.1),(.ay (b.2.flatMap p7) b.2.length .shared)]::Y) _ ⟨0,Y,by omega,rfl,by rw [tI,sV];rfl,rfl⟩ ?_;rintro m T H ⟨j,rE,aw,rfl,rfl,rfl⟩;conv=>whnf
  refine JF (fun af=>?_) (fun af=>?_)
  ·(have lY:j<rows[k].length:=by omega);subst hq;unfold TK;obtain ⟨bt,dZ⟩:∃ c,TJ=c:=⟨_,rfl⟩;rw [dZ];(conv=>whnf);refine ⟨⟨by omega,af⟩,?_⟩;rw [qR p7 2 qK rows[k] (j:Int) ⟨by omega,af⟩,q_ lY];(conv=>whnf);refine DX (x:=au.cells [(hS (0:Int)),(hS (0:Int))]) (by first | exact qL.h | rfl | (simp [sg,I.settle];done)) ?_
   (conv=>whnf);obtain ⟨A,aK⟩:∃ A,A=((rows.take k).flatten++rows[k].take j).map (·.1):=⟨_,rfl⟩;have RM:A.length≤1002000:=by
    rw [aK,sZ,sj,s_];omega
   have oZ:A++[rows[k][j].1]=((rows.take k).flatten++rows[k].take (j+1)).map (·.1):=by
    rw [tW lY,←sy,th,←aK];rfl
   rw [←aK];subst dZ;unfold TJ;(conv=>whnf);have U2:(A.length:Int)=(A.length:Int)∧0≤(A.length:Int)∧(A.length:Int)≤(A.length:Int):=⟨rfl,by omega,by omega⟩;refine ⟨U2,?_⟩;erw [YQ hS A (A.length:Int) U2.2];rw [ti,tX];(conv=>whnf);refine DX (x:=au.cells [hS rows[k][j].1,hS rows[k][j].2]) (by first | exact qL.h | rfl | (simp [sg,I.settle];done)) ?_
   (conv=>whnf);refine ⟨rfl,by omega,by omega,by omega,by simp,?_⟩;erw [JB hS A rows[k][j].1];rw [oZ];(conv=>whnf);exact ⟨rows[k].length-(j+1),by omega,j+1,rE++[au.cells [hS rows[k][j].1,hS rows[k][j].2]],by omega,rfl,by rw [←qU j (by omega)];rfl,by rw [Ig];rfl⟩
  ·(have fm:j=rows[k].length:=by omega);(have e:(rows.take k).flatten++rows[k].take j=(rows.take (k+1)).flatten:=by rw [fm,tX,tW JL,List.flatten_append];simp);rw [e];(conv=>whnf);refine ⟨rows.length-(k+1),by omega,k+1,rE,by omega,fun r aj=>?_,rfl,by rw [←qU k (by omega)];rfl,rfl⟩;rw [tW JL] at aj;rcases sQ.1 aj with aj | aj
   ·exact aO r aj
   ·rw [sI.1 aj];exact he
 ·obtain rfl:k=rows.length:=by omega
  rw [tX] at aO ⊢;have HJ:=ah6 aT aO;have hlen:=ax aO;obtain ⟨A,aK⟩:∃ A,A=rows.flatten.map (·.1):=⟨_,rfl⟩;have RM:A.length=rows.flatten.length:=by rw [aK,sZ]
  rw [←aK] at HJ ⊢;obtain ⟨id,aE⟩:∃ id,id=(au.cells [(hS b.1),(.ay (b.2.flatMap p7) b.2.length .shared)]::Y).length:=⟨_,rfl⟩;by_cases Pf:A=[]
  ·subst Pf;(conv=>whnf);refine .inr ⟨rfl,?_⟩;(conv=>whnf);refine ⟨_,_,qS ail,?_⟩;(conv=>whnf);subst H9;unfold P3;obtain ⟨m3,rA⟩:∃ c,Oa=c:=⟨_,rfl⟩;rw [rA];(conv=>whnf);refine ⟨_,_,O9 rfl adQ,?_⟩;(conv=>whnf);refine ⟨_,_,qS adV,?_⟩;(conv=>whnf);subst rA;unfold Oa;(conv=>whnf);rw [if_pos (by simp)] at HJ;(have alI:rows.flatten.length=0:=by rw [←RM];rfl);by_cases iH:(0:Int)<(b.2.length:Int)
   ·rw [show decide (((([]:List Int).length:Nat):Int)<(b.2.length:Int))=true from decide_eq_true iH];(conv=>whnf);exact Lx 0 15 _ _ (by rw [HJ,if_pos (by omega)]) (KA rfl rfl)
   ·rw [show decide (((([]:List Int).length:Nat):Int)<(b.2.length:Int))=false from decide_eq_false iH];(conv=>whnf);subst I0;unfold P2;(conv=>whnf);exact Lx _ 0 _ _ (by rw [HJ,if_neg (by omega)]) (KA rfl rfl)
  ·have cb:A.length≠0:=fun h=>Pf (List.length_eq_zero_iff.1 h);(conv=>whnf);refine .inl ⟨cb,?_⟩;(conv=>whnf);rw [←aE];obtain ⟨N,ae3⟩:=ai A (by omega) ((au.cells [(hS b.1),(.ay (b.2.flatMap p7) b.2.length .shared)]::Y)++[au.cells (A.map hS)]) id 0 (si _) (by rw [aE];exact JI _ _);refine ⟨_,_,qS ae3,?_⟩;rw [aE,Ig,←aE];(conv=>whnf);subst H9;unfold P3;obtain ⟨m3,rA⟩:∃ c,Oa=c:=⟨_,rfl⟩;rw [rA];(conv=>whnf);obtain ⟨S,cp⟩:∃ S,S=rK A:=⟨_,rfl⟩;(have WO:S.length=A.length:=by rw [cp,Qi]);have Po:=adT A;rw [←cp] at Po ⊢;rw [←WO];rw [←WO] at Po;refine ⟨_,_,O9 (rz (fun _=>rfl) _ _ _) (adR S [] (by omega) (by omega) (by rw [sV,aE];exact (se (by simp)).trans (JI _ _))),?_⟩;(conv=>whnf);refine ⟨_,_,qS (adW S (by omega) (by omega) (si _)),?_⟩;(conv=>whnf);by_cases a0:((qP S S.length).length:Int)<(S.length:Int)
   ·rw [decide_eq_true a0];(conv=>whnf);exact Lx 0 11 _ _ (by rw [HJ,if_neg (Po.1 (by omega))]) (KA rfl rfl)
   rw [decide_eq_false a0];(conv=>whnf);subst rA;unfold Oa;(conv=>whnf);have jJ:A.Nodup:=uS.1 fun h=>a0 (by have:=Po.2 h;omega);rw [if_pos jJ] at HJ;have hle:rows.flatten.length≤b.2.length:=by
    rw [←RM];refine LM jJ fun x al=>?_;rw [aK] at al;obtain ⟨p,aC,rfl⟩:=sq.1 al;obtain ⟨r,CY,aC⟩:=List.mem_flatten.1 aC;have:=Oi.1 ((Wa (aO r CY)).2.2.1 p aC);exact ⟨this.1,this.2.1⟩
   by_cases iH:(S.length:Int)<(b.2.length:Int)
   ·rw [decide_eq_true iH];(conv=>whnf);exact Lx 0 15 _ _ (by rw [HJ,if_pos (by omega)]) (KA rfl rfl)
   ·rw [decide_eq_false iH];(conv=>whnf);subst I0;unfold P2;(conv=>whnf);exact Lx _ 0 _ _ (by rw [HJ,if_neg (by omega)]) (KA rfl rfl)
end Go.Proofs.YtfakoboiahbhaaaGreat.Ab


namespace Go.Proofs.YtfakoboiahbhaaaGreat.Ab
open Go
noncomputable def X3:ez :=
 GC [Gp 11 1,Gq 6 11] (GC [Gn 7 0] (GC [Gq 12 2,Gq 13 1,F2 14 12 13 .sub,Gq 8 14] (.seq (GC [Gp 15 8,F1 16 15 1 .sub,F1 17 16 2 .quo,Gq 9 17] (.block 0 (.loop (some (EA false [0,1,5,4,46])) (.seq (GC [Gp 18 9,F1 19 18 0 .geq] (.cond (.sl 19) .skip (.exit 0))) (.seq (.block 1 (Gt [Gp 22 0,Gp 23 9,Gp 24 8,Gp 25 6,gO 26 [.iD (.func 132 [] []),.hJ 22,.hJ 23,.hJ 24,.hJ 25] (.call 1)])) (Gt [Gq 20 9,F1 21 20 1 .sub,Gq 9 21])))))) (GC [Gq 27 8,F1 28 27 1 .sub,Gq 10 28] (.block 2 (.loop (some (EA false [0,1,5,2,2,1,45])) (.seq (GC [Gp 29 10,F1 30 29 0 .geq] (.cond (.sl 30) .skip (.exit 2))) (.seq (.block 3 (.seq (Gu [Gp 33 0,Gp 34 6,Gp 35 0,Gp 36 6,Gp 37 10,F2 38 36 37 .add,Gp 39 0,Gp 40 6,Gp 41 10,F2 42 40 41 .add,Gi 43 39 42 1,Gm 44 43,Gp 45 0,Gp 46 6,Gi 47 45 46 1,Gm 48 47,Gi 49 33 34 1,⟨none,[.hJ 49,.hJ 44],none,none,.st 1⟩,Gi 50 35 38 1,⟨none,[.hJ 50,.hJ 48],none,none,.st 1⟩]) (Gt [Gp 51 0,Gp 52 7,Gp 53 10,Gp 54 6,gO 55 [.iD (.func 132 [] []),.hJ 51,.hJ 52,.hJ 53,.hJ 54] (.call 1)]))) (Gt [Gq 31 10,F1 32 31 1 .sub,Gq 10 32])))))))))
theorem afo:zg Go.Proofs.Tryz.prog Vi 116=some (X3,56,[]):=by kernel_rfl
noncomputable def Yk:ez :=
 GC [Gq 10 1,Gq 8 10] (.block 0 (.loop (some (EA false [0,1,1,2,4,1,67])) (.block 1 (GC [Gp 11 8,gO 12 [.iD (.int .i64 2),.hM 11] (.bin .mul),F0 13 12 1,Gq 9 13] (.seq (GC [Gp 14 9,Gp 15 2,F2 16 14 15 .geq] (.cond (.sl 16) (.exit 0) .skip)) (.seq (.seq (Gu [Gp 17 9,F0 18 17 1,Gp 19 2,F2 20 18 19 .lss,Gq 21 20,cR 22 [.sl 0] 21 true .iT,cR 23 [.sl 3] 21 true .iT,cR 24 [.sl 9] 21 true .iT,cR 25 [.hM 23,.hM 24] 21 true (.bin .add),cR 26 [.hM 22,.hM 25] 21 true (.pQ 1),cR 27 [.hM 26] 21 true (.w8 .one),cR 28 [.sl 0] 21 true .iT,cR 29 [.sl 3] 21 true .iT,cR 30 [.sl 9] 21 true .iT,cR 31 [.hM 29,.hM 30] 21 true (.bin .add),cR 32 [.hM 31,.iD (.int .i64 1)] 21 true (.bin .add),cR 33 [.hM 28,.hM 32] 21 true (.pQ 1),cR 34 [.hM 33] 21 true (.w8 .one),⟨some 35,[.iD (.func 121 [] []),.sl 27,.sl 34],some (21,true),none,.call 3⟩,gO 36 [.sl 21,.hM 35,.iD (.bool false)] .pick]) (.cond (.sl 36) (Gt [Gq 37 9,F0 38 37 1,Gq 9 38]) .skip)) (.seq (.seq (Gu [Gp 39 0,Gp 40 3,Gp 41 8,F2 42 40 41 .add,Gi 43 39 42 1,Gm 44 43,Gp 45 0,Gp 46 3,Gp 47 9,F2 48 46 47 .add,Gi 49 45 48 1,Gm 50 49,gO 51 [.iD (.func 121 [] []),.sl 44,.sl 50] (.call 3),gO 52 [.hM 51] (.un .not)]) (.cond (.sl 52) .ret .skip)) (.seq (Gu [Gp 53 0,Gp 54 3,Gp 55 8,F2 56 54 55 .add,Gp 57 0,Gp 58 3,Gp 59 9,F2 60 58 59 .add,Gp 61 0,Gp 62 3,Gp 63 9,F2 64 62 63 .add,Gi 65 61 64 1,Gm 66 65,Gp 67 0,Gp 68 3,Gp 69 8,F2 70 68 69 .add,Gi 71 67 70 1,Gm 72 71,Gi 73 53 56 1,⟨none,[.hJ 73,.hJ 66],none,none,.st 1⟩,Gi 74 57 60 1,⟨none,[.hJ 74,.hJ 72],none,none,.st 1⟩]) (Gt [Gq 75 9,Gq 8 75])))))))))
theorem afw:zg Go.Proofs.Tryz.prog Vp 132=some (Yk,76,[]):=by kernel_rfl
noncomputable def Yl:ez :=
 GC [gO 2 [.iD (.int .u64 0)] .iT] (GC [Gq 3 0,gO 4 [.hM 3] (.conv .u64),gO 5 [.iD (.func 97 [] []),.sl 4] (.call 3),gO 6 [.iD (.int .u64 1),.hM 5] (.bin .shl),Gq 2 6] .ret)
theorem afx:zg Go.Proofs.Tryz.prog Vq 133=some (Yl,7,[.tmp 2]):=by kernel_rfl
noncomputable def Yo:ez :=
 GC [Gn 6 0] (GC [Gq 7 0,Gp 8 1,F1 9 8 1 .sub,Gp 10 1,Gq 11 1,F0 12 11 1,Gq 13 2,gO 14 [.iD (.func 136 [] []),.hJ 7,.hJ 9,.hJ 10,.hJ 12,.hJ 13] (.call 1),Gq 6 14] .ret)
theorem afz:zg Go.Proofs.Tryz.prog Vs 135=some (Yo,15,[.tmp 6]):=by kernel_rfl
noncomputable def Yp:ez :=
 GC [Gn 10 0] (GC [Gp 12 0,Gq 13 1,Gq 14 2,Gp 15 4,gO 16 [.iD (.func 147 [] []),.hJ 12,.hJ 13,.hJ 14,.hJ 15] (.call 1),Gq 11 16,GK 17 11 0,gO 18 [.hM 11] (.ext 1),Gq 1 17,Gq 2 18] (GC [Gp 20 0,Gq 21 2,Gq 22 3,Gp 23 4,gO 24 [.iD (.func 147 [] []),.hJ 20,.hJ 21,.hJ 22,.hJ 23] (.call 1),Gq 19 24,GK 25 19 0,gO 26 [.hM 19] (.ext 1),Gq 2 25,Gq 3 26] (GC [Gq 28 0,Gq 29 1,Gq 30 2,Gq 31 4,gO 32 [.iD (.func 147 [] []),.hJ 28,.hJ 29,.hJ 30,.hJ 31] (.call 1),Gq 27 32,GK 33 27 0,gO 34 [.hM 27] (.ext 1),Gq 1 33,Gq 2 34] (GC [Gq 35 2,Gq 10 35] .ret))))
theorem afA:zg Go.Proofs.Tryz.prog Vt 136=some (Yp,36,[.tmp 10]):=by kernel_rfl
noncomputable def Yr:ez :=
 GC [Gn 8 0,Gn 9 0] (.seq (.seq (Gu [Gp 10 0,Gp 11 2,Gi 12 10 11 1,Gm 13 12,Gp 14 0,Gp 15 1,Gi 16 14 15 1,Gm 17 16,gO 18 [.iD (.func 121 [] []),.sl 13,.sl 17] (.call 3)]) (.cond (.sl 18) (GC [Gq 19 3,gO 20 [.sl 19] .zC,Gm 21 20,F0 22 21 1,gO 23 [.hM 19] .zC,⟨none,[.hJ 23,.hJ 22],none,none,.st 1⟩] (GC [Gq 24 2,Gq 25 1,Gq 8 24,Gq 9 25] .ret)) .skip)) (GC [Gq 26 1,Gq 27 2,Gq 8 26,Gq 9 27] .ret))
theorem afC:zg Go.Proofs.Tryz.prog Vw 147=some (Yr,28,[.tmp 8,.tmp 9]):=by kernel_rfl
noncomputable def TB:ez :=
 GC [Gq 30 0,gO 31 [.hM 30] .zC,Gm 32 31,Gq 2 32] .ret
noncomputable def TC:ez :=
 .seq (Gu [Gp 21 0,gO 22 [.sl 21] .zC,Gm 23 22,Gp 24 0,gO 25 [.hM 24] .zC,Gm 26 25,gO 27 [.hM 26,.iD (.int .u64 17)] (.bin .shl),F2 28 23 27 .xor,gO 29 [.sl 21] .zC,⟨none,[.hJ 29,.hJ 28],none,none,.st 1⟩]) TB
noncomputable def TD:ez :=
 .seq (Gu [Gp 12 0,gO 13 [.sl 12] .zC,Gm 14 13,Gp 15 0,gO 16 [.hM 15] .zC,Gm 17 16,gO 18 [.hM 17,.iD (.int .u64 7)] (.bin .shr),F2 19 14 18 .xor,gO 20 [.sl 12] .zC,⟨none,[.hJ 20,.hJ 19],none,none,.st 1⟩]) TC
noncomputable def Yn:ez :=
 .seq (Gu [Gp 3 0,gO 4 [.sl 3] .zC,Gm 5 4,Gp 6 0,gO 7 [.hM 6] .zC,Gm 8 7,gO 9 [.hM 8,.iD (.int .u64 13)] (.bin .shl),F2 10 5 9 .xor,gO 11 [.sl 3] .zC,⟨none,[.hJ 11,.hJ 10],none,none,.st 1⟩]) TD
noncomputable def Ym:ez :=
 GC [gO 2 [.iD (.int .u64 0)] .iT] Yn
theorem afy:zg Go.Proofs.Tryz.prog Vr 134=some (Ym,33,[.tmp 2]):=by kernel_rfl
noncomputable def ahf:ez :=
 .j3 false [Gp 41 0,Gq 42 12,gO 43 [.iD (.func 135 [] []),.hJ 41,.hJ 42,.sl 9] (.call 1),Gq 12 43]
noncomputable def ahi:ez :=
 GC [Gp 38 0,Gq 39 11,gO 40 [.iD (.func 135 [] []),.hJ 38,.hJ 39,.sl 9] (.call 1),Gq 11 40] ahf
noncomputable def ahj:ez :=
 GC [Gp 35 0,Gq 36 10,gO 37 [.iD (.func 135 [] []),.hJ 35,.hJ 36,.sl 9] (.call 1),Gq 10 37] ahi
noncomputable def ahk:ez :=
 .j3 false [Gq 44 0,Gq 45 10,Gq 46 11,Gq 47 12,gO 48 [.iD (.func 136 [] []),.hJ 44,.hJ 45,.hJ 46,.hJ 47,.sl 9] (.call 1),Gq 11 48]
noncomputable def ahl:ez :=
 .cond (.sl 54) (GC [Gq 56 11,Gq 6 56,Gn 7 2] .ret) (GC [Gq 50 11,Gq 6 50,Gn 7 0] .ret)
noncomputable def ahm:ez :=
 .cond (.sl 51) (GC [Gq 53 11,Gq 6 53,Gn 7 1] .ret) (GC [F1 55 49 12 .eql,Gq 54 55] ahl)
noncomputable def ahn:ez :=
 .seq (GC [Gp 31 8,F1 32 31 8 .geq] (.cond (.sl 32) (.seq (GC [Gq 33 8,F1 34 33 50 .geq] (.cond (.sl 34) ahj .skip)) ahk) .skip)) (GC [Gm 49 9] (.block 0 (GC [gO 52 [.sl 49,.iD (.int .i64 0)] (.bin .eql),Gq 51 52] ahm)))
noncomputable def aho:ez :=
 GC [Gq 26 1,Gp 27 8,F1 28 27 4 .quo,F1 29 28 3 .mul,F2 30 26 29 .add,Gq 12 30] ahn
noncomputable def ahp:ez :=
 GC [Gp 21 1,Gp 22 8,F1 23 22 4 .quo,F1 24 23 2 .mul,F2 25 21 24 .add,Gq 11 25] aho
noncomputable def ahg:ez :=
 GC [Gp 16 1,Gp 17 8,F1 18 17 4 .quo,F1 19 18 1 .mul,F2 20 16 19 .add,Gq 10 20] ahp
noncomputable def ahh:ez :=
 GC [Gq 13 2,Gp 14 1,F2 15 13 14 .sub,Gq 8 15] (GC [gO 9 [] (.alloc [.int .i64 0])] ahg)
noncomputable def X5:ez :=
 GC [Gn 6 0,Gn 7 0] ahh
theorem afq:zg Go.Proofs.Tryz.prog Vk 118=some (X5,57,[.tmp 6,.tmp 7]):=by kernel_rfl
noncomputable def S9:ez :=
 GC [Gq 28 6,F0 29 28 1,Gq 6 29] (Gt [Gq 30 7,F1 31 30 1 .sub,Gq 7 31])
noncomputable def S_:ez :=
 .block 1 (.seq (Gu [Gp 14 0,Gp 15 6,Gp 16 0,Gp 17 7,Gp 18 0,Gp 19 7,Gi 20 18 19 1,Gm 21 20,Gp 22 0,Gp 23 6,Gi 24 22 23 1,Gm 25 24,Gi 26 14 15 1,⟨none,[.hJ 26,.hJ 21],none,none,.st 1⟩,Gi 27 16 17 1,⟨none,[.hJ 27,.hJ 25],none,none,.st 1⟩]) S9)
noncomputable def X7:ez :=
 GC [Gq 9 2,F1 10 9 1 .sub,Gq 7 10] (.block 0 (.loop (some (EA false [0,1,5,2,24])) (.seq (GC [Gp 11 6,Gp 12 7,F2 13 11 12 .lss] (.cond (.sl 13) .skip (.exit 0))) S_)))
noncomputable def X6:ez :=
 GC [Gq 8 1,Gq 6 8] X7
theorem afr:zg Go.Proofs.Tryz.prog Vl 119=some (X6,32,[]):=by kernel_rfl
noncomputable def X9:ez :=
 .seq (.seq (Gu [Gp 17 7,Gp 18 2,F2 19 17 18 .lss,Gq 20 19,cR 21 [.sl 0] 20 true .iT,cR 22 [.sl 7] 20 true .iT,cR 23 [.hM 21,.hM 22] 20 true (.pQ 1),cR 24 [.hM 23] 20 true (.w8 .one),cR 25 [.sl 0] 20 true .iT,cR 26 [.sl 7] 20 true .iT,cR 27 [.hM 26,.iD (.int .i64 1)] 20 true (.bin .sub),cR 28 [.hM 25,.hM 27] 20 true (.pQ 1),cR 29 [.hM 28] 20 true (.w8 .one),⟨some 30,[.iD (.func 121 [] []),.sl 24,.sl 29],some (20,true),none,.call 3⟩,cR 31 [.hM 30] 20 true (.un .not),gO 32 [.sl 20,.hM 31,.iD (.bool false)] .pick]) (.cond (.sl 32) .skip (.exit 2))) (.block 3 (Gt [Gq 33 7,F0 34 33 1,Gq 7 34]))
noncomputable def PV:ez :=
 .block 2 (.loop (some (EA false [0,3,4,2,124])) X9)
noncomputable def Tf:ez :=
 .j3 true [Gp 79 0,Gp 80 9,Gp 81 0,Gp 82 9,F1 83 82 1 .sub,Gp 84 0,Gp 85 9,F1 86 85 1 .sub,Gi 87 84 86 1,Gm 88 87,Gp 89 0,Gp 90 9,Gi 91 89 90 1,Gm 92 91,Gi 93 79 80 1,⟨none,[.hJ 93,.hJ 88],none,none,.st 1⟩,Gi 94 81 83 1,⟨none,[.hJ 94,.hJ 92],none,none,.st 1⟩]
noncomputable def Tg:ez :=
 .block 5 (.seq (.seq (Gu [Gp 68 0,Gp 69 9,Gi 70 68 69 1,Gm 71 70,Gp 72 0,Gp 73 9,F1 74 73 1 .sub,Gi 75 72 74 1,Gm 76 75,gO 77 [.iD (.func 121 [] []),.sl 71,.sl 76] (.call 3),gO 78 [.hM 77] (.un .not)]) (.cond (.sl 78) (.exit 4) .skip)) Tf)
noncomputable def Th:ez :=
 .seq (GC [Gp 64 9,F1 65 64 1 .geq] (.cond (.sl 65) .skip (.exit 4))) (.seq Tg (Gt [Gq 66 9,F1 67 66 1 .sub,Gq 9 67]))
noncomputable def Ti:ez :=
 .j3 true [Gp 117 0,Gp 118 10,Gp 119 0,Gp 120 10,F1 121 120 1 .sub,Gp 122 0,Gp 123 10,F1 124 123 1 .sub,Gi 125 122 124 1,Gm 126 125,Gp 127 0,Gp 128 10,Gi 129 127 128 1,Gm 130 129,Gi 131 117 118 1,⟨none,[.hJ 131,.hJ 126],none,none,.st 1⟩,Gi 132 119 121 1,⟨none,[.hJ 132,.hJ 130],none,none,.st 1⟩]
noncomputable def Tj:ez :=
 .block 7 (.seq (.seq (Gu [Gp 106 0,Gp 107 10,Gi 108 106 107 1,Gm 109 108,Gp 110 0,Gp 111 10,F1 112 111 1 .sub,Gi 113 110 112 1,Gm 114 113,gO 115 [.iD (.func 121 [] []),.sl 109,.sl 114] (.call 3),gO 116 [.hM 115] (.un .not)]) (.cond (.sl 116) (.exit 6) .skip)) Ti)
noncomputable def Tk:ez :=
 .seq (GC [Gp 101 10,Gp 102 2,F2 103 101 102 .lss] (.cond (.sl 103) .skip (.exit 6))) (.seq Tj (Gt [Gq 104 10,F0 105 104 1,Gq 10 105]))
noncomputable def N9:ez :=
 GC [Gp 95 2,Gp 96 7,F2 97 95 96 .sub,F1 98 97 2 .geq] (.cond (.sl 98) (GC [Gp 99 7,F0 100 99 1,Gq 10 100] (.block 6 (.loop (some (EA false [0,3,4,2,1,1,122])) Tk))) .skip)
noncomputable def PU:ez :=
 .seq (GC [Gp 58 7,Gp 59 1,F2 60 58 59 .sub,F1 61 60 2 .geq] (.cond (.sl 61) (GC [Gp 62 7,F1 63 62 1 .sub,Gq 9 63] (.block 4 (.loop (some (EA false [0,3,4,3,123])) Th))) .skip)) N9
noncomputable def Ta:ez :=
 .seq (Gu [Gp 42 0,Gp 43 7,Gp 44 0,Gp 45 7,F1 46 45 1 .sub,Gp 47 0,Gp 48 7,F1 49 48 1 .sub,Gi 50 47 49 1,Gm 51 50,Gp 52 0,Gp 53 7,Gi 54 52 53 1,Gm 55 54,Gi 56 42 43 1,⟨none,[.hJ 56,.hJ 51],none,none,.st 1⟩,Gi 57 44 46 1,⟨none,[.hJ 57,.hJ 55],none,none,.st 1⟩]) PU
noncomputable def Tb:ez :=
 .seq (GC [Gp 38 2,Gp 39 1,F2 40 38 39 .sub,F1 41 40 50 .lss] (.cond (.sl 41) (GC [gO 6 [.iD (.bool false)] .iT] .ret) .skip)) Ta
noncomputable def Tc:ez :=
 .seq (GC [Gp 35 7,Gp 36 2,F2 37 35 36 .eql] (.cond (.sl 37) (GC [gO 6 [.iD (.bool true)] .iT] .ret) .skip)) Tb
noncomputable def Td:ez :=
 .block 1 (.seq PV Tc)
noncomputable def Te:ez :=
 .seq (GC [Gp 13 8,F1 14 13 5 .lss] (.cond (.sl 14) .skip (.exit 0))) (.seq Td (Gt [Gq 15 8,F0 16 15 1,Gq 8 16]))
noncomputable def X_:ez :=
 GC [Gp 11 1,F0 12 11 1,Gq 7 12] (.seq (GC [Gn 8 0] (.block 0 (.loop (some (EA false [0,3,4,2,124])) Te))) (GC [gO 6 [.iD (.bool false)] .iT] .ret))
noncomputable def X8:ez :=
 GC [gO 6 [.iD (.bool false)] .iT] X_
theorem afs:zg Go.Proofs.Tryz.prog Mx 120=some (X8,133,[.tmp 6]):=by kernel_rfl
noncomputable def S3:ez :=
 .j3 false [Gq 44 10,Gp 45 6,F2 46 44 45 .sub,Gq 10 46]
noncomputable def S4:ez :=
 .j3 true [Gp 47 0,Gp 48 9,Gp 49 0,Gp 50 1,Gp 51 10,F2 52 50 51 .add,Gp 53 0,Gp 54 1,Gp 55 10,F2 56 54 55 .add,Gi 57 53 56 1,Gm 58 57,Gp 59 0,Gp 60 9,Gi 61 59 60 1,Gm 62 61,Gi 63 47 48 1,⟨none,[.hJ 63,.hJ 58],none,none,.st 1⟩,Gi 64 49 52 1,⟨none,[.hJ 64,.hJ 62],none,none,.st 1⟩]
noncomputable def S5:ez :=
 .block 1 (GC [gO 36 [.iD (.func 134 [] []),.sl 7] (.call 1),Gp 37 8,gO 38 [.hM 37,.iD (.int .u64 1)] (.bin .sub),F2 39 36 38 .and,gO 40 [.hM 39] (.conv .i64),Gq 10 40] (.seq (GC [Gp 41 10,Gp 42 6,F2 43 41 42 .geq] (.cond (.sl 43) S3 .skip)) S4))
noncomputable def S6:ez :=
 .seq (GC [Gp 26 9,Gp 27 1,Gp 28 6,F1 29 28 4 .quo,F1 30 29 2 .mul,F2 31 27 30 .add,F0 32 31 1,F2 33 26 32 .leq] (.cond (.sl 33) .skip (.exit 0))) (.seq S5 (Gt [Gq 34 9,F0 35 34 1,Gq 9 35]))
noncomputable def S7:ez :=
 GC [Gp 20 1,Gp 21 6,F1 22 21 4 .quo,F1 23 22 2 .mul,F2 24 20 23 .add,F1 25 24 1 .sub,Gq 9 25] (.block 0 (.loop (some (EA false [0,2,4,4,55])) S6))
noncomputable def S8:ez :=
 GC [Gp 16 6,gO 17 [.hM 16] (.conv .u64),gO 7 [] (.alloc [.int .u64 0]),⟨none,[.sl 7,.hJ 17],none,none,.st 1⟩] (GC [Gp 18 6,gO 19 [.iD (.func 133 [] []),.sl 18] (.call 3),Gq 8 19] S7)
noncomputable def X4:ez :=
 GC [Gq 11 2,Gp 12 1,F2 13 11 12 .sub,Gq 6 13] (GC [Gp 14 6,F1 15 14 8 .geq] (.cond (.sl 15) S8 .skip))
theorem afp:zg Go.Proofs.Tryz.prog Vj 117=some (X4,65,[]):=by kernel_rfl
noncomputable def Yb:ez :=
 .seq (.seq (Gu [Gp 29 9,Gp 30 10,F2 31 29 30 .leq,Gq 32 31,cR 33 [.sl 0] 32 true .iT,cR 34 [.sl 1] 32 true .iT,cR 35 [.hM 33,.hM 34] 32 true (.pQ 1),cR 36 [.hM 35] 32 true (.w8 .one),cR 37 [.sl 0] 32 true .iT,cR 38 [.sl 9] 32 true .iT,cR 39 [.hM 37,.hM 38] 32 true (.pQ 1),cR 40 [.hM 39] 32 true (.w8 .one),⟨some 41,[.iD (.func 121 [] []),.sl 36,.sl 40],some (32,true),none,.call 3⟩,cR 42 [.hM 41] 32 true (.un .not),gO 43 [.sl 32,.hM 42,.iD (.bool false)] .pick]) (.cond (.sl 43) .skip (.exit 2))) (.block 3 (Gt [Gq 44 9,F0 45 44 1,Gq 9 45]))
noncomputable def PW:ez :=
 .block 2 (.loop (some (EA false [0,2,7,2,73])) Yb)
noncomputable def Yc:ez :=
 .seq (.seq (Gu [Gp 46 9,Gp 47 10,F2 48 46 47 .leq,Gq 49 48,cR 50 [.sl 0] 49 true .iT,cR 51 [.sl 1] 49 true .iT,cR 52 [.hM 50,.hM 51] 49 true (.pQ 1),cR 53 [.hM 52] 49 true (.w8 .one),cR 54 [.sl 0] 49 true .iT,cR 55 [.sl 10] 49 true .iT,cR 56 [.hM 54,.hM 55] 49 true (.pQ 1),cR 57 [.hM 56] 49 true (.w8 .one),⟨some 58,[.iD (.func 121 [] []),.sl 53,.sl 57],some (49,true),none,.call 3⟩,gO 59 [.sl 49,.hM 58,.iD (.bool false)] .pick]) (.cond (.sl 59) .skip (.exit 4))) (.block 5 (Gt [Gq 60 10,F1 61 60 1 .sub,Gq 10 61]))
noncomputable def PX:ez :=
 .block 4 (.loop (some (EA false [0,2,7,2,73])) Yc)
noncomputable def Tl:ez :=
 GC [Gq 79 9,F0 80 79 1,Gq 9 80] (Gt [Gq 81 10,F1 82 81 1 .sub,Gq 10 82])
noncomputable def Tm:ez :=
 .seq (Gu [Gp 65 0,Gp 66 9,Gp 67 0,Gp 68 10,Gp 69 0,Gp 70 10,Gi 71 69 70 1,Gm 72 71,Gp 73 0,Gp 74 9,Gi 75 73 74 1,Gm 76 75,Gi 77 65 66 1,⟨none,[.hJ 77,.hJ 72],none,none,.st 1⟩,Gi 78 67 68 1,⟨none,[.hJ 78,.hJ 76],none,none,.st 1⟩]) Tl
noncomputable def Tn:ez :=
 .block 0 (.loop (some (EA false [0,2,7,2,73])) (.block 1 (.seq PW (.seq PX (.seq (GC [Gp 62 9,Gp 63 10,F2 64 62 63 .gtr] (.cond (.sl 64) (.exit 0) .skip)) Tm)))))
noncomputable def Tp:ez :=
 GC [Gp 25 1,F0 26 25 1,Gq 27 2,F1 28 27 1 .sub,Gq 9 26,Gq 10 28] (.seq Tn (GC [Gq 83 9,Gq 8 83] .ret))
noncomputable def Yd:ez :=
 .seq (Gu [Gp 11 0,Gp 12 1,Gp 13 0,Gp 14 3,Gp 15 0,Gp 16 3,Gi 17 15 16 1,Gm 18 17,Gp 19 0,Gp 20 1,Gi 21 19 20 1,Gm 22 21,Gi 23 11 12 1,⟨none,[.hJ 23,.hJ 18],none,none,.st 1⟩,Gi 24 13 14 1,⟨none,[.hJ 24,.hJ 22],none,none,.st 1⟩]) Tp
noncomputable def Ya:ez :=
 GC [Gn 8 0] Yd
theorem afu:zg Go.Proofs.Tryz.prog OZ 122=some (Ya,84,[.tmp 8]):=by kernel_rfl
noncomputable def Yf:ez :=
 .seq (.seq (Gu [Gp 30 10,Gp 31 11,F2 32 30 31 .leq,Gq 33 32,cR 34 [.sl 0] 33 true .iT,cR 35 [.sl 10] 33 true .iT,cR 36 [.hM 34,.hM 35] 33 true (.pQ 1),cR 37 [.hM 36] 33 true (.w8 .one),cR 38 [.sl 0] 33 true .iT,cR 39 [.sl 1] 33 true .iT,cR 40 [.hM 38,.hM 39] 33 true (.pQ 1),cR 41 [.hM 40] 33 true (.w8 .one),⟨some 42,[.iD (.func 121 [] []),.sl 37,.sl 41],some (33,true),none,.call 3⟩,gO 43 [.sl 33,.hM 42,.iD (.bool false)] .pick]) (.cond (.sl 43) .skip (.exit 0))) (.block 1 (Gt [Gq 44 10,F0 45 44 1,Gq 10 45]))
noncomputable def PY:ez :=
 .block 0 (.loop (some (EA false [0,2,8,2,156])) Yf)
noncomputable def Yh:ez :=
 .seq (.seq (Gu [Gp 46 10,Gp 47 11,F2 48 46 47 .leq,Gq 49 48,cR 50 [.sl 0] 49 true .iT,cR 51 [.sl 11] 49 true .iT,cR 52 [.hM 50,.hM 51] 49 true (.pQ 1),cR 53 [.hM 52] 49 true (.w8 .one),cR 54 [.sl 0] 49 true .iT,cR 55 [.sl 1] 49 true .iT,cR 56 [.hM 54,.hM 55] 49 true (.pQ 1),cR 57 [.hM 56] 49 true (.w8 .one),⟨some 58,[.iD (.func 121 [] []),.sl 53,.sl 57],some (49,true),none,.call 3⟩,cR 59 [.hM 58] 49 true (.un .not),gO 60 [.sl 49,.hM 59,.iD (.bool false)] .pick]) (.cond (.sl 60) .skip (.exit 2))) (.block 3 (Gt [Gq 61 11,F1 62 61 1 .sub,Gq 11 62]))
noncomputable def PZ:ez :=
 .block 2 (.loop (some (EA false [0,2,8,2,156])) Yh)
noncomputable def Tx:ez :=
 .seq (Gu [Gp 66 0,Gp 67 11,Gp 68 0,Gp 69 1,Gp 70 0,Gp 71 1,Gi 72 70 71 1,Gm 73 72,Gp 74 0,Gp 75 11,Gi 76 74 75 1,Gm 77 76,Gi 78 66 67 1,⟨none,[.hJ 78,.hJ 73],none,none,.st 1⟩,Gi 79 68 69 1,⟨none,[.hJ 79,.hJ 77],none,none,.st 1⟩]) (GC [Gq 80 11,Gq 8 80,gO 9 [.iD (.bool true)] .iT] .ret)
noncomputable def Yi:ez :=
 .seq (.seq (Gu [Gp 99 10,Gp 100 11,F2 101 99 100 .leq,Gq 102 101,cR 103 [.sl 0] 102 true .iT,cR 104 [.sl 10] 102 true .iT,cR 105 [.hM 103,.hM 104] 102 true (.pQ 1),cR 106 [.hM 105] 102 true (.w8 .one),cR 107 [.sl 0] 102 true .iT,cR 108 [.sl 1] 102 true .iT,cR 109 [.hM 107,.hM 108] 102 true (.pQ 1),cR 110 [.hM 109] 102 true (.w8 .one),⟨some 111,[.iD (.func 121 [] []),.sl 106,.sl 110],some (102,true),none,.call 3⟩,gO 112 [.sl 102,.hM 111,.iD (.bool false)] .pick]) (.cond (.sl 112) .skip (.exit 6))) (.block 7 (Gt [Gq 113 10,F0 114 113 1,Gq 10 114]))
noncomputable def P0:ez :=
 .block 6 (.loop (some (EA false [0,2,8,2,156])) Yi)
noncomputable def Yj:ez :=
 .seq (.seq (Gu [Gp 115 10,Gp 116 11,F2 117 115 116 .leq,Gq 118 117,cR 119 [.sl 0] 118 true .iT,cR 120 [.sl 11] 118 true .iT,cR 121 [.hM 119,.hM 120] 118 true (.pQ 1),cR 122 [.hM 121] 118 true (.w8 .one),cR 123 [.sl 0] 118 true .iT,cR 124 [.sl 1] 118 true .iT,cR 125 [.hM 123,.hM 124] 118 true (.pQ 1),cR 126 [.hM 125] 118 true (.w8 .one),⟨some 127,[.iD (.func 121 [] []),.sl 122,.sl 126],some (118,true),none,.call 3⟩,cR 128 [.hM 127] 118 true (.un .not),gO 129 [.sl 118,.hM 128,.iD (.bool false)] .pick]) (.cond (.sl 129) .skip (.exit 8))) (.block 9 (Gt [Gq 130 11,F1 131 130 1 .sub,Gq 11 131]))
noncomputable def P1:ez :=
 .block 8 (.loop (some (EA false [0,2,8,2,156])) Yj)
noncomputable def Tq:ez :=
 GC [Gq 149 10,F0 150 149 1,Gq 10 150] (Gt [Gq 151 11,F1 152 151 1 .sub,Gq 11 152])
noncomputable def Tr:ez :=
 .seq (Gu [Gp 135 0,Gp 136 10,Gp 137 0,Gp 138 11,Gp 139 0,Gp 140 11,Gi 141 139 140 1,Gm 142 141,Gp 143 0,Gp 144 10,Gi 145 143 144 1,Gm 146 145,Gi 147 135 136 1,⟨none,[.hJ 147,.hJ 142],none,none,.st 1⟩,Gi 148 137 138 1,⟨none,[.hJ 148,.hJ 146],none,none,.st 1⟩]) Tq
noncomputable def Ts:ez :=
 .block 4 (.loop (some (EA false [0,2,8,2,156])) (.block 5 (.seq P0 (.seq P1 (.seq (GC [Gp 132 10,Gp 133 11,F2 134 132 133 .gtr] (.cond (.sl 134) (.exit 4) .skip)) Tr)))))
noncomputable def Tt:ez :=
 .seq (Gu [Gp 153 0,Gp 154 11,Gp 155 0,Gp 156 1,Gp 157 0,Gp 158 1,Gi 159 157 158 1,Gm 160 159,Gp 161 0,Gp 162 11,Gi 163 161 162 1,Gm 164 163,Gi 165 153 154 1,⟨none,[.hJ 165,.hJ 160],none,none,.st 1⟩,Gi 166 155 156 1,⟨none,[.hJ 166,.hJ 164],none,none,.st 1⟩]) (GC [Gq 167 11,Gq 8 167,gO 9 [.iD (.bool false)] .iT] .ret)
noncomputable def Tu:ez :=
 GC [Gq 95 10,F0 96 95 1,Gq 10 96] (GC [Gq 97 11,F1 98 97 1 .sub,Gq 11 98] (.seq Ts Tt))
noncomputable def Tv:ez :=
 .seq (Gu [Gp 81 0,Gp 82 10,Gp 83 0,Gp 84 11,Gp 85 0,Gp 86 11,Gi 87 85 86 1,Gm 88 87,Gp 89 0,Gp 90 10,Gi 91 89 90 1,Gm 92 91,Gi 93 81 82 1,⟨none,[.hJ 93,.hJ 88],none,none,.st 1⟩,Gi 94 83 84 1,⟨none,[.hJ 94,.hJ 92],none,none,.st 1⟩]) Tu
noncomputable def Tw:ez :=
 GC [Gp 26 1,F0 27 26 1,Gq 28 2,F1 29 28 1 .sub,Gq 10 27,Gq 11 29] (.seq PY (.seq PZ (.seq (GC [Gp 63 10,Gp 64 11,F2 65 63 64 .gtr] (.cond (.sl 65) Tx .skip)) Tv)))
noncomputable def Yg:ez :=
 .seq (Gu [Gp 12 0,Gp 13 1,Gp 14 0,Gp 15 3,Gp 16 0,Gp 17 3,Gi 18 16 17 1,Gm 19 18,Gp 20 0,Gp 21 1,Gi 22 20 21 1,Gm 23 22,Gi 24 12 13 1,⟨none,[.hJ 24,.hJ 19],none,none,.st 1⟩,Gi 25 14 15 1,⟨none,[.hJ 25,.hJ 23],none,none,.st 1⟩]) Tw
noncomputable def Ye:ez :=
 GC [Gn 8 0,gO 9 [.iD (.bool false)] .iT] Yg
theorem afv:zg Go.Proofs.Tryz.prog My 123=some (Ye,168,[.tmp 8,.tmp 9]):=by kernel_rfl
end Go.Proofs.YtfakoboiahbhaaaGreat.Ab


namespace Go.Proofs.YtfakoboiahbhaaaGreat.Ab.Pq
open Go
set_option maxRecDepth 20000
set_option maxHeartbeats 4000000
section
variable {H:List au} {id lo:Nat} (bF:lo≤id)
include bF
theorem YO (d:Array Int) (hE hi first:Nat) (a0:d.size≤1000) (aj:hE≤1000) (aQ:first+hi≤d.size) (ah:H[id]?=some (qe d)) :
  Sem Go.Proofs.Tryz.prog (.fn 132) [qk id d.size,hS hE,hS hi,hS first] H lo (.tuple []) (H.set id (qe (Sort.siftDown Sort.ltInt hi first hE d))):=by
 have aE:=(rV.1 ah).1;refine JG dI afw rfl ⟨by simp,fun j ad af=>by rw [sa (by omega)]⟩ ?_;unfold Yk;conv=>whnf
 have Cd:Nat.ble lo id=true:=sX bF;have gs:∀ c:au,(H.set id c)[id]?=some c:=fun c=>by rw [rY aE]
 have qa:∀ c e:au,((H.set id c).set id e)[id]?=some e:=fun c e=>by rw [rZ,gs]
 refine .intro (fun m T H'=>∃ r gT,r≤1000∧m=1001-r∧gT.size=d.size∧Sort.siftDown Sort.ltInt hi first r gT=Sort.siftDown Sort.ltInt hi first hE d∧T=GH 76 [(0,qk id d.size),(2,hS hi),(3,hS first),(8,hS r)]∧H'=H.set id (qe gT)) (1001-hE) ⟨hE,d,aj,rfl,rfl,rfl,rfl,?_⟩ ?_
 ·obtain ⟨ad,af⟩:=rV.1 ah;rw [←af,tC]
 rintro m T H' ⟨r,gT,aj,rfl,Cn,he,rfl,rfl⟩;have bE:IntKind.i64.wrap (IntKind.i64.wrap (2*(r:Int))+1)=((2*r+1:Nat):Int):=by rw [qm (2*(r:Int)) (by omega) (by omega),qm _ (by omega) (by omega)];omega
 conv=>whnf
 rw [bE];by_cases h:((hi:Nat):Int)≤((2*r+1:Nat):Int)
 ·rw [decide_eq_true h];conv=>whnf
  have e:Sort.siftDown Sort.ltInt hi first hE d=gT:=by
   rw [←he,Sort.siftDown.eq_1,dif_pos (by omega)]
  rw [e];exact ⟨.inl rfl,⟨by simp,fun j o aw=>.inr aw⟩,rfl⟩
 ·rw [decide_eq_false h];have bV:IntKind.i64.wrap (((2*r+1:Nat):Int)+1)=((2*r+2:Nat):Int):=by rw [qm _ (by omega) (by omega)];omega
  have rv:IntKind.i64.wrap ((first:Int)+((2*r+1:Nat):Int))=((first+(2*r+1):Nat):Int):=by rw [qm _ (by omega) (by omega)];omega
  have Jy:IntKind.i64.wrap ((first:Int)+((2*r+2:Nat):Int))=((first+(2*r+2):Nat):Int):=by rw [qm _ (by omega) (by omega)];omega
  have MV:IntKind.i64.wrap (((first+(2*r+1):Nat):Int)+1)=((first+(2*r+2):Nat):Int):=by rw [qm _ (by omega) (by omega)];omega
  have Jh:IntKind.i64.wrap ((first:Int)+(r:Int))=((first+r:Nat):Int):=by rw [qm _ (by omega) (by omega)];omega
  conv=>whnf
  rw [bV];by_cases a7:((2*r+2:Nat):Int)<(hi:Int)
  ·rw [decide_eq_true a7];(conv=>whnf);rw [rv];refine ⟨by omega,?_⟩;(conv=>whnf);refine DX (by first | exact gs _ | exact qa _ _ | assumption) ?_
   (conv=>whnf);refine qv (first+(2*r+1)) (by omega) (by omega) ?_;(conv=>whnf);rw [rv,MV];refine ⟨by omega,?_⟩;(conv=>whnf);refine DX (by first | exact gs _ | exact qa _ _ | assumption) ?_
   (conv=>whnf);refine qv (first+(2*r+2)) (by omega) (by omega) ?_;(conv=>whnf);refine ⟨by first | rfl | simp only [sG,sM,GY,G6,GZ,G1,G0,G2,G8,G7,rQ,G3,G4,G5,sN,sL],_,HV gT[first+(2*r+1)]! gT[first+(2*r+2)]!,GX,?_⟩
   (conv=>whnf);by_cases bN:gT[first+(2*r+1)]!<gT[first+(2*r+2)]!
   ·rw [decide_eq_true bN];(conv=>whnf);rw [bV];(conv=>whnf);rw [Jh];refine ⟨by omega,?_⟩;(conv=>whnf);refine DX (by first | exact gs _ | exact qa _ _ | assumption) ?_
    (conv=>whnf);refine qv (first+r) (by omega) (by omega) ?_;(conv=>whnf);rw [Jy];refine ⟨by omega,?_⟩;(conv=>whnf);refine DX (by first | exact gs _ | exact qa _ _ | assumption) ?_
    (conv=>whnf);refine qv (first+(2*r+2)) (by omega) (by omega) ?_;(conv=>whnf);refine ⟨by first | rfl | simp only [sG,sM,GY,G6,GZ,G1,G0,G2,G8,G7,rQ,G3,G4,G5,sN,sL],_,HV gT[first+r]! gT[first+(2*r+2)]!,GX,?_⟩
    (conv=>whnf);by_cases bX:gT[first+r]!<gT[first+(2*r+2)]!
    ·rw [decide_eq_true bX];(conv=>whnf);rw [Jh,Jy];refine ⟨by omega,?_⟩;(conv=>whnf);refine DX (by first | exact gs _ | exact qa _ _ | assumption) ?_
     (conv=>whnf);refine qv (first+(2*r+2)) (by omega) (by omega) ?_;(conv=>whnf);rw [Jh];refine ⟨by omega,?_⟩;(conv=>whnf);refine DX (by first | exact gs _ | exact qa _ _ | assumption) ?_
     (conv=>whnf);refine qv (first+r) (by omega) (by omega) ?_;(conv=>whnf);refine ⟨by omega,?_⟩;(conv=>whnf);rw [Cd];(conv=>whnf);refine DX (by first | exact gs _ | exact qa _ _ | assumption) ?_
     (conv=>whnf);refine rf (first+r) (by omega) (by first | omega | (simp only [sr];omega)) ?_
     (conv=>whnf);refine ⟨by omega,?_⟩;(conv=>whnf);rw [Cd];(conv=>whnf);refine DX (by first | exact gs _ | exact qa _ _ | assumption) ?_
     (conv=>whnf);refine rf (first+(2*r+2)) (by omega) (by first | omega | (simp only [sr];omega)) ?_
     (conv=>whnf);refine ⟨1001-(2*r+2),by omega,2*r+2,Sort.swp gT (first+r) (first+(2*r+2)),by omega,rfl,by rw [swp_size];exact Cn,?_,rfl,?_⟩
     ·rw [←he];(conv=>rhs;rw [Sort.siftDown.eq_1,dif_neg (by omega)]);rw [if_pos (by simp only [Sort.ltInt,r_,decide_eq_true_eq];exact ⟨by omega,bN⟩)];have ak:Sort.ltInt gT[first+r]! gT[first+(2*r+2)]! = true:=decide_eq_true bX;rw [ak]
      first
       | rfl
       | (rw [if_neg (by decide)];done)
       | (rw [if_neg (by decide),dif_pos (by omega)];done)
     ·simp only [rZ];rfl
    ·rw [decide_eq_false bX];(conv=>whnf);have e:Sort.siftDown Sort.ltInt hi first hE d=gT:=by
      rw [←he,Sort.siftDown.eq_1,dif_neg (by omega)];rw [if_pos (by simp only [Sort.ltInt,r_,decide_eq_true_eq];exact ⟨by omega,bN⟩)];have ak:Sort.ltInt gT[first+r]! gT[first+(2*r+2)]! = false:=decide_eq_false bX;rw [ak];rfl
     rw [e];exact ⟨.inr rfl,⟨by simp,fun j o aw=>.inr aw⟩,rfl⟩
   ·rw [decide_eq_false bN];(conv=>whnf);rw [Jh];refine ⟨by omega,?_⟩;(conv=>whnf);refine DX (by first | exact gs _ | exact qa _ _ | assumption) ?_
    (conv=>whnf);refine qv (first+r) (by omega) (by omega) ?_;(conv=>whnf);rw [rv];refine ⟨by omega,?_⟩;(conv=>whnf);refine DX (by first | exact gs _ | exact qa _ _ | assumption) ?_
    (conv=>whnf);refine qv (first+(2*r+1)) (by omega) (by omega) ?_;(conv=>whnf);refine ⟨by first | rfl | simp only [sG,sM,GY,G6,GZ,G1,G0,G2,G8,G7,rQ,G3,G4,G5,sN,sL],_,HV gT[first+r]! gT[first+(2*r+1)]!,GX,?_⟩
    (conv=>whnf);by_cases bX:gT[first+r]!<gT[first+(2*r+1)]!
    ·rw [decide_eq_true bX];(conv=>whnf);rw [Jh,rv];refine ⟨by omega,?_⟩;(conv=>whnf);refine DX (by first | exact gs _ | exact qa _ _ | assumption) ?_
     (conv=>whnf);refine qv (first+(2*r+1)) (by omega) (by omega) ?_;(conv=>whnf);rw [Jh];refine ⟨by omega,?_⟩;(conv=>whnf);refine DX (by first | exact gs _ | exact qa _ _ | assumption) ?_
     (conv=>whnf);refine qv (first+r) (by omega) (by omega) ?_;(conv=>whnf);refine ⟨by omega,?_⟩;(conv=>whnf);rw [Cd];(conv=>whnf);refine DX (by first | exact gs _ | exact qa _ _ | assumption) ?_
     (conv=>whnf);refine rf (first+r) (by omega) (by first | omega | (simp only [sr];omega)) ?_
     (conv=>whnf);refine ⟨by omega,?_⟩;(conv=>whnf);rw [Cd];(conv=>whnf);refine DX (by first | exact gs _ | exact qa _ _ | assumption) ?_
     (conv=>whnf);refine rf (first+(2*r+1)) (by omega) (by first | omega | (simp only [sr];omega)) ?_
     (conv=>whnf);refine ⟨1001-(2*r+1),by omega,2*r+1,Sort.swp gT (first+r) (first+(2*r+1)),by omega,rfl,by rw [swp_size];exact Cn,?_,rfl,?_⟩
     ·rw [←he];(conv=>rhs;rw [Sort.siftDown.eq_1,dif_neg (by omega)]);rw [if_neg (by simp only [Sort.ltInt,r_,decide_eq_true_eq];exact fun bK=>bN bK.2)];have ak:Sort.ltInt gT[first+r]! gT[first+(2*r+1)]! = true:=decide_eq_true bX;rw [ak]
      first
       | rfl
       | (rw [if_neg (by decide)];done)
       | (rw [if_neg (by decide),dif_pos (by omega)];done)
     ·simp only [rZ];rfl
    ·rw [decide_eq_false bX];(conv=>whnf);have e:Sort.siftDown Sort.ltInt hi first hE d=gT:=by
      rw [←he,Sort.siftDown.eq_1,dif_neg (by omega)];rw [if_neg (by simp only [Sort.ltInt,r_,decide_eq_true_eq];exact fun bK=>bN bK.2)];have ak:Sort.ltInt gT[first+r]! gT[first+(2*r+1)]! = false:=decide_eq_false bX;rw [ak];rfl
     rw [e];exact ⟨.inr rfl,⟨by simp,fun j o aw=>.inr aw⟩,rfl⟩
  ·rw [decide_eq_false a7];(conv=>whnf);rw [Jh];refine ⟨by omega,?_⟩;(conv=>whnf);refine DX (by first | exact gs _ | exact qa _ _ | assumption) ?_
   (conv=>whnf);refine qv (first+r) (by omega) (by omega) ?_;(conv=>whnf);rw [rv];refine ⟨by omega,?_⟩;(conv=>whnf);refine DX (by first | exact gs _ | exact qa _ _ | assumption) ?_
   (conv=>whnf);refine qv (first+(2*r+1)) (by omega) (by omega) ?_;(conv=>whnf);refine ⟨by first | rfl | simp only [sG,sM,GY,G6,GZ,G1,G0,G2,G8,G7,rQ,G3,G4,G5,sN,sL],_,HV gT[first+r]! gT[first+(2*r+1)]!,GX,?_⟩
   (conv=>whnf);by_cases bX:gT[first+r]!<gT[first+(2*r+1)]!
   ·rw [decide_eq_true bX];(conv=>whnf);rw [Jh,rv];refine ⟨by omega,?_⟩;(conv=>whnf);refine DX (by first | exact gs _ | exact qa _ _ | assumption) ?_
    (conv=>whnf);refine qv (first+(2*r+1)) (by omega) (by omega) ?_;(conv=>whnf);rw [Jh];refine ⟨by omega,?_⟩;(conv=>whnf);refine DX (by first | exact gs _ | exact qa _ _ | assumption) ?_
    (conv=>whnf);refine qv (first+r) (by omega) (by omega) ?_;(conv=>whnf);refine ⟨by omega,?_⟩;(conv=>whnf);rw [Cd];(conv=>whnf);refine DX (by first | exact gs _ | exact qa _ _ | assumption) ?_
    (conv=>whnf);refine rf (first+r) (by omega) (by first | omega | (simp only [sr];omega)) ?_
    (conv=>whnf);refine ⟨by omega,?_⟩;(conv=>whnf);rw [Cd];(conv=>whnf);refine DX (by first | exact gs _ | exact qa _ _ | assumption) ?_
    (conv=>whnf);refine rf (first+(2*r+1)) (by omega) (by first | omega | (simp only [sr];omega)) ?_
    (conv=>whnf);refine ⟨1001-(2*r+1),by omega,2*r+1,Sort.swp gT (first+r) (first+(2*r+1)),by omega,rfl,by rw [swp_size];exact Cn,?_,rfl,?_⟩
    ·rw [←he];(conv=>rhs;rw [Sort.siftDown.eq_1,dif_neg (by omega)]);rw [if_neg (by simp only [r_,decide_eq_true_eq];exact fun bK=>by omega)];have ak:Sort.ltInt gT[first+r]! gT[first+(2*r+1)]! = true:=decide_eq_true bX;rw [ak]
     first
      | rfl
      | (rw [if_neg (by decide)];done)
      | (rw [if_neg (by decide),dif_pos (by omega)];done)
    ·simp only [rZ];rfl
   ·rw [decide_eq_false bX];(conv=>whnf);have e:Sort.siftDown Sort.ltInt hi first hE d=gT:=by
     rw [←he,Sort.siftDown.eq_1,dif_neg (by omega)];rw [if_neg (by simp only [r_,decide_eq_true_eq];exact fun bK=>by omega)];have ak:Sort.ltInt gT[first+r]! gT[first+(2*r+1)]! = false:=decide_eq_false bX;rw [ak];rfl
    rw [e];exact ⟨.inr rfl,⟨by simp,fun j o aw=>.inr aw⟩,rfl⟩
end
end Go.Proofs.YtfakoboiahbhaaaGreat.Ab.Pq


namespace Go.Proofs.YtfakoboiahbhaaaGreat.Ab.Pq
open Go
set_option maxRecDepth 20000
set_option maxHeartbeats 4000000
theorem Uk (lt:Int→Int→Bool) (hi first:Nat):∀ (n root:Nat) (d:Array Int),hi-root≤n→(Sort.siftDown lt hi first root d).size=d.size
 | 0,root,d,h=>by rw [Sort.siftDown.eq_1,dif_pos (by omega)]
 | n+1,root,d,h=>by
   rw [Sort.siftDown.eq_1];split
   ·rfl
   ·split
    ·split
     ·rfl
     ·split
      ·rw [Uk lt hi first n _ _ (by omega),swp_size]
      ·rfl
    ·split
     ·rfl
     ·rw [Uk lt hi first n _ _ (by omega),swp_size]
theorem YP (lt:Int→Int→Bool) (hi first root:Nat) (d:Array Int):(Sort.siftDown lt hi first root d).size=d.size:=Uk lt hi first _ root d (rX _)
section
variable {H:List au} {id lo:Nat} (bF:lo≤id)
include bF
theorem aeM (d:Array Int) (a b:Nat) (a0:d.size≤1000) (cg:a≤b) (ag:b≤d.size) (ah:H[id]?=some (qe d)) :
  Sem Go.Proofs.Tryz.prog (.fn 116) [qk id d.size,hS a,hS b] H lo (.tuple []) (H.set id (qe (Sort.heapSort Sort.ltInt d a b))):=by
 have aE:=(rV.1 ah).1;refine JG dI afo rfl ⟨by simp,fun j ad af=>by rw [sa (by omega)]⟩ ?_;unfold X3;conv=>whnf
 have Cd:Nat.ble lo id=true:=sX bF;have gs:∀ c:au,(H.set id c)[id]?=some c:=fun c=>by rw [rY aE]
 have qa:∀ c e:au,((H.set id c).set id e)[id]?=some e:=fun c e=>by rw [rZ,gs]
 have w0:IntKind.i64.wrap ((b:Int)-(a:Int))=((b-a:Nat):Int):=by rw [qm _ (by omega) (by omega)];omega
 have bE:(IntKind.i64.wrap (((b-a:Nat):Int)-1)).tdiv 2=((((b-a-1) / 2+1:Nat):Int)-1):=by
  rw [qm _ (by omega) (by omega)];by_cases bo:b-a=0
  ·rw [bo];rfl
  ·rw [show ((b-a:Nat):Int)-1=((b-a-1:Nat):Int) by omega,show ((b-a-1:Nat):Int).tdiv 2=(((b-a-1) / 2:Nat):Int) from rfl];omega
 rw [w0];refine ⟨by decide,?_⟩;conv=>whnf
 rw [bE,qm _ (by omega) (by omega)];refine .intro (fun k T H'=>∃ gT,k≤1000∧gT.size=d.size∧Sort.heapBuild Sort.ltInt (b-a) a k gT=Sort.heapBuild Sort.ltInt (b-a) a ((b-a-1) / 2+1) d∧T=GH 56 [(0,qk id d.size),(6,hS a),(7,hS (0:Nat)),(8,hS (b-a:Nat)),(9,hS ((k:Int)-1))]∧H'=H.set id (qe gT)) ((b-a-1) / 2+1) ⟨d,by omega,rfl,rfl,rfl,?_⟩ ?_
 ·obtain ⟨ad,af⟩:=rV.1 ah;rw [←af,tC]
 rintro k T H' ⟨gT,av,Cn,he,rfl,rfl⟩;conv=>whnf
 by_cases h:(0:Int)≤(k:Int)-1
 ·rw [decide_eq_true h];obtain ⟨q,rfl⟩:∃ q,k=q+1:=⟨k-1,by omega⟩;have MW:((q+1:Nat):Int)-1=(q:Int):=by omega
  rw [MW];conv=>whnf
  refine ⟨_,_,qS (by rw [←Cn];exact YO bF gT q (b-a) a (by omega) (by omega) (by omega) (gs _)),?_⟩;conv=>whnf
  refine ⟨q,by omega,Sort.siftDown Sort.ltInt (b-a) a q gT,by omega,by rw [YP];exact Cn,by rw [←he];rfl,?_,by rw [rZ]⟩;rw [qm _ (by omega) (by omega)];rfl
 ·rw [decide_eq_false h];obtain rfl:k=0:=by omega
  rw [Sort.heapBuild] at he;conv=>whnf
  have bV:IntKind.i64.wrap (((b-a:Nat):Int)-1)=((b-a:Nat):Int)-1:=qm _ (by omega) (by omega);rw [bV];have kD:Sort.heapSort Sort.ltInt d a b=Sort.heapPop Sort.ltInt a (b-a) gT:=by rw [he];rfl
  rw [kD];refine .intro (fun k T H'=>∃ e,k≤b-a∧e.size=d.size∧Sort.heapPop Sort.ltInt a k e=Sort.heapPop Sort.ltInt a (b-a) gT∧T=GH 56 [(0,qk id d.size),(6,hS a),(7,hS (0:Nat)),(10,hS ((k:Int)-1))]∧H'=H.set id (qe e)) (b-a) ⟨gT,by omega,Cn,rfl,rfl,rfl⟩ ?_;rintro k T H' ⟨e,av,WU,R4,rfl,rfl⟩;conv=>whnf
  by_cases h:(0:Int)≤(k:Int)-1
  ·rw [decide_eq_true h];obtain ⟨q,rfl⟩:∃ q,k=q+1:=⟨k-1,by omega⟩;(have MW:((q+1:Nat):Int)-1=(q:Int):=by omega);(have rv:IntKind.i64.wrap ((a:Int)+(q:Int))=((a+q:Nat):Int):=by rw [qm _ (by omega) (by omega)];omega);rw [MW];(conv=>whnf);rw [rv];refine ⟨by omega,?_⟩;(conv=>whnf);refine DX (by first | exact gs _ | exact qa _ _ | assumption) ?_
   (conv=>whnf);refine qv (a+q) (by omega) (by omega) ?_;(conv=>whnf);refine ⟨by omega,?_⟩;(conv=>whnf);refine DX (by first | exact gs _ | exact qa _ _ | assumption) ?_
   (conv=>whnf);refine qv (a) (by omega) (by omega) ?_;(conv=>whnf);refine ⟨by omega,?_⟩;(conv=>whnf);rw [Cd];(conv=>whnf);refine DX (by first | exact gs _ | exact qa _ _ | assumption) ?_
   (conv=>whnf);refine rf (a) (by omega) (by first | omega | (simp only [sr];omega)) ?_
   (conv=>whnf);refine ⟨by omega,?_⟩;(conv=>whnf);rw [Cd];(conv=>whnf);refine DX (by first | exact gs _ | exact qa _ _ | assumption) ?_
   (conv=>whnf);refine rf (a+q) (by omega) (by first | omega | (simp only [sr];omega)) ?_
   (conv=>whnf);simp only [rZ];refine ⟨_,_,qS (by rw [show d.size=(Sort.swp e a (a+q)).size by rw [swp_size];exact WU.symm];exact YO bF (Sort.swp e a (a+q)) 0 q a (by rw [swp_size];omega) (by omega) (by rw [swp_size];omega) (gs _)),?_⟩;(conv=>whnf);refine ⟨q,by omega,Sort.siftDown Sort.ltInt q a 0 (Sort.swp e a (a+q)),by omega,by rw [YP,swp_size];exact WU,by rw [←R4];rfl,?_,by rw [rZ]⟩;rw [qm _ (by omega) (by omega)];rfl
  ·rw [decide_eq_false h];(obtain rfl:k=0:=by omega);rw [Sort.heapPop] at R4;(conv=>whnf);rw [←R4];exact ⟨.inl rfl,⟨by simp,fun j o aw=>.inr aw⟩,rfl⟩
end
end Go.Proofs.YtfakoboiahbhaaaGreat.Ab.Pq


namespace Go.Proofs.YtfakoboiahbhaaaGreat.Ab.Pq
open Go
set_option maxRecDepth 20000
set_option maxHeartbeats 4000000
theorem JY (d:Array Int) (i j:Nat):au.cells (((d.setIfInBounds i d[j]!).setIfInBounds j d[i]!).toList.map hS)=qe (Sort.swp d i j):=rfl
section
variable {H:List au} {id lo:Nat} (bF:lo≤id)
include bF
theorem ahR (d:Array Int) (a b:Nat) (a0:d.size≤1000) (cg:a<b) (ag:b≤d.size) (ah:H[id]?=some (qe d)) :
  Sem Go.Proofs.Tryz.prog (.fn 119) [qk id d.size,hS a,hS b] H lo (.tuple []) (H.set id (qe (Sort.reverseRange d a b))):=by
 have aE:=(rV.1 ah).1;refine rH dI afr rfl ⟨by simp,fun j ad af=>by rw [sa (by omega)]⟩ fun Q bn=>?_;unfold X6 X7;obtain ⟨bm,b_⟩:∃ c,S_=c:=⟨_,rfl⟩;rw [b_];conv=>whnf
 have Cd:Nat.ble lo id=true:=sX bF;have gs:∀ c:au,(H.set id c)[id]?=some c:=fun c=>by rw [rY aE]
 have qa:∀ c e:au,((H.set id c).set id e)[id]?=some e:=fun c e=>by rw [rZ,gs]
 rw [show IntKind.i64.wrap ((b:Int)-1)=((b-1:Nat):Int) by rw [qm _ (by omega) (by omega)];omega];refine .intro (fun m T H'=>∃ i j gT,m=j-i∧j<d.size∧i≤j+1∧gT.size=d.size∧Sort.reverseLoop i j gT=Sort.reverseRange d a b∧T=GH 32 [(0,qk id d.size),(6,hS (i:Nat)),(7,hS (j:Nat))]∧H'=H.set id (qe gT)) (b-1-a) ⟨a,b-1,d,rfl,by omega,by omega,rfl,rfl,rfl,?_⟩ ?_
 ·obtain ⟨ad,af⟩:=rV.1 ah;rw [←af,tC]
 rintro m T H' ⟨i,j,gT,rfl,aw,gZ,Cn,he,rfl,rfl⟩;conv=>whnf
 by_cases h:(i:Int)<(j:Int)
 ·rw [decide_eq_true h];subst b_;unfold S_;obtain ⟨ba,cd⟩:∃ c,S9=c:=⟨_,rfl⟩;rw [cd];conv=>whnf
  refine ⟨by omega,?_⟩;conv=>whnf
  refine DX (by first | exact gs _ | exact qa _ _ | assumption) ?_
  conv=>whnf
  refine qv (j) (by omega) (by omega) ?_;conv=>whnf
  refine ⟨by omega,?_⟩;conv=>whnf
  refine DX (by first | exact gs _ | exact qa _ _ | assumption) ?_
  conv=>whnf
  refine qv (i) (by omega) (by omega) ?_;conv=>whnf
  refine ⟨by omega,?_⟩;conv=>whnf
  rw [Cd];conv=>whnf
  refine DX (by first | exact gs _ | exact qa _ _ | assumption) ?_
  conv=>whnf
  refine rf (i) (by omega) (by first | omega | (simp only [sr];omega)) ?_
  conv=>whnf
  refine ⟨by omega,?_⟩;conv=>whnf
  rw [Cd];conv=>whnf
  refine DX (by first | exact gs _ | exact qa _ _ | assumption) ?_
  conv=>whnf
  refine rf (j) (by omega) (by first | omega | (simp only [sr];omega)) ?_
  conv=>whnf
  subst cd;unfold S9;rw [rZ,rZ,JY];conv=>whnf
  refine ⟨j-1-(i+1),by omega,i+1,j-1,Sort.swp gT i j,rfl,by omega,by omega,by rw [swp_size];exact Cn,?_,?_,rfl⟩
  ·rw [←he,Sort.reverseLoop.eq_1 i j,if_pos (by omega)]
  ·rw [←qU i (by omega),show ((j-1:Nat):Int)=IntKind.i64.wrap ((j:Int)-1) by rw [qm _ (by omega) (by omega)];omega];rfl
 ·rw [decide_eq_false h];conv=>whnf
  have e:Sort.reverseRange d a b=gT:=by rw [←he,Sort.reverseLoop.eq_1,if_neg (by omega)]
  rw [e] at bn;exact bn _ _ _ ⟨.inl rfl,⟨by simp,fun j o aw=>.inr aw⟩,rfl⟩
omit bF in
theorem Ui (j:Nat):∀ d:Array Int,(Sort.shiftDown Sort.ltInt j d).size=d.size:=by
 induction j with
 | zero=>intro d;rfl
 | succ j a'=>intro d;rw [Sort.shiftDown];split
              ·rfl
              ·rw [a',swp_size]
omit bF in
theorem Uj (b:Nat):∀ (m j:Nat) (d:Array Int),b-j≤m→(Sort.shiftUp Sort.ltInt b j d).size=d.size
 | 0,j,d,h=>by rw [Sort.shiftUp,if_neg (by omega)]
 | m+1,j,d,h=>by
   rw [Sort.shiftUp];split
   ·split
    ·rfl
    ·rw [Uj b m _ _ (by omega),swp_size]
   ·rfl
omit bF in
theorem ah9 (aE:id<H.length) (d:Array Int) (a b i c n:Nat) (a0:d.size≤1000) (aN:d.size=n) (cg:a+1≤i) (hi:i≤b) (ag:b≤d.size) {T:List I} (bZ:qV 133 [(0,qk id n),(1,hS a),(2,hS b),(7,hS (i:Nat)),(8,hS (c:Nat))] T) (Q:cD→List I→List au→Prop)
  (k:∀ (q:Nat) (p9:List I),i≤q→q≤b→Sort.scanSorted Sort.ltInt d b i=q→qV 133 [(0,qk id n),(1,hS a),(2,hS b),(7,hS (q:Nat)),(8,hS (c:Nat))] p9→Q .normal p9 (H.set id (qe d))) :
  dC Go.Proofs.Tryz.prog Mx 120 lo none PV T (H.set id (qe d)) Q:=by
 obtain ⟨u,rfl⟩:=bZ.ex;have gs:∀ c:au,(H.set id c)[id]?=some c:=fun c=>by rw [rY aE]
 unfold PV;conv=>whnf
 refine .intro (fun m T H'=>∃ q,i≤q∧q≤b∧m=b-q∧Sort.scanSorted Sort.ltInt d b q=Sort.scanSorted Sort.ltInt d b i∧T=GH 133 [(0,qk id n),(1,hS a),(2,hS b),(7,hS (q:Nat)),(8,hS (c:Nat))]∧H'=H.set id (qe d)) (b-i) ⟨i,rX _,hi,rfl,rfl,rfl,rfl⟩ ?_;rintro m T H' ⟨q,Jq,CX,rfl,he,rfl,rfl⟩;unfold X9;conv=>whnf
 by_cases h:(q:Int)<(b:Int)
 ·rw [decide_eq_true h];conv=>whnf
  refine ⟨by omega,?_⟩;conv=>whnf
  refine DX (by first | exact gs _ | exact qa _ _ | assumption) ?_
  conv=>whnf
  refine qv (q) (by omega) (by omega) ?_;conv=>whnf
  rw [show IntKind.i64.wrap ((q:Int)-1)=((q-1:Nat):Int) by rw [qm _ (by omega) (by omega)];omega];refine ⟨by omega,?_⟩;conv=>whnf
  refine DX (by first | exact gs _ | exact qa _ _ | assumption) ?_
  conv=>whnf
  refine qv (q-1) (by omega) (by omega) ?_;conv=>whnf
  refine ⟨by first | rfl | simp only [sG,sM,GY,G6,GZ,G1,G0,G2,G8,G7,rQ,G3,G4,G5,sN,sL],_,HV d[q]! d[q-1]!,GX,?_⟩
  conv=>whnf
  by_cases bN:d[q]!<d[q-1]!
  ·rw [decide_eq_true bN];(conv=>whnf);have e:Sort.scanSorted Sort.ltInt d b i=q:=by
    rw [←he,Sort.scanSorted.eq_1,if_neg (by simp only [Sort.ltInt,r_,decide_eq_true_eq,ta,decide_eq_false_iff_not];exact fun bK=>bK.2 bN)]
   exact k q _ Jq CX e ⟨rfl,rfl⟩
  ·rw [decide_eq_false bN];(conv=>whnf);refine ⟨b-(q+1),by omega,q+1,by omega,by omega,rfl,?_,by rw [←qU q (by omega)];rfl,rfl⟩;rw [←he,Sort.scanSorted.eq_1 _ _ _ q,if_pos (by simp only [Sort.ltInt,r_,decide_eq_true_eq,ta,decide_eq_false_iff_not];exact ⟨by omega,bN⟩)]
 ·rw [decide_eq_false h];conv=>whnf
  have e:Sort.scanSorted Sort.ltInt d b i=q:=by
   rw [←he,Sort.scanSorted.eq_1,if_neg (by simp only [r_,decide_eq_true_eq];exact fun bK=>by omega)]
  exact k q _ Jq CX e ⟨rfl,rfl⟩
theorem aja (aE:id<H.length) (d:Array Int) (a b i c n:Nat) (a0:d.size≤1000) (aN:d.size=n) (cg:a+1≤i) (hi:i<b) (ag:b≤d.size) {T:List I} (bZ:qV 133 [(0,qk id n),(1,hS a),(2,hS b),(7,hS (i:Nat)),(8,hS (c:Nat))] T) (Q:cD→List I→List au→Prop)
  (k:∀ (p9:List I),qV 133 [(0,qk id n),(1,hS a),(2,hS b),(7,hS (i:Nat)),(8,hS (c:Nat))] p9→Q .normal p9 (H.set id (qe (if b-i≥2 then Sort.shiftUp Sort.ltInt b (i+1) d else d)))) :
  dC Go.Proofs.Tryz.prog Mx 120 lo none N9 T (H.set id (qe d)) Q:=by
 obtain ⟨u,rfl⟩:=bZ.ex;have Cd:Nat.ble lo id=true:=sX bF;have gs:∀ c:au,(H.set id c)[id]?=some c:=fun c=>by rw [rY aE]
 have qa:∀ c e:au,((H.set id c).set id e)[id]?=some e:=fun c e=>by rw [rZ,gs]
 unfold N9;obtain ⟨m3,rA⟩:∃ c,Tk=c:=⟨_,rfl⟩;rw [rA];conv=>whnf
 rw [qm _ (by omega) (by omega)];by_cases af:(2:Int)≤(b:Int)-(i:Int)
 ·rw [decide_eq_true af];rw [if_pos (by omega)] at k;conv=>whnf
  rw [qU i (by omega)];refine .intro (fun m T H'=>∃ (j:Nat) (qA:Array Int),i+1≤j∧j≤b∧m=b-j∧qA.size=n∧Sort.shiftUp Sort.ltInt b j qA=Sort.shiftUp Sort.ltInt b (i+1) d∧T=GH 133 [(0,qk id n),(1,hS a),(2,hS b),(7,hS (i:Nat)),(8,hS (c:Nat)),(10,hS (j:Nat))]∧H'=H.set id (qe qA)) (b-(i+1)) ⟨i+1,d,rX _,by omega,rfl,aN,rfl,rfl,rfl⟩ ?_;rintro m T H' ⟨j,qA,h1,fm,rfl,Cn,he,rfl,rfl⟩;subst rA;unfold Tk;obtain ⟨m2,Hd⟩:∃ c,Tj=c:=⟨_,rfl⟩;rw [Hd];conv=>whnf
  by_cases h:(j:Int)<(b:Int)
  ·rw [decide_eq_true h];subst Hd;unfold Tj;obtain ⟨fR,rJ⟩:∃ c,Ti=c:=⟨_,rfl⟩;rw [rJ];(conv=>whnf);refine ⟨by omega,?_⟩;(conv=>whnf);refine DX (by first | exact gs _ | exact qa _ _ | assumption) ?_
   (conv=>whnf);refine qv (j) (by omega) (by omega) ?_;(conv=>whnf);rw [show IntKind.i64.wrap ((j:Int)-1)=((j-1:Nat):Int) by rw [qm _ (by omega) (by omega)];omega];refine ⟨by omega,?_⟩;(conv=>whnf);refine DX (by first | exact gs _ | exact qa _ _ | assumption) ?_
   (conv=>whnf);refine qv (j-1) (by omega) (by omega) ?_;(conv=>whnf);refine ⟨by first | rfl | simp only [sG,sM,GY,G6,GZ,G1,G0,G2,G8,G7,rQ,G3,G4,G5,sN,sL],_,HV qA[j]! qA[j-1]!,GX,?_⟩
   (conv=>whnf);by_cases bN:qA[j]!<qA[j-1]!
   ·rw [decide_eq_true bN];(conv=>whnf);subst rJ;unfold Ti;(conv=>whnf);rw [show IntKind.i64.wrap ((j:Int)-1)=((j-1:Nat):Int) by rw [qm _ (by omega) (by omega)];omega];refine ⟨by omega,?_⟩;(conv=>whnf);refine DX (by first | exact gs _ | exact qa _ _ | assumption) ?_
    (conv=>whnf);refine qv (j-1) (by omega) (by omega) ?_;(conv=>whnf);refine ⟨by omega,?_⟩;(conv=>whnf);refine DX (by first | exact gs _ | exact qa _ _ | assumption) ?_
    (conv=>whnf);refine qv (j) (by omega) (by omega) ?_;(conv=>whnf);refine ⟨by omega,?_⟩;(conv=>whnf);rw [Cd];(conv=>whnf);refine DX (by first | exact gs _ | exact qa _ _ | assumption) ?_
    (conv=>whnf);refine rf (j) (by omega) (by first | omega | (simp only [sr];omega)) ?_
    (conv=>whnf);refine ⟨by omega,?_⟩;(conv=>whnf);rw [Cd];(conv=>whnf);refine DX (by first | exact gs _ | exact qa _ _ | assumption) ?_
    (conv=>whnf);refine rf (j-1) (by omega) (by first | omega | (simp only [sr];omega)) ?_
    (conv=>whnf);refine ⟨b-(j+1),by omega,j+1,Sort.swp qA j (j-1),by omega,by omega,rfl,by rw [swp_size];exact Cn,?_,by rw [←qU j (by omega)];rfl,by rw [rZ,rZ];rfl⟩;rw [←he,Sort.shiftUp.eq_1 _ _ j,if_pos (by omega),if_neg (by simp only [Sort.ltInt,ta,decide_eq_false_iff_not];exact fun bK=>bK bN)]
   ·rw [decide_eq_false bN];(conv=>whnf);have e:Sort.shiftUp Sort.ltInt b (i+1) d=qA:=by
     rw [←he,Sort.shiftUp.eq_1,if_pos (by omega),if_pos (by simp only [Sort.ltInt,ta,decide_eq_false_iff_not];exact bN)]
    rw [e] at k;exact k _ ⟨rfl,rfl⟩
  ·rw [decide_eq_false h];(conv=>whnf);have e:Sort.shiftUp Sort.ltInt b (i+1) d=qA:=by
    rw [←he,Sort.shiftUp.eq_1,if_neg (by omega)]
   rw [e] at k;exact k _ ⟨rfl,rfl⟩
 ·rw [decide_eq_false af];rw [if_neg (by omega)] at k;conv=>whnf
  exact k _ ⟨rfl,rfl⟩
theorem ad9 (aE:id<H.length) (d:Array Int) (a b i c n:Nat) (a0:d.size≤1000) (aN:d.size=n) (cg:a+1≤i) (hi:i<b) (ag:b≤d.size) {T:List I} (bZ:qV 133 [(0,qk id n),(1,hS a),(2,hS b),(7,hS (i:Nat)),(8,hS (c:Nat))] T) (Q:cD→List I→List au→Prop)
  (k:∀ (p9:List I) (d2:Array Int),d2=(if b-i≥2 then Sort.shiftUp Sort.ltInt b (i+1) (if i-a≥2 then Sort.shiftDown Sort.ltInt (i-1) d else d) else (if i-a≥2 then Sort.shiftDown Sort.ltInt (i-1) d else d))→qV 133 [(0,qk id n),(1,hS a),(2,hS b),(7,hS (i:Nat)),(8,hS (c:Nat))] p9→Q .normal p9 (H.set id (qe d2))) :
  dC Go.Proofs.Tryz.prog Mx 120 lo none PU T (H.set id (qe d)) Q:=by
 obtain ⟨u,rfl⟩:=bZ.ex;have Cd:Nat.ble lo id=true:=sX bF;have gs:∀ c:au,(H.set id c)[id]?=some c:=fun c=>by rw [rY aE]
 have qa:∀ c e:au,((H.set id c).set id e)[id]?=some e:=fun c e=>by rw [rZ,gs]
 have aP:∀ (T:List I) (d1:Array Int),d1=(if i-a≥2 then Sort.shiftDown Sort.ltInt (i-1) d else d)→qV 133 [(0,qk id n),(1,hS a),(2,hS b),(7,hS (i:Nat)),(8,hS (c:Nat))] T→dC Go.Proofs.Tryz.prog Mx 120 lo none N9 T (H.set id (qe d1)) Q:=fun T d1 ad bZ=>by
  have ai:d1.size=d.size:=by
   rw [ad];split
   ·exact Ui _ _
   ·rfl
  exact aja bF aE d1 a b i c n (by omega) (by omega) cg hi (by omega) bZ Q fun p9 qs=>k p9 _ (by rw [ad]) qs
 unfold PU;obtain ⟨BI,H9⟩:∃ c,N9=c:=⟨_,rfl⟩;obtain ⟨dX,B2⟩:∃ c,Th=c:=⟨_,rfl⟩;rw [H9] at aP;rw [H9,B2];conv=>whnf
 rw [qm _ (by omega) (by omega)];by_cases af:(2:Int)≤(i:Int)-(a:Int)
 ·rw [decide_eq_true af];rw [if_pos (by omega)] at aP;conv=>whnf
  rw [show IntKind.i64.wrap ((i:Int)-1)=((i-1:Nat):Int) by rw [qm _ (by omega) (by omega)];omega];refine .intro (fun m T H'=>∃ (j:Nat) (qA:Array Int),j≤i-1∧m=j∧qA.size=n∧Sort.shiftDown Sort.ltInt j qA=Sort.shiftDown Sort.ltInt (i-1) d∧T=GH 133 [(0,qk id n),(1,hS a),(2,hS b),(7,hS (i:Nat)),(8,hS (c:Nat)),(9,hS (j:Nat))]∧H'=H.set id (qe qA)) (i-1) ⟨i-1,d,rX _,rfl,aN,rfl,rfl,rfl⟩ ?_;rintro m T H' ⟨j,qA,h1,rfl,Cn,he,rfl,rfl⟩;subst B2;unfold Th;obtain ⟨b9,hq⟩:∃ c,Tg=c:=⟨_,rfl⟩;rw [hq];conv=>whnf
  by_cases h:(1:Int)≤(m:Int)
  ·rw [decide_eq_true h];obtain ⟨q,rfl⟩:∃ q,m=q+1:=⟨m-1,by omega⟩;(have hw:IntKind.i64.wrap (((q+1:Nat):Int)-1)=(q:Int):=by rw [qm _ (by omega) (by omega)];omega);subst hq;unfold Tg;obtain ⟨bt,dZ⟩:∃ c,Tf=c:=⟨_,rfl⟩;rw [dZ];(conv=>whnf);refine ⟨by omega,?_⟩;(conv=>whnf);refine DX (by first | exact gs _ | exact qa _ _ | assumption) ?_
   (conv=>whnf);refine qv (q+1) (by omega) (by omega) ?_;(conv=>whnf);rw [hw];refine ⟨by omega,?_⟩;(conv=>whnf);refine DX (by first | exact gs _ | exact qa _ _ | assumption) ?_
   (conv=>whnf);refine qv (q) (by omega) (by omega) ?_;(conv=>whnf);refine ⟨by first | rfl | simp only [sG,sM,GY,G6,GZ,G1,G0,G2,G8,G7,rQ,G3,G4,G5,sN,sL],_,HV qA[q+1]! qA[q]!,GX,?_⟩
   (conv=>whnf);by_cases bN:qA[q+1]!<qA[q]!
   ·rw [decide_eq_true bN];(conv=>whnf);subst dZ;unfold Tf;(conv=>whnf);rw [hw];refine ⟨by omega,?_⟩;(conv=>whnf);refine DX (by first | exact gs _ | exact qa _ _ | assumption) ?_
    (conv=>whnf);refine qv (q) (by omega) (by omega) ?_;(conv=>whnf);refine ⟨by omega,?_⟩;(conv=>whnf);refine DX (by first | exact gs _ | exact qa _ _ | assumption) ?_
    (conv=>whnf);refine qv (q+1) (by omega) (by omega) ?_;(conv=>whnf);refine ⟨by omega,?_⟩;(conv=>whnf);rw [Cd];(conv=>whnf);refine DX (by first | exact gs _ | exact qa _ _ | assumption) ?_
    (conv=>whnf);refine rf (q+1) (by omega) (by first | omega | (simp only [sr];omega)) ?_
    (conv=>whnf);refine ⟨by omega,?_⟩;(conv=>whnf);rw [Cd];(conv=>whnf);refine DX (by first | exact gs _ | exact qa _ _ | assumption) ?_
    (conv=>whnf);refine rf (q) (by omega) (by first | omega | (simp only [sr];omega)) ?_
    (conv=>whnf);refine ⟨q,by omega,q,Sort.swp qA (q+1) q,by omega,rfl,by rw [swp_size];exact Cn,?_,by rw [hw];rfl,by rw [rZ,rZ];rfl⟩;rw [←he,Sort.shiftDown,if_neg (by simp only [Sort.ltInt,ta,decide_eq_false_iff_not];exact fun bK=>bK bN)]
   ·rw [decide_eq_false bN];(conv=>whnf);have e:Sort.shiftDown Sort.ltInt (i-1) d=qA:=by
     rw [←he,Sort.shiftDown,if_pos (by simp only [Sort.ltInt,ta,decide_eq_false_iff_not];exact bN)]
    rw [e] at aP;exact aP _ _ rfl ⟨rfl,rfl⟩
  ·rw [decide_eq_false h];(conv=>whnf);(obtain rfl:m=0:=by omega);(have e:Sort.shiftDown Sort.ltInt (i-1) d=qA:=by rw [←he];rfl);rw [e] at aP;exact aP _ _ rfl ⟨rfl,rfl⟩
 ·rw [decide_eq_false af];rw [if_neg (by omega)] at aP;conv=>whnf
  exact aP _ _ rfl ⟨rfl,rfl⟩
theorem agN (d:Array Int) (a b:Nat) (a0:d.size≤1000) (cg:a<b) (ag:b≤d.size) (ah:H[id]?=some (qe d)) :
  Sem Go.Proofs.Tryz.prog (.fn 120) [qk id d.size,hS a,hS b] H lo (B (Sort.partialInsertionSort Sort.ltInt d a b).2) (H.set id (qe (Sort.partialInsertionSort Sort.ltInt d a b).1)):=by
 have aE:=(rV.1 ah).1;have Cd:Nat.ble lo id=true:=sX bF;have gs:∀ c:au,(H.set id c)[id]?=some c:=fun c=>by rw [rY aE]
 have qa:∀ c e:au,((H.set id c).set id e)[id]?=some e:=fun c e=>by rw [rZ,gs]
 refine rH dI afs rfl ⟨by simp,fun j ad af=>by rw [sa (by omega)]⟩ fun Q bn=>?_;unfold X8 X_;obtain ⟨V7,Jn⟩:∃ c,Te=c:=⟨_,rfl⟩;rw [Jn];conv=>whnf
 rw [qU a (by omega)];generalize jz:Sort.partialInsertionSort Sort.ltInt d a b=R at bn;refine .intro (fun m T H'=>∃ (c i:Nat) (gT:Array Int),c≤5∧a+1≤i∧i≤b∧m=5-c∧gT.size=d.size∧Sort.partialIns Sort.ltInt a b (5-c) i gT=R∧T=GH 133 [(0,qk id d.size),(1,hS a),(2,hS b),(7,hS (i:Nat)),(8,hS (c:Nat))]∧H'=H.set id (qe gT)) 5 ⟨0,a+1,d,by omega,by omega,by omega,rfl,rfl,jz,rfl,?_⟩ ?_
 ·obtain ⟨ad,af⟩:=rV.1 ah;rw [←af,tC]
 rintro m T H' ⟨c,i,gT,alP,HK,Pt,rfl,Cn,he,rfl,rfl⟩;subst Jn;unfold Te;obtain ⟨V6,J3⟩:∃ c,Td=c:=⟨_,rfl⟩;rw [J3];conv=>whnf
 by_cases ao:(c:Int)<5
 ·rw [decide_eq_true ao];rw [show 5-c=(4-c)+1 by omega,Sort.partialIns] at he;subst J3;unfold Td;obtain ⟨bm,b_⟩:∃ c,PV=c:=⟨_,rfl⟩;obtain ⟨V5,Kr⟩:∃ c,Tc=c:=⟨_,rfl⟩;rw [b_,Kr];conv=>whnf
  subst b_;refine ah9 aE gT a b i c d.size (by omega) Cn HK Pt (by omega) ⟨rfl,rfl⟩ _ fun q p9 Jq CX a4 qs=>?_;obtain ⟨u,rfl⟩:=qs.ex;rw [a4] at he;conv=>whnf
  subst Kr;unfold Tc;obtain ⟨Rw,Jm⟩:∃ c,Tb=c:=⟨_,rfl⟩;rw [Jm];conv=>whnf
  by_cases W5:(q:Int)=(b:Int)
  ·rw [decide_eq_true W5];(conv=>whnf);rw [if_pos (by omega)] at he;exact bn _ _ _ ⟨.inr rfl,by rw [←he];exact ⟨by simp,fun j o aw=>.inr aw⟩,by rw [←he];rfl⟩
  rw [decide_eq_false W5];rw [if_neg (by omega)] at he;conv=>whnf
  subst Jm;unfold Tb;obtain ⟨Rv,Jl⟩:∃ c,Ta=c:=⟨_,rfl⟩;rw [Jl];conv=>whnf
  rw [qm _ (by omega) (by omega)];by_cases NC:(b:Int)-(a:Int)<50
  ·rw [decide_eq_true NC];(conv=>whnf);rw [if_pos (by omega)] at he;exact bn _ _ _ ⟨.inr rfl,by rw [←he];exact ⟨by simp,fun j o aw=>.inr aw⟩,by rw [←he];rfl⟩
  rw [decide_eq_false NC];rw [if_neg (by omega)] at he;conv=>whnf
  subst Jl;unfold Ta;obtain ⟨Ru,I0⟩:∃ c,PU=c:=⟨_,rfl⟩;rw [I0];conv=>whnf
  rw [show IntKind.i64.wrap ((q:Int)-1)=((q-1:Nat):Int) by rw [qm _ (by omega) (by omega)];omega];refine ⟨by omega,?_⟩;conv=>whnf
  refine DX (by first | exact gs _ | exact qa _ _ | assumption) ?_
  conv=>whnf
  refine qv (q-1) (by omega) (by omega) ?_;conv=>whnf
  refine ⟨by omega,?_⟩;conv=>whnf
  refine DX (by first | exact gs _ | exact qa _ _ | assumption) ?_
  conv=>whnf
  refine qv (q) (by omega) (by omega) ?_;conv=>whnf
  refine ⟨by omega,?_⟩;conv=>whnf
  rw [Cd];conv=>whnf
  refine DX (by first | exact gs _ | exact qa _ _ | assumption) ?_
  conv=>whnf
  refine rf (q) (by omega) (by first | omega | (simp only [sr];omega)) ?_
  conv=>whnf
  refine ⟨by omega,?_⟩;conv=>whnf
  rw [Cd];conv=>whnf
  refine DX (by first | exact gs _ | exact qa _ _ | assumption) ?_
  conv=>whnf
  refine rf (q-1) (by omega) (by first | omega | (simp only [sr];omega)) ?_
  conv=>whnf
  subst I0;rw [rZ,rZ,JY];refine ad9 bF aE (Sort.swp gT q (q-1)) a b q c d.size (by rw [swp_size];omega) (by rw [swp_size];exact Cn) (by omega) (by omega) (by rw [swp_size];omega) ⟨rfl,rfl⟩ _ fun p9 d2 I3 qs=>?_;obtain ⟨u,rfl⟩:=qs.ex;have dN:d2.size=d.size:=by
   rw [I3];have e1:∀ x:Array Int,(if b-q≥2 then Sort.shiftUp Sort.ltInt b (q+1) x else x).size=x.size:=fun x=>by
    split
    ·exact Uj _ _ _ _ (rX _)
    ·rfl
   rw [e1];split
   ·rw [Ui,swp_size];exact Cn
   ·rw [swp_size];exact Cn
  have R3:Sort.partialIns Sort.ltInt a b (4-c) q d2=R:=by rw [I3];exact he
  conv=>whnf
  exact ⟨5-(c+1),by omega,c+1,q,d2,by omega,by omega,CX,rfl,dN,by rw [←R3,show 5-(c+1)=4-c by omega],by rw [←qU c (by omega)];rfl,rfl⟩
 ·rw [decide_eq_false ao];obtain rfl:c=5:=by omega
  conv=>whnf
  have he:(gT,false)=R:=he;exact bn _ _ _ ⟨.inr rfl,by rw [←he];exact ⟨by simp,fun j o aw=>.inr aw⟩,by rw [←he];rfl⟩
end
end Go.Proofs.YtfakoboiahbhaaaGreat.Ab.Pq
