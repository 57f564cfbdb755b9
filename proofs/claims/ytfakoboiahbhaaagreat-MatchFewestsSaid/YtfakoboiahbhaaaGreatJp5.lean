
import Derived.Test.YtfakoboiahbhaaaGreatJp4
import Derived.KernelRfl
import Derived.Test.YtfakoboiahbhaaaGreatJp3
set_option linter.unusedSimpArgs false
set_option linter.unusedVariables false
set_option linter.unusedSectionVars false

namespace Go.Proofs.YtfakoboiahbhaaaGreat.Ab
open Go
set_option maxRecDepth 20000
set_option maxHeartbeats 4000000
noncomputable def PA:eM :=
 .loop (some (DX false [0,2,5,2,10])) (FY [gO 9 [.sl 8,.sl 7] (.bin .lss)] (.seq (.cond (.sl 9) .skip (.exit 0)) (.seq (.block 1 (FY [FN 10 8,FO 5 10] (FY [FN 11 1,FN 12 0,FN 13 5,FH 14 12 13 1,FL 15 14,gO 16 [.sl 11,.sl 15] (.call 6)] (.cond (.sl 16) (FY [FO 17 5,FO 4 17] .ret) .skip)))) (FR [Fk 18 8 1,FO 8 18]))))
noncomputable def ZM:eM :=
 FY [FM 4 0] (.seq (FY [FN 6 0,FK 7 6,FM 8 0] (.block 0 PA)) (FY [FM 4 (-1)] .ret))
theorem aeB:yQ Tryz.prog Qe 114=some (ZM,19,[.tmp 4]):=by kernel_rfl
def KG (s:qa) (f:(Int→Option Bool)) (qh:Unit→Option Int):Nat→Int→Option Int
 | 0,_=>none
 | m+1,s1 =>
   if (decide (s1<(s.length:Int)))=true then
    qd (0≤s1∧s1<(s.length:Int)) <|
    (f (ix s s1)).bind fun aR =>
    if aR=true then
     some s1
    else
     KG s f qh m (w (s1+(1:Int)))
   else
    qh ()
def LW (s:qa) (f:(Int→Option Bool)):Option Int :=
 KG s f (fun _ =>
   some (-1:Int)) p' (0:Int)
theorem aiL {s:qa} {f:(Int→Option Bool)} {qh:Unit→Option Int} {s1:Int} {rQ:FuncId} {re:List I} (r6:sg re) (G4:∀ (qR:Int) (r:Bool),f qR=some r→qC rQ ((hG qR)::re) (B r)) {v:Int} {Q:ra}   (lj:qE [.tmp 4] Q (fun v=>(hG v)) v) (rf:∀ (p_:List I),qh ()=some v→qV 19 [] p_→Q (.exit 0) p_ []) {T:List I} (bW:eL (DX false [0,2,5,2,10]) T=F2 19 [(0,(qq s .shared)),(1,(.func rQ [] re)),(7,(hG (s.length:Int))),(8,(hG s1))]) (h:KG s f qh p' s1=some v) :
  dB Tryz.prog Qe 114 0 none PA T [] Q:=by
 unfold PA;refine wp_loop bW ?_;refine .intro (fun m T H=>∃ (s1:Int),T=F2 19 [(0,(qq s .shared)),(1,(.func rQ [] re)),(7,(hG (s.length:Int))),(8,(hG s1))]∧H=[]∧KG s f qh m s1=some v) p' ⟨s1,rfl,rfl,h⟩ ?_;clear h bW;rintro m T H ⟨s1,rfl,rfl,h⟩;cases m
 ·exact q3 h
 rename_i m;rw [KG.eq_2] at h;conv=>whnf
 refine bs h (fun eQ h=>?_) fun eQ h=>?_
 ·rw [eQ];conv=>whnf
  refine qy h id fun fi h=>?_;rw [rA hG s s1 fi];conv=>whnf
  obtain ⟨aR,qu,h⟩:=qi h;refine ⟨_,_,call6 (bs:=((hG (ix s s1))::re)) (by simp only [List.map_cons,r6.h6,r6.cm];rfl) (by simp only [List.map_cons,r6.h6];exact (p5 rfl r6.Lk)) (G4 _ _ qu) rfl,?_⟩;conv=>whnf
  cases aR
  ·(conv=>whnf);replace h:=r5 rfl h;exact ⟨m,Nat.lt_succ_self m,(w (s1+(1:Int))),rfl,rfl,h⟩
  ·(conv=>whnf);replace h:=r4 rfl h;exact qj h lj rfl rfl
 ·rw [eQ];conv=>whnf
  exact rf  _ h ⟨rfl,rfl⟩
theorem Th {s:qa} {f:(Int→Option Bool)} {rQ:FuncId} {re:List I} (r6:sg re) (G4:∀ (qR:Int) (r:Bool),f qR=some r→qC rQ ((hG qR)::re) (B r)) {v:Int} (h:LW s f=some v):qC 114 [(.ax (s.map hG) s.length .shared),(.func rQ [] re)] (hG v):=by
 refine qN dD aeB rfl rfl fun Q bz=>?_;have lj:qE [.tmp 4] Q (fun v=>(hG v)) v:=fun T H bJ=>bz _ T H bJ;unfold LW at h;unfold ZM;obtain ⟨Gi,qF⟩:∃ c,PA=c:=⟨_,rfl⟩;rw [qF];conv=>whnf
 subst qF;refine aiL r6 G4 ?_ ?_ (by exact rfl) h
 ·exact fun T H bJ=>lj T H bJ
 ·intro  p_ h qt;obtain ⟨qT,rfl⟩:=qt.ex;conv=>whnf
  exact qj h lj rfl rfl

noncomputable def aaw:eM :=
 FY [gO 4 [.ij (.bool false)] .iH] (FY [FO 5 0,FO 6 1,gO 7 [.ij (.func 114 [] []),.sl 5,.sl 6] (.call 6),Fm 8 7 0 .geq,FO 4 8] .ret)
theorem afk:yQ Tryz.prog UB 92=some (aaw,9,[.tmp 4]):=by kernel_rfl
def Js (s:qa) (f:(Int→Option Bool)):Option Bool :=
 (LW s f).bind fun aR =>
 some (decide ((0:Int)≤aR))
theorem Pt {s:qa} {f:(Int→Option Bool)} {rQ:FuncId} {re:List I} (r6:sg re) (G4:∀ (qR:Int) (r:Bool),f qR=some r→qC rQ ((hG qR)::re) (B r)) {v:Bool} (h:Js s f=some v):qC 92 [(.ax (s.map hG) s.length .shared),(.func rQ [] re)] (B v):=by
 refine qN dD afk rfl rfl fun Q bz=>?_;have lj:qE [.tmp 4] Q (fun v=>(B v)) v:=fun T H bJ=>bz _ T H bJ;unfold Js at h;unfold aaw;conv=>whnf
 obtain ⟨aR,eQ,h⟩:=qi h;refine ⟨_,_,Hv (cs:=[(qq s .shared),(.func rQ [] re)]) (bs:=[(qq s .shared),(.func rQ [] re)]) (rp rfl (rp (r6.fn _ _) rT)) (by rfl) (by exact (p5 (rF (fun _=>rfl) _ _ _) (p5 (r6.M4 _) rfl))) (Th r6 G4 eQ) rfl,?_⟩;conv=>whnf
 exact qj h lj rfl rfl
end Go.Proofs.YtfakoboiahbhaaaGreat.Ab


namespace Go.Proofs.YtfakoboiahbhaaaGreat.Ab
open Go
section
variable {P:Program} {B N:Nat} {J:List Nat} {w:World} {U:Nat→Option aG} {S:Nat→Nat→Prop}
theorem SQ {C:cc} {lo:Nat} {ops:Array Oper} {an:List cq} {i:Nat} {gE:Oper} (hi:ops[i]?=some gE) {R:Nat→Nat→Prop} {aI:a8}:∀ (l:List Nat) (s:a8),l.Pairwise R→i∈l →
  (∀ j∈l,R j i→∀ fa,ops[j]?=some fa→indep ops fa (an.getD j {}) gE (an.getD i {})=true)→gH P C lo ops an l s=some aI →
  ∃ s1,dL P C lo ops gE (an.getD i {}) s=some s1∧gH P C lo ops an (l.erase i) s1=some aI
 | [],s,_,h,_,_=>by simp at h
 | j::r,s,aD,hm,o0,h=>by
   by_cases ly:j=i
   ·subst ly;simp only [gH,hi,Option.bind_eq_some_iff] at h;obtain ⟨s1,ad,af⟩:=h;exact ⟨s1,ad,by simpa using af⟩
   ·have aj:i∈r:=by
     rcases List.mem_cons.1 hm with h | h
     ·exact absurd h.symm ly
     ·exact h
    have aY:R j i:=(List.pairwise_cons.1 aD).1 i aj;have he:(j::r).erase i=j::r.erase i:=by
     rw [List.erase_cons];simp [ly]
    rw [he];simp only [gH] at h ⊢;cases az:ops[j]? with
    | none =>
      simp only [az] at h;exact SQ hi r s (List.pairwise_cons.1 aD).2 aj (fun k av=>o0 k (by simp [av])) h
    | some fa =>
      simp only [az,Option.bind_eq_some_iff] at h;obtain ⟨s1,ad,af⟩:=h;obtain ⟨s2,aL,aQ⟩:=SQ hi r s1 (List.pairwise_cons.1 aD).2 aj (fun k av=>o0 k (by simp [av])) af;obtain ⟨nL,aW,aX⟩:=EX (o0 j (by simp) aY fa az) ad aL;exact ⟨nL,aW,by dsimp only;rw [aX];exact aQ⟩
def r7 (O:List Nat) (cJ:Array Bool):List Nat:=O.filter fun i=>!cJ.getD i true
theorem W4 {O:List Nat} (MH:O.Nodup) {i:Nat} {cJ:Array Bool}:r7 O (cJ.setIfInBounds i true)=(r7 O cJ).erase i:=by
 have lF:(r7 O cJ).Nodup:=MH.filter _;rw [lF.erase_eq_filter];simp only [r7,List.filter_filter];congr 1;funext j;by_cases lx:j=i
 ·subst lx;rcases Nat.lt_or_ge j cJ.size with h | h
  ·simp [Array.getD_eq_getD_getElem?,h]
  ·simp [Array.getD_eq_getD_getElem?,h]
 ·have:(cJ.setIfInBounds i true).getD j true=cJ.getD j true:=by
   simp only [Array.getD_eq_getD_getElem?];rw [Array.getElem?_setIfInBounds_ne (Ne.symm lx)]
  rw [this];simp [lx]
def Wr (ops:Array Oper) (an:List cq) (ms:List Nat) (p q:Nat):Bool :=
 (List.range ops.size).all fun j=>match ops[j]? with
  | none=>true
  | some fa=>(ms.getD j 0 == pE ms fa) && fa.after.toList.all (fun e=>!Region.binds .any e || Nat.blt e.on j) &&
    (List.range j).all fun i=>match ops[i]? with
     | none=>true
     | some gE=>(ms.getD j 0).testBit i || indep ops gE (an.getD i {}) fa (an.getD j {}) || (Nat.beq i p && Nat.beq j q)
def Mt (ops:Array Oper) (an:List cq) (p q:Nat):Bool:=Wr ops an (ku ops.toList []) p q
def Hp (n p q:Nat):List Nat:=(List.range n).map fun i=>if i=p then q else if i=q then p else i
def Mj (p q j i:Nat):Prop:=(j<i∧¬ (j=p∧i=q))∨(j=q∧i=p)
theorem SY {n p:Nat} (bl:p+1<n):(Hp n p (p+1)).Pairwise (Mj p (p+1)):=by
 unfold Hp;rw [List.pairwise_map];refine List.Pairwise.imp (fun {a b} h=>?_) List.pairwise_lt_range;unfold Mj;split <;> split <;> (try split) <;> (try split) <;> omega
theorem SX {n p:Nat} (bl:p+1<n):(Hp n p (p+1)).Nodup:=by
 unfold Hp List.Nodup;rw [List.pairwise_map];refine List.Pairwise.imp (fun {a b} h=>?_) List.nodup_range;split <;> split <;> (try split) <;> (try split) <;> omega
theorem Nt {n p:Nat} (bl:p+1<n) (i:Nat):i∈Hp n p (p+1)↔i<n:=by
 unfold Hp;rw [List.mem_map];constructor
 ·rintro ⟨a,cu,rfl⟩;have:=List.mem_range.1 cu;split <;> (try split) <;> omega
 ·intro h;refine ⟨if i=p then p+1 else if i=p+1 then p else i,List.mem_range.2 ?_,?_⟩
  ·split <;> (try split) <;> omega
  ·by_cases ad:i=p
   ·subst ad;simp
   ·by_cases af:i=p+1
    ·subst af;simp
    ·simp [ad,af]
theorem abN {F:Fence} (bG:eA F) {C:cc} (bD:dn P C) {lo:Nat} {ops:Array Oper} {an:List cq} {p:Nat} (bl:p+1<ops.size) (a2:Mt ops an p (p+1)=true) {Q:Exit→Act→World→Prop} {s1 s2:a8} :
  ∀ (fuel:Nat) (cJ:Array Bool) (s:a8) (a:Act) (w:World) (U:Nat→Option aG) (J:List Nat) (S:Nat→Nat→Prop),(r7 (List.range ops.size) cJ).length≤fuel→xK ops cJ →
    ((gH P C lo ops an (r7 (List.range ops.size) cJ) s=some s1∧gH P C lo ops an (r7 (Hp ops.size p (p+1)) cJ) s=some s2∧cJ.getD p true=false∧cJ.getD (p+1) true=false) ∨
      (gH P C lo ops an (r7 (List.range ops.size) cJ) s=some s1∧cJ.getD p true=true)∨(gH P C lo ops an (r7 (Hp ops.size p (p+1)) cJ) s=some s2∧cJ.getD (p+1) true=true)) →
    cz B N U J S w s a→(∀ aI,aI=s1∨aI=s2→∀ aO w',Step B N U J S w aI aO w'→Q .normal aO w')→wpAnyIn F 0 P .any ops Q fuel cJ a w:=by
 have dJ:∀ j fa,ops[j]?=some fa→((ku ops.toList []).getD j 0=pE (ku ops.toList []) fa)∧(∀ e∈fa.after,Region.binds .any e=true→e.on<j) ∧
   ∀ i gE,i<j→ops[i]?=some gE→((ku ops.toList []).getD j 0).testBit i=true∨indep ops gE (an.getD i {}) fa (an.getD j {})=true∨(i=p∧j=p+1):=fun j fa az=>by
  have aY:j<ops.size:=(Array.getElem?_eq_some_iff.1 az).1;simp only [Mt,Wr,List.all_eq_true,List.mem_range] at a2;have h:=a2 j aY;rw [az] at h;simp only [Bool.and_eq_true,beq_iff_eq,List.all_eq_true,List.mem_range] at h;obtain ⟨⟨ad,af⟩,aH⟩:=h;refine ⟨ad,fun e he ag=>?_,fun i gE lx hi=>?_⟩
  ·have:=af e (by simpa using he);simp only [ag,Bool.not_true,Bool.false_or] at this;simpa [Nat.blt_eq] using this
  ·have bh:=aH i lx;rw [hi] at bh;simp only [Bool.or_eq_true,Bool.and_eq_true] at bh;rcases bh with (bh | bh) | bh
   ·exact .inl bh
   ·exact .inr (.inl bh)
   ·exact .inr (.inr ⟨Nat.eq_of_beq_eq_true bh.1,Nat.eq_of_beq_eq_true bh.2⟩)
 have DK:∀ (cJ:Array Bool),xK ops cJ→∀ (n k:Nat) ok,k≤n→ops[k]?=some ok→(∀ e∈ok.after,Region.binds .any e=true→cJ.getD e.on false=true) →
   ∀ j,((ku ops.toList []).getD k 0).testBit j=true→cJ.getD j false=true:=by
  intro cJ dh n
  induction n with
  | zero =>
    intro k ok av ar lu j az;rw [(dJ k ok ar).1] at az;rcases pF _ j _ _ az with h | ⟨e,he,ag,h⟩
    ·simp at h
    ·have:=(dJ k ok ar).2.1 e (by simpa using he) ag;omega
  | succ n a9 =>
    intro k ok av ar lu j az;rw [(dJ k ok ar).1] at az;rcases pF _ j _ _ az with h | ⟨e,he,ag,h⟩
    ·simp at h
    ·(have mU:e∈ok.after:=by simpa using he);have aY:=(dJ k ok ar).2.1 e mU ag;have m3:=lu e mU ag;rcases h with h | rfl
     ·have lC:=(Array.getElem?_eq_some_iff.1 ar).1;have yk:ops[e.on]?=some ops[e.on]:=Array.getElem?_eq_getElem (by omega);have Cf:cJ.getD e.on true=true:=by
       rcases Nat.lt_or_ge e.on cJ.size with a4 | a4
       ·simp [Array.getD_eq_getD_getElem?,a4] at m3 ⊢;exact m3
       ·simp [Array.getD_eq_getD_getElem?,a4] at m3
      exact a9 e.on _ (by omega) yk (dh e.on _ yk Cf) j h
     ·exact m3
 have JI:∀ (O:List Nat) (cJ:Array Bool) (i:Nat),i∈r7 O cJ↔i∈O∧cJ.getD i true=false:=fun O cJ i=>by
  simp [r7]
 have oR:∀ (O:List Nat) (cJ:Array Bool),(∀ i,i∈O↔i<ops.size)→r7 (List.range ops.size) cJ=[]→r7 O cJ=[]:=fun O cJ MH h=>by
  rw [List.eq_nil_iff_forall_not_mem];intro i hi;have:=(JI _ _ _).1 hi;have af:i∈r7 (List.range ops.size) cJ:=(JI _ _ _).2 ⟨List.mem_range.2 ((MH i).1 this.1),this.2⟩;rw [h] at af;simp at af
 have VF:∀ (cJ:Array Bool) (s:a8),r7 (List.range ops.size) cJ=[] →
   ((gH P C lo ops an (r7 (List.range ops.size) cJ) s=some s1∧gH P C lo ops an (r7 (Hp ops.size p (p+1)) cJ) s=some s2∧cJ.getD p true=false∧cJ.getD (p+1) true=false) ∨
     (gH P C lo ops an (r7 (List.range ops.size) cJ) s=some s1∧cJ.getD p true=true)∨(gH P C lo ops an (r7 (Hp ops.size p (p+1)) cJ) s=some s2∧cJ.getD (p+1) true=true))→s=s1∨s=s2:=fun cJ s h hinv=>by
  have af:=oR _ cJ (Nt bl) h;rw [h,af] at hinv;simp only [gH,Option.some.injEq] at hinv;rcases hinv with h | h | h
  ·exact .inl h.1
  ·exact .inl h.1
  ·exact .inr h.1
 have front:∀ (O:List Nat) (R:Nat→Nat→Prop),O.Pairwise R→O.Nodup→(∀ i,i∈O↔i<ops.size)→∀ (cJ:Array Bool) (s aI:a8) (i:Nat) (gE:Oper),xK ops cJ→ops[i]?=some gE→cJ.getD i true=false →
   (∀ e∈gE.after,Region.binds .any e=true→cJ.getD e.on false=true)→(∀ j,R j i→cJ.getD j true=false→j<i∧¬ (j=p∧i=p+1))→gH P C lo ops an (r7 O cJ) s=some aI →
   ∃ nL,dL P C lo ops gE (an.getD i {}) s=some nL∧gH P C lo ops an (r7 O (cJ.setIfInBounds i true)) nL=some aI:=by
  intro O R r_ Ha Lq cJ s aI i gE dh ki ad lu lj dT;have aY:=(Array.getElem?_eq_some_iff.1 ki).1
  obtain ⟨nL,aW,aX⟩:=SQ ki (R:=R) (r7 O cJ) s (r_.filter _) ((JI _ _ _).2 ⟨(Lq i).2 aY,ad⟩) (fun j az ly fa Ce=>by
   have jA:=((JI _ _ _).1 az).2;obtain ⟨o2,bY⟩:=lj j ly jA;rcases (dJ i gE ki).2.2 j fa o2 Ce with h | h | h
   ·have:=DK cJ dh i i gE (Nat.le_refl _) ki lu j h;rcases Nat.lt_or_ge j cJ.size with a4 | a4
    ·simp [Array.getD_eq_getD_getElem?,a4] at jA this;rw [this] at jA;simp at jA
    ·simp [Array.getD_eq_getD_getElem?,a4] at jA
   ·exact h
   ·exact absurd h bY) dT
  exact ⟨nL,aW,by rw [W4 Ha];exact aX⟩
 intro fuel
 induction fuel with
 | zero =>
   intro cJ s a w U J S BQ dh hinv aM bz;have m1:r7 (List.range ops.size) cJ=[]:=List.length_eq_zero_iff.1 (by omega);refine ⟨?_,bz s (VF cJ s m1 hinv) a w (Step.here aM)⟩;rw [List.eq_nil_iff_forall_not_mem];intro i hi;obtain ⟨ad,o,ar,_⟩:=mem_ready.1 hi
   have:i∈r7 (List.range ops.size) cJ:=(JI _ _ _).2 ⟨List.mem_range.2 (Array.getElem?_eq_some_iff.1 ar).1,by simp [ad]⟩
   rw [m1] at this;simp at this
 | succ fuel a9 =>
   intro cJ s a w U J S BQ dh hinv aM bz;refine ⟨fun aj=>?_,fun i hi=>?_⟩
   ·have m1:r7 (List.range ops.size) cJ=[]:=by
     rw [List.eq_nil_iff_forall_not_mem];intro i
     induction i using Nat.strongRecOn with
     | _ i CC =>
       intro hi;obtain ⟨aY,jA⟩:=(JI _ _ _).1 hi;have aY:=List.mem_range.1 aY;have ar:ops[i]?=some ops[i]:=Array.getElem?_eq_getElem aY
       have:i∈Region.ready .any ops cJ:=mem_ready.2 ⟨by simpa using jA,_,ar,fun e he ag=>by
        have jt:=(dJ i _ ar).2.1 e he ag;have m2:=CC e.on jt;have aq:cJ.getD e.on true=true:=by
         cases al:cJ.getD e.on true with
         | true=>rfl
         | false=>exact absurd ((JI _ _ _).2 ⟨List.mem_range.2 (by omega),al⟩) m2
        rcases Nat.lt_or_ge e.on cJ.size with a4 | a4
        ·simp [Array.getD_eq_getD_getElem?,a4] at aq ⊢;exact aq
        ·rcases Nat.lt_or_ge i cJ.size with x2 | x2
         ·omega
         ·simp [Array.getD_eq_getD_getElem?,x2] at jA⟩
       rw [aj] at this;simp at this
    exact bz s (VF cJ s m1 hinv) a w (Step.here aM)
   ·obtain ⟨ad,gE,ki,lu⟩:=mem_ready.1 hi;have aY:=(Array.getElem?_eq_some_iff.1 ki).1;(have G1:cJ.getD i true=false:=by simpa using ad);have m0:i∈r7 (List.range ops.size) cJ:=(JI _ _ _).2 ⟨List.mem_range.2 aY,G1⟩;have Lr:∀ i,i∈List.range ops.size↔i<ops.size:=fun i=>List.mem_range;have bR:i<cJ.size:=by
     rcases Nat.lt_or_ge i cJ.size with a4 | a4
     ·exact a4
     ·simp [Array.getD_eq_getD_getElem?,a4] at G1
    have G5:(cJ.setIfInBounds i true).getD i true=true:=by
     simp [Array.getD_eq_getD_getElem?,bR]
    have bY:∀ k,k≠i→(cJ.setIfInBounds i true).getD k true=cJ.getD k true:=fun k av=>by
     simp only [Array.getD_eq_getD_getElem?];rw [Array.getElem?_setIfInBounds_ne (Ne.symm av)]
    obtain ⟨nL,aW,ady⟩:∃ nL,dL P C lo ops gE (an.getD i {}) s=some nL ∧
      ((gH P C lo ops an (r7 (List.range ops.size) (cJ.setIfInBounds i true)) nL=some s1∧gH P C lo ops an (r7 (Hp ops.size p (p+1)) (cJ.setIfInBounds i true)) nL=some s2∧(cJ.setIfInBounds i true).getD p true=false∧(cJ.setIfInBounds i true).getD (p+1) true=false) ∨
        (gH P C lo ops an (r7 (List.range ops.size) (cJ.setIfInBounds i true)) nL=some s1∧(cJ.setIfInBounds i true).getD p true=true)∨(gH P C lo ops an (r7 (Hp ops.size p (p+1)) (cJ.setIfInBounds i true)) nL=some s2∧(cJ.setIfInBounds i true).getD (p+1) true=true)):=by
     rcases hinv with ⟨cn,cp,ed,il⟩ | ⟨cn,cp⟩ | ⟨cn,cp⟩
     ·by_cases MO:i=p
      ·obtain ⟨nL,aL,aQ⟩:=front _ _ List.pairwise_lt_range List.nodup_range Lr cJ s s1 i gE dh ki G1 lu (fun j az _=>⟨az,by omega⟩) cn;exact ⟨nL,aL,.inr (.inl ⟨aQ,by rw [←MO];exact G5⟩)⟩
      ·by_cases Km:i=p+1
       ·obtain ⟨nL,aL,aQ⟩:=front _ _ (SY bl) (SX bl) (Nt bl) cJ s s2 i gE dh ki G1 lu (fun j az _=>by unfold Mj at az;omega) cp;exact ⟨nL,aL,.inr (.inr ⟨aQ,by rw [←Km];exact G5⟩)⟩
       ·obtain ⟨nL,aL,aQ⟩:=front _ _ List.pairwise_lt_range List.nodup_range Lr cJ s s1 i gE dh ki G1 lu (fun j az _=>⟨az,by omega⟩) cn;obtain ⟨qk,ch,lW⟩:=front _ _ (SY bl) (SX bl) (Nt bl) cJ s s2 i gE dh ki G1 lu (fun j az _=>by unfold Mj at az;omega) cp;rw [aL] at ch;cases ch;exact ⟨nL,aL,.inl ⟨aQ,lW,by rw [bY _ (Ne.symm MO)];exact ed,by rw [bY _ (Ne.symm Km)];exact il⟩⟩
     ·obtain ⟨nL,aL,aQ⟩:=front _ _ List.pairwise_lt_range List.nodup_range Lr cJ s s1 i gE dh ki G1 lu (fun j az jA=>⟨az,fun e=>by rw [e.1,cp] at jA;simp at jA⟩) cn;refine ⟨nL,aL,.inr (.inl ⟨aQ,?_⟩)⟩;by_cases MO:p=i
      ·rw [MO];exact G5
      ·rw [bY _ MO];exact cp
     ·obtain ⟨nL,aL,aQ⟩:=front _ _ (SY bl) (SX bl) (Nt bl) cJ s s2 i gE dh ki G1 lu (fun j az jA=>by
       unfold Mj at az;rcases az with az | ⟨rfl,_⟩
       ·exact az
       ·rw [cp] at jA;simp at jA) cn
      refine ⟨nL,aL,.inr (.inr ⟨aQ,?_⟩)⟩;by_cases Km:p+1=i
      ·rw [Km];exact G5
      ·rw [bY _ Km];exact cp
    refine EY bG bD ki aW aM fun aO w' ai=>?_;obtain ⟨b5,cT,a5,aL,aQ,cb⟩:=ai;refine a9 (cJ.setIfInBounds i true) nL aO w' b5 cT a5 ?_ ?_ ady cb fun aI lK hJ h7 dU=>bz aI lK hJ h7 (dU.trans aL aQ)
    ·rw [W4 List.nodup_range,List.length_erase_of_mem m0];omega
    ·intro k ok av aq e he ag;by_cases yd:k=i
     ·subst yd;rw [ki] at av;cases av;exact getD_set_true (lu e he ag)
     ·have:cJ.getD k true=true:=by rw [getD_set_ne true (Ne.symm yd)] at aq;exact aq
      exact getD_set_true (dh k ok av this e he ag)
theorem W3 {F:Fence} (bG:eA F) (hm:P.follows .mixedOrders=true) {C:cc} (bD:dn P C) {lo id:Nat} {ops:Array Oper} {an:List cq} {p:Nat} (bl:p+1<ops.size) (a2:Mt ops an p (p+1)=true) {Q:Exit→Act→World→Prop} {s s1 s2:a8} {a:Act}
  (ad:gH P C lo ops an (List.range ops.size) s=some s1) (af:gH P C lo ops an (Hp ops.size p (p+1)) s=some s2) (aM:cz B N U J S w s a) (bz:∀ aI,aI=s1∨aI=s2→∀ aO w',Step B N U J S w aI aO w'→Q .normal aO w'):(Code.region id ops true).wpIn F 0 P Q a w:=by
 refine wpIn_region_any hm ?_;have hw:aJ B U J S w.drew s.H:=m9 aM.H;have aA:=k_ U S w;have gV:cz B N U J S w.drew s a:=⟨⟨aM.T.len,fun i u v hu ae=>(aM.T.rel i u v hu ae).mono (Ext.refl J) aA.set,fun i u v hu ae=>(aM.T.own i u v hu ae).mono (Ext.refl J) aA.set fun b ag=>⟨ag,rfl,fun _ h=>h⟩⟩,hw,aM.M.aA aA⟩;have jA:∀ i,i<ops.size→(Array.replicate ops.size false).getD i true=false:=fun i hi=>by simp [Array.getD_eq_getD_getElem?,hi]
 have yt:∀ O:List Nat,(∀ i,i∈O↔i<ops.size)→r7 O (Array.replicate ops.size false)=O:=fun O MH=>by
  simp only [r7];rw [List.filter_eq_self];intro i hi;rw [jA i ((MH i).1 hi)];rfl
 have Lr:∀ i,i∈List.range ops.size↔i<ops.size:=fun i=>List.mem_range;refine abN bG bD bl a2 (s1:=s1) (s2:=s2) (lo:=lo) ops.size (Array.replicate ops.size false) s a w.drew U J S (by rw [yt _ Lr];simp) ?_ (.inl ⟨by rw [yt _ Lr];exact ad,by rw [yt _ (Nt bl)];exact af,jA _ (by omega),jA _ bl⟩) gV fun aI lK aO w' ai=>bz aI lK aO w' (ai.trans (Ext.refl J) aA);intro k o ar aq;have aY:=(Array.getElem?_eq_some_iff.1 ar).1;rw [jA k aY] at aq;cases aq
theorem afV {k : Nat} {f : Func} {c : Code} (aN : P.funcs[k]? = some f) (ag : f.body = some c) (aP : f.name ≠ "runtime.NumGoroutine")
  {args:List I} {v:I} (aD:cl 8 v=true) {K:cC→a8→Prop}
  (ai:∀ (Q:Exit→Act→World→Prop) (B N:Nat) (J:List Nat) (w:World) (U:Nat→Option aG) (S:Nat→Nat→Prop) (a:Act),(∀ l a w,¬ Q (.goto l) a w)→cz B N U J S w ⟨args++List.replicate (f.ntmps-args.length) .junk,[]⟩ a →
   (∀ e aI,K e aI→∀ aO w',Step B N U J S w aI aO w'→Q (toExit e) aO w')→c.wpIn Fence.wide 0 P Q a w)
  (gw:∀ e s,K e s→(e=.normal∨e=.ret)∧∃ vs r,fb P s.H s.T f.results.toList=some vs∧bK s.H 0 s.H.length 0 8 (g9 vs)=some r∧(r=v∨r.settle=v)):kW P k args v:=by
 refine ⟨⟨a_.refl _ _,⟨f,aN,by simp [ag],aP⟩,fun B U J S w xs ah _ ae=>?_⟩,aD⟩;refine callsIn_of_wp_marks aN ag trivial ?_;have aM:=xj ah ae f.ntmps;have c5:=(nT ah).1;refine ai _ B w.heap.size J w (hC U) S _ (fun l a w aK=>aK.elim) aM fun e s av aO w' ai=>?_;obtain ⟨he,vs,r,aj,BS,eb⟩:=gw e s av;obtain ⟨b5,cT,a5,aL,aQ,cb⟩:=ai;have iz:LeavesInM Fence.wide 0 P f aO.tmps (fr B U J S w [] v) aO.defers .returning w':=by
  refine nj (U:=b5) (S:=a5) (J:=cT) (B:=B) (H:=s.H) (kV:=U) (S0:=S) (w0:=w) aO.defers w' cb.M.2.1 cb.M.2.2 (c5.trans aQ) cb.H fun bS dj dc lU lV=>?_
  have bW:a7 .slot b5 cT a5 bS s.T aO.tmps.toList:=⟨cb.T.len,fun i u v hu ae=>(cb.T.rel i u v hu ae).mono (Ext.refl _) (fun b o h=>⟨h,dc b o h⟩),fun i u v hu ae =>
   (cb.T.own i u v hu ae).mono (Ext.refl _) (fun b o h=>⟨h,dc b o h⟩) fun b ag=>⟨ag,dj b _ ag,fun _ h=>h⟩⟩
  obtain ⟨x,aW,aX⟩:=pQ lV bW aj;have m6:=pL ah (fun id aE=>by simp at aE) BS (a0.after aL lU aX);refine ⟨x,aW,?_⟩;rcases eb with rfl | eb
  ·exact m6
  ·cases r with
   | ax cells len gu =>
     cases gu with
     | uniq z=>simp only [I.settle] at eb;subst eb;exact m6.settle
     | _=>simp only [I.settle] at eb;subst eb;exact m6
   | _=>simp only [I.settle] at eb;subst eb;exact m6
 rcases he with rfl | rfl
 ·exact iz
 ·exact iz
end
theorem OH (P:Program):dn P (fun _ _ _ _=>none):=⟨fun h=>by simp at h,fun h=>by simp at h⟩
noncomputable def OK (f:Func):Option (cC×a8)→Option I
 | some (.normal,s) | some (.ret,s)=>(fb Go.Proofs.Tryz.prog s.H s.T f.results.toList).bind fun vs=>bK s.H 0 s.H.length 0 8 (g9 vs)
 | _=>none
theorem Wo {f:Func} {x:Option (cC×a8)} {v:I} (h:OK f x=some v):∃ e s,x=some (e,s)∧(e=.normal∨e=.ret)∧∃ vs,fb Go.Proofs.Tryz.prog s.H s.T f.results.toList=some vs∧bK s.H 0 s.H.length 0 8 (g9 vs)=some v:=by
 unfold OK at h;split at h
 ·simp only [Option.bind_eq_some_iff] at h;obtain ⟨vs,ad,af⟩:=h;exact ⟨_,_,rfl,.inl rfl,vs,ad,af⟩
 ·simp only [Option.bind_eq_some_iff] at h;obtain ⟨vs,ad,af⟩:=h;exact ⟨_,_,rfl,.inr rfl,vs,ad,af⟩
 ·cases h
noncomputable def Xk (k p:Nat) (args:List I):Option I:=match Go.Proofs.Tryz.prog.funcs[k]? with
 | some f=>match f.body with
   | some (.seq ht (.seq (.region id ops true) rest)) =>
     match codeOk (jg k) ht, codeOk (jg k) rest, f.name == "runtime.NumGoroutine", Nat.blt (p + 1) ops.size, Mt ops ((jg k).ops.getD id []) p (p + 1) with
     | true,true,false,true,true =>
       match exec Go.Proofs.Tryz.prog (jg k) (fun _ _ _ _=>none) k 0 9 none ht 0 ⟨args++List.replicate (f.ntmps-args.length) .junk,[]⟩ with
       | some (.normal,SR) =>
         match gH Go.Proofs.Tryz.prog (fun _ _ _ _=>none) 0 ops ((jg k).ops.getD id []) (List.range ops.size) SR,gH Go.Proofs.Tryz.prog (fun _ _ _ _=>none) 0 ops ((jg k).ops.getD id []) (Hp ops.size p (p+1)) SR with
         | some s1,some s2 =>
           match OK f (exec Go.Proofs.Tryz.prog (jg k) (fun _ _ _ _=>none) k 0 9 none rest 0 s1),OK f (exec Go.Proofs.Tryz.prog (jg k) (fun _ _ _ _=>none) k 0 9 none rest 0 s2) with
           | some u,some v=>match Ht 20 u v,cl 8 u with
             | true,true=>some u
             | _,_=>none
           | _,_=>none
         | _,_=>none
       | _=>none
     | _,_,_,_,_=>none
   | _=>none
 | none=>none
theorem sh {k p:Nat} {args:List I} {v:I} (h:Xk k p args=some v):kW Go.Proofs.Tryz.prog k args v:=by
 unfold Xk at h;split at h
 ·rename_i f aN;split at h
  ·rename_i ht id ops rest ag;split at h
   ·rename_i a' bm bt b6 dQ;split at h
    ·rename_i SR ad0;split at h
     ·rename_i s1 s2 di Ck;split at h
      ·rename_i u bu jv pb;split at h
       ·rename_i heq aD;have e:=Lm 20 _ _ heq;subst e;cases h;obtain ⟨e1,t1,yB,adq,ah5,dV,JH⟩:=Wo jv;obtain ⟨cd,t2,iD,adr,mq,dt,BL⟩:=Wo pb;refine afV aN ag (by simpa using bt) aD (K:=fun e s=>(e=e1∧s=t1)∨(e=cd∧s=t2)) (fun Q B N J w U S a aK aM bz=>?_) (fun e s av=>?_)
        ·have FE:=dD;refine wpIn_seq (mL (OH _) FE ht 0 _ _ _ ad0 a' Fence.wide _ B N J w U S a (.inl ⟨rfl,rfl⟩) (fun l a w=>aK l a w) aM fun aO w' ai=>?_);obtain ⟨b5,cT,a5,aL,aQ,cb⟩:=ai;refine wpIn_seq (W3 (iY.mM (J:=cT) (rl:=none) (.inl ⟨rfl,rfl⟩)) FE (OH _) (by simpa [Nat.blt_eq] using b6) dQ di Ck cb fun aI lK aF bS dU=>?_);obtain ⟨bo,ca,bI,ch,lW,oB⟩:=dU;rcases lK with rfl | rfl
         ·exact mL (OH _) FE rest 0 _ _ _ yB bm Fence.wide Q B N ca bS bo bI aF (.inl ⟨rfl,rfl⟩) aK oB fun aS F9 Cu=>bz _ _ (.inl ⟨rfl,rfl⟩) aS F9 ((Cu.trans ch lW).trans aL aQ)
         ·exact mL (OH _) FE rest 0 _ _ _ iD bm Fence.wide Q B N ca bS bo bI aF (.inl ⟨rfl,rfl⟩) aK oB fun aS F9 Cu=>bz _ _ (.inr ⟨rfl,rfl⟩) aS F9 ((Cu.trans ch lW).trans aL aQ)
        ·rcases av with ⟨rfl,rfl⟩ | ⟨rfl,rfl⟩
         ·exact ⟨adq,ah5,_,dV,JH,.inl rfl⟩
         ·exact ⟨adr,mq,_,dt,BL,.inl rfl⟩
       ·cases h
      ·cases h
     ·cases h
    ·cases h
   ·cases h
  ·cases h
 ·cases h
end Go.Proofs.YtfakoboiahbhaaaGreat.Ab


namespace Go.Proofs.YtfakoboiahbhaaaGreat.Ab
open Go
section
variable {P:Program}
noncomputable def LD (P:Program) (ops:Array Oper) (an:List cq):List Nat→Option (List df)
 | []=>some []
 | i::r=>match ops[i]? with
   | some o=>match me P ops o (an.getD i {}),LD P ops an r with
     | some dZ,some l=>some (dZ::l)
     | _,_=>none
   | none=>none
theorem RB {lo:Nat} {ops:Array Oper} {an:List cq}:∀ {O:List Nat} {rl:List df} {acc:dM} {T:List I} {H:List au} {K:List I→List au→Prop},LD P ops an O=some rl→j1 P acc→kJ P lo true rl acc T H K →
  ∃ e2 bb H',j1 P e2∧(∀ p∈acc,p∈e2)∧(∀ C,j0 C e2→gH P C lo ops an O ⟨T,H⟩=some ⟨bb,H'⟩)∧K bb H'
 | [],rl,acc,T,H,K,aq,cu,h=>by simp only [LD,Option.some.injEq] at aq;subst aq;exact ⟨acc,T,H,cu,fun _ h=>h,fun _ _=>rfl,h⟩
 | i::r,rl,acc,T,H,K,aq,cu,h=>by
   simp only [LD] at aq;split at aq
   ·rename_i o hi;split at aq
    ·rename_i dZ l' ad af;simp only [Option.some.injEq] at aq;subst aq;obtain ⟨Fl,gk,H1,aB,aF,aS,bp⟩:=Fb ad cu h;obtain ⟨AU,eN,a3,br,cU,ff,n'⟩:=RB af aB bp;refine ⟨AU,eN,a3,br,fun p aD=>cU p (aF p aD),fun C cI=>?_,n'⟩;simp only [gH,hi];rw [aS C (fun p aD=>cI p (cU p aD)),Option.bind_some];exact ff C cI
    ·cases aq
   ·cases aq
theorem afW {k : Nat} {f : Func} {c : Code} (aN : P.funcs[k]? = some f) (ag : f.body = some c) (aP : f.name ≠ "runtime.NumGoroutine")
  {args:List I} {v:I} (aD:cl 8 v=true) {K:cC→a8→Prop}
  (ai:∀ (Q:Exit→Act→World→Prop) (B N:Nat) (J:List Nat) (w:World) (U:Nat→Option aG) (S:Nat→Nat→Prop) (a:Act),(∀ l a w,¬ Q (.goto l) a w)→cz B N U J S w ⟨args++List.replicate (f.ntmps-args.length) .junk,[]⟩ a →
   (∀ e aI,K e aI→∀ aO w',Step B N U J S w aI aO w'→Q (toExit e) aO w')→c.wpIn Fence.wide 0 P Q a w)
  (gw:∀ e s,K e s→(e=.normal∨e=.ret)∧∃ vs r,fb P s.H s.T f.results.toList=some vs∧bK s.H 0 s.H.length 0 8 (g9 vs)=some r∧r.settle.view.cm=v):kW P k args v:=by
 refine ⟨⟨a_.refl _ _,⟨f,aN,by simp [ag],aP⟩,fun B U J S w xs ah _ ae=>?_⟩,aD⟩;refine callsIn_of_wp_marks aN ag trivial ?_;have aM:=xj ah ae f.ntmps;have c5:=(nT ah).1;refine ai _ B w.heap.size J w (hC U) S _ (fun l a w aK=>aK.elim) aM fun e s av aO w' ai=>?_;obtain ⟨he,vs,r,aj,BS,eb⟩:=gw e s av;obtain ⟨b5,cT,a5,aL,aQ,cb⟩:=ai;have iz:LeavesInM Fence.wide 0 P f aO.tmps (fr B U J S w [] v) aO.defers .returning w':=by
  refine nj (U:=b5) (S:=a5) (J:=cT) (B:=B) (H:=s.H) (kV:=U) (S0:=S) (w0:=w) aO.defers w' cb.M.2.1 cb.M.2.2 (c5.trans aQ) cb.H fun bS dj dc lU lV=>?_
  have bW:a7 .slot b5 cT a5 bS s.T aO.tmps.toList:=⟨cb.T.len,fun i u v hu ae=>(cb.T.rel i u v hu ae).mono (Ext.refl _) (fun b o h=>⟨h,dc b o h⟩),fun i u v hu ae =>
   (cb.T.own i u v hu ae).mono (Ext.refl _) (fun b o h=>⟨h,dc b o h⟩) fun b ag=>⟨ag,dj b _ ag,fun _ h=>h⟩⟩
  obtain ⟨x,aW,aX⟩:=pQ lV bW aj;have m6:=pL ah (fun id aE=>by simp at aE) BS (a0.after aL lU aX);refine ⟨x,aW,?_⟩;rw [←eb];exact m6.Yx
 rcases he with rfl | rfl
 ·exact iz
 ·exact iz
noncomputable def RC (P:Program) (A:c') (k p:Nat):Option (eM×List df×List df×eM×Nat×List ja):=match P.funcs[k]? with
 | some f=>match f.body with
   | some (.seq ht (.seq (.region id ops true) rest)) =>
     match codeOk A ht, codeOk A rest, f.name == "runtime.NumGoroutine", Nat.blt (p + 1) ops.size, Mt ops (A.ops.getD id []) p (p + 1) with
     | true,true,false,true,true =>
       match dK P A ht 0,LD P ops (A.ops.getD id []) (List.range ops.size),LD P ops (A.ops.getD id []) (Hp ops.size p (p+1)),dK P A rest 0,jP P f.results.toList with
       | some a,some b,some c,some d,some rs=>some (a,b,c,d,f.ntmps,rs)
       | _,_,_,_,_=>none
     | _,_,_,_,_=>none
   | _=>none
 | none=>none
theorem acG (dD:P.follows .mixedOrders=true) {k p:Nat} {A:c'} {zq rd:eM} {zs rc:List df} {n:Nat} {rs:List ja} (aq:RC P A k p=some (zq,zs,rc,rd,n,rs)) {args T:List I} (bW:args++List.replicate (n-args.length) .junk=T) {v:I} (aD:cl 8 v=true)
  (h:∀ Q:cC→List I→List au→Prop,(∀ e T H,HZ rs v e T H→Q e T H)→dB P A k 0 none zq T [] fun e T H=>e=.normal∧kJ P 0 true zs [] T H (fun T H=>dB P A k 0 none rd T H Q)∧∀ acc,kJ P 0 true rc acc T H (fun T H=>dB P A k 0 none rd T H Q)):kW P k args v:=by
 unfold RC at aq;split at aq
 ·rename_i f aN;split at aq
  ·rename_i ht id ops rest ag;split at aq
   ·rename_i a' bm bt b6 dQ;split at aq
    ·rename_i a b c d Xg dA kq LC VZ aec;simp only [Option.some.injEq,Prod.mk.injEq] at aq;obtain ⟨rfl,rfl,rfl,rfl,rfl,rfl⟩:=aq;subst bW;have h:=h (fun e T H=>HZ Xg v e T H) fun _ _ _ h=>h;refine afW aN ag (by simpa using bt) aD (K:=fun e s=>HZ Xg v e s.T s.H) (fun Q B N J w U S a aK aM bz=>?_) (fun e s ⟨cn,vs,Bo,r,cp,ed⟩=>⟨cn,vs,r,by rw [pO _ _ aec,Bo],cp,ed⟩);refine wpIn_seq (nW dD ht 0 _ _ (pB dA h) a' Fence.wide _ B N J w U S a (.inl ⟨rfl,rfl⟩) (fun l a w=>aK l a w) aM fun e aI av aO w' ai=>?_);obtain ⟨rfl,ad,af⟩:=av;obtain ⟨b5,cT,a5,aL,aQ,cb⟩:=ai;obtain ⟨Fl,gk,H1,aB,_,aS,bp⟩:=RB kq ⟨fun p aD=>by simp at aD,fun p aD=>by simp at aD⟩ ad;obtain ⟨AU,eN,a3,br,cU,ff,n'⟩:=RB LC aB (af Fl);obtain ⟨C,bD,cI⟩:=xw br;refine wpIn_seq (W3 (iY.mM (J:=cT) (rl:=none) (.inl ⟨rfl,rfl⟩)) dD bD (by simpa [Nat.blt_eq] using b6) dQ (aS C fun p aD=>cI p (cU p aD)) (ff C cI) cb fun aI lK aF bS dU=>?_);obtain ⟨bo,ca,bI,ch,lW,oB⟩:=dU;rcases lK with rfl | rfl
     ·exact nW dD rest 0 _ _ (pB VZ bp) bm Fence.wide Q B N ca bS bo bI aF (.inl ⟨rfl,rfl⟩) aK oB fun e s av aS F9 Cu=>bz e s av aS F9 ((Cu.trans ch lW).trans aL aQ)
     ·exact nW dD rest 0 _ _ (pB VZ n') bm Fence.wide Q B N ca bS bo bI aF (.inl ⟨rfl,rfl⟩) aK oB fun e s av aS F9 Cu=>bz e s av aS F9 ((Cu.trans ch lW).trans aL aQ)
    ·cases aq
   ·cases aq
  ·cases aq
 ·cases aq
end
end Go.Proofs.YtfakoboiahbhaaaGreat.Ab


namespace Go.Proofs.YtfakoboiahbhaaaGreat.Ab
open Go
set_option maxRecDepth 20000
set_option maxHeartbeats 4000000
noncomputable def ZB:eM:=.jO false [gO 6 [.ij (.bool false)] .iH]
noncomputable def ZC:List df:=[gO 9 [.sl 0] .iH,gO 10 [.hD 9] .za,gO 11 [.hD 10] (.ov 0),gO 12 [.hD 11] (.ov 1),gO 13 [.hD 12] (.px .one),gO 14 [.hA 1] .iH,gO 15 [.hD 13,.hD 14] (.pq 2),gO 16 [.hD 15] (.px (.str 2)),gO 17 [.sl 0] .iH,gO 18 [.hD 17] .za,gO 19 [.hD 18] (.ov 0),gO 20 [.hD 19] (.ov 1),gO 21 [.hD 20] (.yM .one),gO 22 [.hA 2] .iH,gO 23 [.hD 21,.hD 22] (.pq 2),gO 24 [.hD 23] (.yM (.str 2)),gO 7 [] (.alloc [.int .i64 0,.int .i64 0]),gO 8 [] (.alloc [.int .i64 0,.int .i64 0]),⟨none,[.sl 7,.hA 16],none,none,.st 2⟩,⟨none,[.sl 8,.hA 24],none,none,.st 2⟩]
noncomputable def ZD:List df:=[gO 9 [.sl 0] .iH,gO 10 [.hD 9] .za,gO 11 [.hD 10] (.ov 0),gO 12 [.hD 11] (.ov 1),gO 13 [.hD 12] (.px .one),gO 14 [.hA 1] .iH,gO 15 [.hD 13,.hD 14] (.pq 2),gO 16 [.hD 15] (.px (.str 2)),gO 17 [.sl 0] .iH,gO 18 [.hD 17] .za,gO 19 [.hD 18] (.ov 0),gO 20 [.hD 19] (.ov 1),gO 21 [.hD 20] (.yM .one),gO 22 [.hA 2] .iH,gO 23 [.hD 21,.hD 22] (.pq 2),gO 24 [.hD 23] (.yM (.str 2)),gO 8 [] (.alloc [.int .i64 0,.int .i64 0]),gO 7 [] (.alloc [.int .i64 0,.int .i64 0]),⟨none,[.sl 7,.hA 16],none,none,.st 2⟩,⟨none,[.sl 8,.hA 24],none,none,.st 2⟩]
noncomputable def ake:eM:=.seq (.jO false [gO 25 [.sl 7] (.ov 0),gO 26 [.hD 25] (.px .one),gO 27 [.sl 8] (.ov 0),gO 28 [.hD 27] (.px .one),gO 29 [.hD 26,.hD 28] (.bin .eql),gO 30 [.hA 29] .iH,⟨some 31,[.sl 7],some (30,false),none,.ov 0⟩,⟨some 32,[.hD 31],some (30,false),none,.px .one⟩,⟨some 33,[.sl 8],some (30,false),none,.ov 1⟩,⟨some 34,[.hD 33],some (30,false),none,.px .one⟩,⟨some 35,[.hD 32,.hD 34],some (30,false),none,.bin .eql⟩,gO 36 [.hD 30,.ij (.bool true),.hD 35] .pick,gO 37 [.hA 36] .iH,⟨some 38,[.sl 7],some (37,false),none,.ov 1⟩,⟨some 39,[.hD 38],some (37,false),none,.px .one⟩,⟨some 40,[.sl 8],some (37,false),none,.ov 0⟩,⟨some 41,[.hD 40],some (37,false),none,.px .one⟩,⟨some 42,[.hD 39,.hD 41],some (37,false),none,.bin .eql⟩,gO 43 [.hD 37,.ij (.bool true),.hD 42] .pick,gO 44 [.hA 43] .iH,⟨some 45,[.hD 7],some (44,false),none,.ov 1⟩,⟨some 46,[.hD 45],some (44,false),none,.px .one⟩,⟨some 47,[.hD 8],some (44,false),none,.ov 1⟩,⟨some 48,[.hD 47],some (44,false),none,.px .one⟩,⟨some 49,[.hD 46,.hD 48],some (44,false),none,.bin .eql⟩,gO 50 [.hD 44,.ij (.bool true),.hD 49] .pick,gO 6 [.hA 50] .iH]) .ret
theorem aes:RC Tryz.prog TU 100 16=some (ZB,ZC,ZD,ake,51,[.tmp 6]):=by kernel_rfl
def H_ (a b:Int×Int):Bool:=decide (a.1=b.1) || decide (a.1=b.2) || decide (a.2=b.1) || decide (a.2=b.2)
def Tb (t:qb) (i k:Int):Option Bool :=
 qd (0≤i∧i<(t.2.length:Int)) <|
 qd (0≤k∧k<(t.2.length:Int)) <|
 some (H_ (ix t.2 i) (ix t.2 k))
theorem aiz {t:qb} {i k:Int} {v:Bool} (h:Tb t i k=some v):qC 100 [.bT [hG t.1,.ax (t.2.flatMap p6) t.2.length .shared],hG i,hG k] (B v):=by
 obtain ⟨eQ,h⟩:=qD h;obtain ⟨fi,h⟩:=qD h;obtain rfl:=Option.some.inj h;refine acG dD aes rfl rfl fun Q bz=>?_;have lj:∀ T H,HZ [.tmp 6] (B (H_ (ix t.2 i) (ix t.2 k))) .ret T H→Q .ret T H:=fun T H bJ=>bz _ T H bJ;unfold ZB;conv=>whnf
 refine ⟨rfl,?_,fun acc=>?_⟩
 ·unfold ZC;conv=>whnf
  refine ⟨eQ,?_⟩;rw [qQ p6 2 qz t.2 i eQ];conv=>whnf
  refine ⟨fi,?_⟩;rw [qQ p6 2 qz t.2 k fi];conv=>whnf
  rcases Hu (decide ((ix t.2 i).1=(ix t.2 k).1)) with fP | fP
  ·rw [fP];(conv=>whnf);exact lj _ _ ⟨.inr rfl,_,rfl,_,ox rfl,(by unfold H_;rw [fP];rfl)⟩
  ·rw [fP];(conv=>whnf);rcases Hu (decide ((ix t.2 i).1=(ix t.2 k).2)) with e1 | e1
   ·rw [e1];(conv=>whnf);exact lj _ _ ⟨.inr rfl,_,rfl,_,ox rfl,(by unfold H_;rw [fP,e1];rfl)⟩
   ·rw [e1];(conv=>whnf);rcases Hu (decide ((ix t.2 i).2=(ix t.2 k).1)) with cd | cd
    ·rw [cd];(conv=>whnf);exact lj _ _ ⟨.inr rfl,_,rfl,_,ox rfl,(by unfold H_;rw [fP,e1,cd];rfl)⟩
    ·rw [cd];(conv=>whnf);exact lj _ _ ⟨.inr rfl,_,rfl,_,ox rfl,(by unfold H_;rw [fP,e1,cd];rfl)⟩
 ·unfold ZD;conv=>whnf
  refine ⟨eQ,?_⟩;rw [qQ p6 2 qz t.2 i eQ];conv=>whnf
  refine ⟨fi,?_⟩;rw [qQ p6 2 qz t.2 k fi];conv=>whnf
  rcases Hu (decide ((ix t.2 i).1=(ix t.2 k).1)) with fP | fP
  ·rw [fP];(conv=>whnf);exact lj _ _ ⟨.inr rfl,_,rfl,_,ox rfl,(by unfold H_;rw [fP];rfl)⟩
  ·rw [fP];(conv=>whnf);rcases Hu (decide ((ix t.2 i).1=(ix t.2 k).2)) with e1 | e1
   ·rw [e1];(conv=>whnf);exact lj _ _ ⟨.inr rfl,_,rfl,_,ox rfl,(by unfold H_;rw [fP,e1];rfl)⟩
   ·rw [e1];(conv=>whnf);rcases Hu (decide ((ix t.2 i).2=(ix t.2 k).1)) with cd | cd
    ·rw [cd];(conv=>whnf);exact lj _ _ ⟨.inr rfl,_,rfl,_,ox rfl,(by unfold H_;rw [fP,e1,cd];rfl)⟩
    ·rw [cd];(conv=>whnf);exact lj _ _ ⟨.inr rfl,_,rfl,_,ox rfl,(by unfold H_;rw [fP,e1,cd];rfl)⟩

noncomputable def aaB:eM :=
 FY [gO 4 [.ij (.bool false)] .iH] (FY [FL 5 1,FL 6 2,FO 7 0,gO 8 [.ij (.func 100 [] []),.sl 5,.sl 6,.sl 7] (.call 3),FO 4 8] .ret)
theorem afp:yQ Tryz.prog UF 99=some (aaB,9,[.tmp 4]):=by kernel_rfl
def Pw (k:Int) (c0:qn) (a':Int):Option Bool :=
 (Tb c0 a' k).bind fun aR =>
 some aR
theorem akd {k:Int} {c0:qn} {a':Int} {v:Bool} (h:Pw k c0 a'=some v):qC 99 [(hG k),(.bT [(.bT [(hG c0.1),(.ax (c0.2.flatMap p6) c0.2.length .shared)])]),(.bT [(hG a')])] (B v):=by
 refine qN dD afp rfl rfl fun Q bz=>?_;have lj:qE [.tmp 4] Q (fun v=>(B v)) v:=fun T H bJ=>bz _ T H bJ;unfold Pw at h;unfold aaB;conv=>whnf
 obtain ⟨aR,eQ,h⟩:=qi h;refine ⟨qm.pl,_,aiz eQ,?_⟩;conv=>whnf
 exact qj h lj rfl rfl

noncomputable def aaA:eM :=
 FY [gO 4 [.ij (.bool false)] .iH] (FY [FO 5 0,gO 6 [.hD 1,.hD 2] (.y6 99 0 2),gO 7 [.ij (.func 92 [] []),.sl 5,.sl 6] (.call 6),FO 4 7] .ret)
theorem afo:yQ Tryz.prog UE 98=some (aaA,8,[.tmp 4]):=by kernel_rfl
def Ld (part:qa) (c0:qn) (a':Int):Option Bool :=
 (Js part (fun qR=>Pw qR c0 a')).bind fun aR =>
 some aR
theorem ZA {part:qa} {c0:qn} {a':Int} {v:Bool} (h:Ld part c0 a'=some v):qC 98 [(.ax (part.map hG) part.length .shared),(.bT [(.bT [(hG c0.1),(.ax (c0.2.flatMap p6) c0.2.length .shared)])]),(.bT [(hG a')])] (B v):=by
 refine qN dD afo rfl rfl fun Q bz=>?_;have lj:qE [.tmp 4] Q (fun v=>(B v)) v:=fun T H bJ=>bz _ T H bJ;unfold Ld at h;unfold aaA;conv=>whnf
 obtain ⟨aR,eQ,h⟩:=qi h;refine ⟨_,_,Hv (cs:=[(qq part .shared),(.func 99 [] [(.bT [(.bT [(hG c0.1),(qf c0.2 .shared)])]),(.bT [(hG a')])])]) (bs:=[(qq part .shared),(.func 99 [] [(.bT [(.bT [(hG c0.1),(qf c0.2 .shared)])]),(.bT [(hG a')])])]) (rp rfl (rp (I0 rT (rp rfl (rp rfl rT))) rT)) (by rfl) (by exact (p5 (rF (fun _=>rfl) _ _ _) (p5 (Ip rfl (p5 (q' (p5 (q' (p5 rfl (p5 (q4 (fun _=>(p5 rfl (p5 rfl rfl))) _ _ _) rfl))) rfl)) (p5 (q' (p5 rfl rfl)) rfl))) rfl))) (Pt ⟨(p5 (q' (p5 (q' (p5 rfl (p5 (q4 (fun _=>(p5 rfl (p5 rfl rfl))) _ _ _) rfl))) rfl)) (p5 (q' (p5 rfl rfl)) rfl)),by simp⟩ (fun _ _ aZ=>akd aZ) eQ) rfl,?_⟩;conv=>whnf
 exact qj h lj rfl rfl

abbrev Gq (tab:qb):I:=.bT [hG tab.1,.ax (tab.2.flatMap p6) tab.2.length .shared]
abbrev HH (tab:qb):au:=.cells [Gq tab]
def On (tab:qb) (s:Int) (own r:List Int):Option (List Int):=(Ld r tab s).bind fun b=>if b=true then qd ((own.length+r.length)*8≤140737488355328) (some (own++r)) else some own
def M3 (tab:qb) (out:List (List Int)) (s:Int):Option (List (List Int)) :=
 (Hk (On tab s) out [s]).bind fun own=>qd (own.length≤12∧own.length≠0∧out.length≤1000) ((Kc (fun r=>Ld r tab s) out).bind fun rest=>some (rest++[GR own]))
def J5 (tab:qb) (qo:List Int):Option (List (List Int)) :=
 qd (qo.length≤1000) ((Hk (M3 tab) qo []).bind fun out=>qd (out.length≤12∧out.all LK=true) (some (HG out)))
theorem UU {H:List au} {tab:qb} {c:Nat} {s:Int} (aT:H[0]?=some (HH tab)) (ak:H[c]?=some (.cells [hG s])):[I.ptr 0 0,.ptr c 0].map (h6 H)=[.bT [Gq tab],.bT [hG s]] :=
 rp (HF aT rfl) (rp (HF ak rfl) rT)
theorem UT (tab:qb) (s:Int):[I.bT [Gq tab],.bT [hG s]].all (cl 8)=true :=
 p5 (q' (p5 (q' (p5 rfl (p5 (q4 (fun _=>(p5 rfl (p5 rfl rfl))) _ _ _) rfl))) rfl)) (p5 rfl rfl)
theorem ac7 {tab:qb} {s:Int} {out:List (List Int)} {own:List Int} {x c i n:Nat} {sl:I} {H1:List au} (bG:Hk (On tab s) out [s]=some own) (hlen:out.length≤1000) (Gx:H1[x]?=some (.grow (out.map i') (x+1) 1)) (aT:H1[0]?=some (HH tab)) (ak:H1[c]?=some (.cells [hG s]))
  {Q:cC→List I→List au→Prop} (av:Q (.exit 2) (F2 46 [(2,.ptr 0 0),(5,.cf x (x+1) out.length 1),(8,.func 98 [] [.ptr 0 0,.ptr c 0]),(9,.ax (own.map hG) own.length (.uniq 1)),(12,sl),(13,hG n),(14,hG i),(21,.ref x 0 out.length none 1),(22,hG out.length),(23,hG out.length),(24,B (decide ((out.length:Int)<(out.length:Int))))]) H1)
  {T:List I} (bW:eL [false,false,true,false,false,true,false,false,true,true,false,false,true,true,true,false,false,false,false,false,false,true,true,true,false,false,false,false,false,false,false,false,false,false,false,false,false,false,false,false,false,false,false,false,false,false] T=F2 46 [(2,.ptr 0 0),(5,.cf x (x+1) out.length 1),(8,.func 98 [] [.ptr 0 0,.ptr c 0]),(9,.ax [hG s] 1 (.uniq 1)),(12,sl),(13,hG n),(14,hG i),(21,.ref x 0 out.length none 1),(22,hG out.length),(23,hG (0:Nat))]) :
  dB Tryz.prog Ll 79 0 none LI T H1 Q:=by
 unfold LI;obtain ⟨bm,cp⟩:∃ c,OU=c:=⟨_,rfl⟩;rw [cp];refine wp_loop bW ?_;obtain ⟨F,P8,Fn,P9⟩:=QL bG;refine .intro (fun m T H=>∃ k:Nat,k≤out.length∧m=out.length-k∧T=F2 46 [(2,.ptr 0 0),(5,.cf x (x+1) out.length 1),(8,.func 98 [] [.ptr 0 0,.ptr c 0]),(9,.ax ((F k).map hG) (F k).length (.uniq 1)),(12,sl),(13,hG n),(14,hG i),(21,.ref x 0 out.length none 1),(22,hG out.length),(23,hG k)]∧H=H1) out.length ⟨0,by omega,by omega,by rw [P8];rfl,rfl⟩ ?_;clear bW;rintro m T H ⟨k,akG,rfl,rfl,rfl⟩;conv=>whnf
 refine Hj (fun aY=>?_) (fun aY=>?_)
 ·have aY:k<out.length:=by omega
  conv=>whnf
  subst cp;unfold OU;obtain ⟨a',cn⟩:∃ c,Sq=c:=⟨_,rfl⟩;rw [cn];refine HI fun mv Gy=>?_;conv=>whnf
  refine ⟨by omega,?_⟩;conv=>whnf
  refine Dj Gx ?_;conv=>whnf
  refine Dj (SN out rfl aY) ?_;conv=>whnf
  obtain ⟨b,ag,ai⟩:=qi (P9 k aY);refine ⟨_,_,Hv (cs:=[i' out[k],.bT [Gq tab],.bT [hG s]]) (bs:=[i' out[k],.bT [Gq tab],.bT [hG s]]) (rp rfl (UU aT ak)) rfl (p5 (rF (fun _=>rfl) _ _ _) (UT tab s)) (ZA ag) rfl,?_⟩;conv=>whnf
  cases b with
  | true =>
    rw [if_pos rfl] at ai;obtain ⟨aq,ai⟩:=qD ai;have ai:=Option.some.inj ai;(conv=>whnf);subst cn;unfold Sq;(conv=>whnf);refine ⟨by simp,by omega,rfl,aq,?_⟩;erw [abP hG (F k) out[k]];rw [ai];(conv=>whnf);refine Gy _ _ _ ?_;(conv=>whnf);exact ⟨out.length-(k+1),by omega,k+1,by omega,rfl,by rw [←rW k (by omega)] <;> rfl,rfl⟩
  | false =>
    have ai:=Option.some.inj ai;(conv=>whnf);refine Gy _ _ _ ?_;(conv=>whnf);exact ⟨out.length-(k+1),by omega,k+1,by omega,rfl,by rw [←ai,←rW k (by omega)] <;> rfl,rfl⟩
 ·obtain rfl:k=out.length:=by omega
  conv=>whnf
  rw [Fn];exact av
theorem ac8 {s:Int} {c i n:Nat} {sl:I} {H1:List au}
  {Q:cC→List I→List au→Prop} (av:Q (.exit 2) (F2 46 [(2,.ptr 0 0),(5,.ax [] 0 .full),(8,.func 98 [] [.ptr 0 0,.ptr c 0]),(9,.ax [hG s] 1 (.uniq 1)),(12,sl),(13,hG n),(14,hG i),(21,.ax [] 0 .full),(22,hG 0),(23,hG 0),(24,B false)]) H1)
  {T:List I} (bW:eL [false,false,true,false,false,true,false,false,true,true,false,false,true,true,true,false,false,false,false,false,false,true,true,true,false,false,false,false,false,false,false,false,false,false,false,false,false,false,false,false,false,false,false,false,false,false] T=F2 46 [(2,.ptr 0 0),(5,.ax [] 0 .full),(8,.func 98 [] [.ptr 0 0,.ptr c 0]),(9,.ax [hG s] 1 (.uniq 1)),(12,sl),(13,hG n),(14,hG i),(21,.ax [] 0 .full),(22,hG 0),(23,hG 0)]) :
  dB Tryz.prog Ll 79 0 none LI T H1 Q:=by
 unfold LI;obtain ⟨bm,cp⟩:∃ c,OU=c:=⟨_,rfl⟩;rw [cp];refine wp_loop bW ?_;refine .intro (fun m T H=>T=F2 46 [(2,.ptr 0 0),(5,.ax [] 0 .full),(8,.func 98 [] [.ptr 0 0,.ptr c 0]),(9,.ax [hG s] 1 (.uniq 1)),(12,sl),(13,hG n),(14,hG i),(21,.ax [] 0 .full),(22,hG 0),(23,hG 0)]∧H=H1) 0 ⟨rfl,rfl⟩ ?_;clear bW;rintro m T H ⟨rfl,rfl⟩;conv=>whnf
 exact av
def Jw (tab:qb) (out:List (List Int)) (v5:I) (H:List au):Prop :=
 H[0]?=some (HH tab)∧((out=[]∧v5=.ax [] 0 .full)∨∃ X:List au,0<X.length∧v5=.cf X.length (X.length+1) out.length 1∧H=X++[.grow (out.map i') (X.length+1) 1,.dead])
theorem Jw.mk' {tab:qb} {out:List (List Int)} {X:List au} (h:X[0]?=some (HH tab)) {l:List I} (aq:l=out.map i') {n:Nat} (aP:n=out.length):Jw tab out (.cf X.length (X.length+1) n 1) (X++[.grow l (X.length+1) 1,.dead]):=by
 subst aq aP;have ad:=(List.getElem?_eq_some_iff.1 h).1;exact ⟨qU h,.inr ⟨X,ad,rfl,rfl⟩⟩
theorem qZ {H:List au} {i j:Nat} {o c:au} (h:H[i]?=some o) (aP:j≠i):(H.set j c)[i]?=some o:=by rw [List.getElem?_set_ne aP];exact h
theorem Vi {P:Program} {C:cc} {id n:Nat} {o:Oper} {x:Operand} {H:List au} (l:List Int) (ar:o.op=.move x) (aP:n=l.length) (ah:H[id]?=some (.cells (l.map hG))) :
  a6 P C 0 o 2 [.ref id 0 n none 1] H=some (i' l,H.set id .dead) :=
 acJ (cs:=l.map hG) (sz:=1) ar (Nat.zero_le _) ah aP (by simp) (ah2 (fun _=>rfl) _)
theorem Wx {tab:qb} {s:Int} {out rest:List (List Int)} {own:List Int} {v5:I} {H:List au} {i n:Nat} {sl:I} (cg:Jw tab out v5 H) (Lo:own.length≤12) (bY:own.length≠0) (hlen:out.length≤1000) (a2:Kc (fun r=>Ld r tab s) out=some rest)
  {v21 v22 v23 v24:I} {Q:cC→List I→List au→Prop} (av:∀ LR H' S8 S3 S4 S5 S6 LO LP LQ S7,Jw tab (rest++[GR own]) LR H'→Q .normal (F2 46 [(2,.ptr 0 0),(5,LR),(9,S8),(12,sl),(13,hG n),(14,hG i),(21,v21),(22,v22),(23,v23),(24,v24),(34,S3),(35,S4),(36,S5),(37,S6),(38,LO),(39,LP),(40,LQ),(41,S7)]) H') :
  dB Tryz.prog Ll 79 0 none OW (F2 46 [(2,.ptr 0 0),(5,v5),(8,.func 98 [] [.ptr 0 0,.ptr H.length 0]),(9,.ax (own.map hG) own.length (.uniq 1)),(12,sl),(13,hG n),(14,hG i),(21,v21),(22,v22),(23,v23),(24,v24)]) (H++[.cells [hG s]]) Q:=by
 unfold OW;obtain ⟨bt,ed⟩:∃ c,Sr=c:=⟨_,rfl⟩;rw [ed];obtain ⟨aT,cg⟩:=cg;have fA:=(List.getElem?_eq_some_iff.1 aT).1;conv=>whnf
 refine .inl ⟨bY,?_⟩;conv=>whnf
 refine ⟨_,_,G9 (ahf own (Nat.zero_le _) Lo rfl (IK _ _)),?_⟩;rw [rK];conv=>whnf
 subst ed;unfold Sr;rcases cg with ⟨rfl,rfl⟩ | ⟨X,Vz,rfl,rfl⟩
 ·obtain rfl:rest=[]:=(Option.some.inj a2).symm;conv=>whnf
  refine ⟨_,_,G9 aci,?_⟩;conv=>whnf
  refine ⟨_,_,fun C=>Vi (GR own) rfl (Xs own).symm (IK _ _),?_⟩;rw [rK];conv=>whnf
  refine ⟨⟨rfl,by decide⟩,?_⟩;conv=>whnf
  refine ⟨⟨by decide,by decide,rfl⟩,?_⟩;conv=>whnf
  exact av _ _ _ _ _ _ _ _ _ _ _ (Jw.mk' (qU (qU aT)) rfl rfl)
 ·conv=>whnf
  refine ⟨_,_,G9 (ack (g:=X.length+1) (cs:=[.bT [Gq tab],.bT [hG s]]) a2 (Nat.zero_le _) (fun c=>UU (qZ (qU (qU aT)) (by omega)) (qZ (qU (IK _ _)) (by simp))) rfl (UT tab s) hlen rfl (fun _ _ ag=>ZA ag) (qU (qU (GO _ _)))),?_⟩;conv=>whnf
  refine ⟨_,_,fun C=>Vi (GR own) rfl (Xs own).symm (qZ (IK _ _) (by simp <;> omega)),?_⟩;conv=>whnf
  refine ⟨⟨rfl,by decide⟩,?_⟩;conv=>whnf
  have aj:rest.length≤out.length:=by
   obtain ⟨p,_,e⟩:=U2 a2;rw [e];exact List.length_filter_le _ _
  refine ⟨⟨rfl,by decide,by omega⟩,?_⟩;conv=>whnf
  exact av _ _ _ _ _ _ _ _ _ _ _ (Jw.mk' (qZ (qZ (qU (qU aT)) (by omega)) (by simp)) (by rw [List.map_append];rfl) (by simp))
theorem afK {tab:qb} {qo:List Int} {LH:List (List Int)} {H:List au} (bG:Hk (M3 tab) qo []=some LH) (Cx:qo.length≤1000) (aT:H[0]?=some (HH tab))
  {Q:cC→List I→List au→Prop} (av:∀ v5 H',Jw tab LH v5 H'→Q (.exit 0) (F2 46 [(2,.ptr 0 0),(5,v5),(12,i' qo),(13,hG qo.length),(14,hG qo.length),(15,B (decide ((qo.length:Int)<(qo.length:Int))))]) H')
  {T:List I} (bW:eL [false,false,true,false,false,true,false,false,false,false,false,false,true,true,true,false,false,false,false,false,false,false,false,false,false,false,false,false,false,false,false,false,false,false,false,false,false,false,false,false,false,false,false,false,false,false] T=F2 46 [(2,.ptr 0 0),(5,.ax [] 0 .full),(12,i' qo),(13,hG qo.length),(14,hG (0:Nat))]) :
  dB Tryz.prog Ll 79 0 none OV T H Q:=by
 unfold OV;obtain ⟨fN,Gw⟩:∃ c,Su=c:=⟨_,rfl⟩;rw [Gw];refine wp_loop bW ?_;obtain ⟨F,P8,Fn,P9⟩:=QL bG;refine .intro (fun m T H=>∃ (i:Nat) (v5:I),i≤qo.length∧m=qo.length-i∧Jw tab (F i) v5 H∧T=F2 46 [(2,.ptr 0 0),(5,v5),(12,i' qo),(13,hG qo.length),(14,hG i)]) qo.length ⟨0,_,by omega,by omega,⟨aT,.inl ⟨P8,rfl⟩⟩,rfl⟩ ?_;clear bW aT;rintro m T H ⟨i,v5,hi,rfl,cg,rfl⟩;conv=>whnf
 refine Hj (fun aY=>?_) (fun aY=>?_)
 ·have aY:i<qo.length:=by omega
  obtain ⟨own,m4,aD⟩:=qi (P9 i aY);obtain ⟨⟨Lo,bY,hlen⟩,aD⟩:=qD aD;obtain ⟨rest,a2,aD⟩:=qi aD;have aD:=Option.some.inj aD;conv=>whnf
  subst Gw;unfold Su;obtain ⟨dQ,Bp⟩:∃ c,St=c:=⟨_,rfl⟩;rw [Bp];refine HI fun mv Gy=>?_;conv=>whnf
  refine ⟨by omega,?_⟩;conv=>whnf
  refine afv _ _ _ (aY) ?_;conv=>whnf
  refine Dj (IK _ _) ?_;conv=>whnf
  rw [rK];conv=>whnf
  subst Bp;unfold St;obtain ⟨b6,il⟩:∃ c,Ss=c:=⟨_,rfl⟩;rw [il];conv=>whnf
  refine Dj (IK _ _) ?_;conv=>whnf
  subst il;unfold Ss;obtain ⟨Qx,H3⟩:∃ c,LI=c:=⟨_,rfl⟩;obtain ⟨akv,QN⟩:∃ c,OW=c:=⟨_,rfl⟩;rw [H3,QN];have oE:=cg;obtain ⟨aT,cg⟩:=cg;rcases cg with ⟨ar,rfl⟩ | ⟨X,Vz,rfl,ah⟩
  ·(conv=>whnf);subst H3;have Cd:own=[qo[i]]:=by
    rw [ar] at m4;exact (Option.some.inj m4).symm
   refine ac8 (s:=qo[i]) (c:=H.length) (n:=qo.length) (i:=i) (sl:=i' qo) ?_ (by exact rfl);(conv=>whnf);subst QN;refine Wx (own:=own) (v5:=.ax [] 0 .full) oE Lo bY hlen a2 (v21:=.ax [] 0 .full) (v22:=hG 0) (v23:=hG 0) (v24:=B false) ?_ |> cast (by rw [Cd];rfl)
   intro LR H' S8 S3 S4 S5 S6 LO LP LQ S7 IP;(conv=>whnf);refine Gy _ _ _ ?_;(conv=>whnf);exact ⟨qo.length-(i+1),by omega,i+1,LR,by omega,rfl,by rw [←aD];exact IP,by rw [←rW i (by omega)] <;> rfl⟩
  ·(conv=>whnf);subst H3;refine ac7 (x:=X.length) (c:=H.length) (n:=qo.length) (i:=i) (sl:=i' qo) m4 hlen (qU (by rw [ah];exact GO _ _)) (qU aT) (IK _ _) ?_ (by exact rfl);(conv=>whnf);subst QN;refine Wx (own:=own) oE Lo bY hlen a2 ?_;intro LR H' S8 S3 S4 S5 S6 LO LP LQ S7 IP;(conv=>whnf);refine Gy _ _ _ ?_;(conv=>whnf);exact ⟨qo.length-(i+1),by omega,i+1,LR,by omega,rfl,by rw [←aD];exact IP,by rw [←rW i (by omega)] <;> rfl⟩
 ·obtain rfl:i=qo.length:=by omega
  conv=>whnf
  exact av _ _ (by rw [←Fn];exact cg)
theorem Tv {t:qb} {qo:List Int} {v:List (List Int)} (h:J5 t qo=some v):qC 79 [Gq t,.ax (qo.map hG) qo.length .shared] (.ax (v.map i') v.length .shared):=by
 obtain ⟨Cx,h⟩:=qD h;obtain ⟨out,bG,h⟩:=qi h;obtain ⟨⟨Lo,cO⟩,h⟩:=qD h;obtain rfl:=Option.some.inj h;refine qN dD aeo rfl (rF (fun _=>(rF (fun _=>rfl) _ _ _)) _ _ _) fun Q bz=>?_;have lj:∀ T H,HZ [.tmp 4] (.ax ((HG out).map i') (HG out).length .shared) .ret T H→Q .ret T H:=fun T H bJ=>bz _ T H bJ;unfold WY;obtain ⟨mD,Hw⟩:∃ c,Sw=c:=⟨_,rfl⟩;rw [Hw];conv=>whnf
 subst Hw;unfold Sw;obtain ⟨Qx,H3⟩:∃ c,OV=c:=⟨_,rfl⟩;obtain ⟨mC,GG⟩:∃ c,Sv=c:=⟨_,rfl⟩;rw [H3,GG];conv=>whnf
 subst H3;refine afK (tab:=t) bG Cx rfl ?_ (by exact rfl);intro v5 H' cg;conv=>whnf
 subst GG;unfold Sv;obtain ⟨aT,cg⟩:=cg;rcases cg with ⟨rfl,rfl⟩ | ⟨X,Vz,rfl,rfl⟩
 ·have e:HG []=[]:=List.eq_nil_of_length_eq_zero (by rw [SV];rfl);rw [e] at lj;conv=>whnf
  refine ⟨_,_,G9 ahg,?_⟩;conv=>whnf
  refine ⟨_,_,fun C=>rfl,?_⟩;conv=>whnf
  exact lj _ _ ⟨.inr rfl,_,rfl,_,ox rfl,rfl⟩
 ·conv=>whnf
  refine ⟨_,_,G9 (ahk out (Nat.zero_le _) Lo cO rfl (GO X _)),?_⟩;rw [Is];conv=>whnf
  refine ⟨_,_,fun C=>Oa rfl (Nat.zero_le _) (GO X _) (by rw [List.length_map,SV,Nat.mul_one]),?_⟩;rw [S_ (fun _=>rfl),Is];conv=>whnf
  rw [SV] at lj;exact lj _ _ ⟨.inr rfl,_,rfl,_,ox (rF (fun _=>(rF (fun _=>rfl) _ _ _)) _ _ _),rfl⟩
end Go.Proofs.YtfakoboiahbhaaaGreat.Ab


namespace Go.Proofs.YtfakoboiahbhaaaGreat.Ab
open Go
def Xy:qL:=.pure 100 [.bT [.int .i64 4,.ax [.int .i64 0,.int .i64 1,.int .i64 1,.int .i64 2,.int .i64 2,.int .i64 0,.int .i64 2,.int .i64 3] 4 .shared],.int .i64 0,.int .i64 0] (.bool true)
theorem ahq:qY Go.Proofs.Tryz.prog Xy:=sh (p:=16) (by kernel_rfl)
def Xz:qL:=.pure 100 [.bT [.int .i64 4,.ax [.int .i64 0,.int .i64 1,.int .i64 1,.int .i64 2,.int .i64 2,.int .i64 0,.int .i64 2,.int .i64 3] 4 .shared],.int .i64 0,.int .i64 1] (.bool true)
theorem ahr:qY Go.Proofs.Tryz.prog Xz:=sh (p:=16) (by kernel_rfl)
def XA:qL:=.pure 100 [.bT [.int .i64 4,.ax [.int .i64 0,.int .i64 1,.int .i64 1,.int .i64 2,.int .i64 2,.int .i64 0,.int .i64 2,.int .i64 3] 4 .shared],.int .i64 0,.int .i64 2] (.bool true)
theorem ahs:qY Go.Proofs.Tryz.prog XA:=sh (p:=16) (by kernel_rfl)
def XB:qL:=.pure 100 [.bT [.int .i64 4,.ax [.int .i64 0,.int .i64 1,.int .i64 1,.int .i64 2,.int .i64 2,.int .i64 0,.int .i64 2,.int .i64 3] 4 .shared],.int .i64 0,.int .i64 3] (.bool false)
theorem aht:qY Go.Proofs.Tryz.prog XB:=sh (p:=16) (by kernel_rfl)
def XC:qL:=.pure 100 [.bT [.int .i64 4,.ax [.int .i64 0,.int .i64 1,.int .i64 1,.int .i64 2,.int .i64 2,.int .i64 0,.int .i64 2,.int .i64 3] 4 .shared],.int .i64 1,.int .i64 0] (.bool true)
theorem ahu:qY Go.Proofs.Tryz.prog XC:=sh (p:=16) (by kernel_rfl)
def XD:qL:=.pure 100 [.bT [.int .i64 4,.ax [.int .i64 0,.int .i64 1,.int .i64 1,.int .i64 2,.int .i64 2,.int .i64 0,.int .i64 2,.int .i64 3] 4 .shared],.int .i64 1,.int .i64 1] (.bool true)
theorem ahv:qY Go.Proofs.Tryz.prog XD:=sh (p:=16) (by kernel_rfl)
def XE:qL:=.pure 100 [.bT [.int .i64 4,.ax [.int .i64 0,.int .i64 1,.int .i64 1,.int .i64 2,.int .i64 2,.int .i64 0,.int .i64 2,.int .i64 3] 4 .shared],.int .i64 1,.int .i64 2] (.bool true)
theorem ahw:qY Go.Proofs.Tryz.prog XE:=sh (p:=16) (by kernel_rfl)
def XF:qL:=.pure 100 [.bT [.int .i64 4,.ax [.int .i64 0,.int .i64 1,.int .i64 1,.int .i64 2,.int .i64 2,.int .i64 0,.int .i64 2,.int .i64 3] 4 .shared],.int .i64 1,.int .i64 3] (.bool true)
theorem ahx:qY Go.Proofs.Tryz.prog XF:=sh (p:=16) (by kernel_rfl)
def XG:qL:=.pure 100 [.bT [.int .i64 4,.ax [.int .i64 0,.int .i64 1,.int .i64 1,.int .i64 2,.int .i64 2,.int .i64 0,.int .i64 2,.int .i64 3] 4 .shared],.int .i64 2,.int .i64 0] (.bool true)
theorem ahy:qY Go.Proofs.Tryz.prog XG:=sh (p:=16) (by kernel_rfl)
def XH:qL:=.pure 100 [.bT [.int .i64 4,.ax [.int .i64 0,.int .i64 1,.int .i64 1,.int .i64 2,.int .i64 2,.int .i64 0,.int .i64 2,.int .i64 3] 4 .shared],.int .i64 2,.int .i64 1] (.bool true)
theorem ahz:qY Go.Proofs.Tryz.prog XH:=sh (p:=16) (by kernel_rfl)
def XI:qL:=.pure 100 [.bT [.int .i64 4,.ax [.int .i64 0,.int .i64 1,.int .i64 1,.int .i64 2,.int .i64 2,.int .i64 0,.int .i64 2,.int .i64 3] 4 .shared],.int .i64 2,.int .i64 2] (.bool true)
theorem ahA:qY Go.Proofs.Tryz.prog XI:=sh (p:=16) (by kernel_rfl)
def XJ:qL:=.pure 100 [.bT [.int .i64 4,.ax [.int .i64 0,.int .i64 1,.int .i64 1,.int .i64 2,.int .i64 2,.int .i64 0,.int .i64 2,.int .i64 3] 4 .shared],.int .i64 2,.int .i64 3] (.bool true)
theorem ahB:qY Go.Proofs.Tryz.prog XJ:=sh (p:=16) (by kernel_rfl)
def XK:qL:=.pure 100 [.bT [.int .i64 4,.ax [.int .i64 0,.int .i64 1,.int .i64 1,.int .i64 2,.int .i64 2,.int .i64 0,.int .i64 2,.int .i64 3] 4 .shared],.int .i64 3,.int .i64 0] (.bool false)
theorem ahC:qY Go.Proofs.Tryz.prog XK:=sh (p:=16) (by kernel_rfl)
def XL:qL:=.pure 100 [.bT [.int .i64 4,.ax [.int .i64 0,.int .i64 1,.int .i64 1,.int .i64 2,.int .i64 2,.int .i64 0,.int .i64 2,.int .i64 3] 4 .shared],.int .i64 3,.int .i64 1] (.bool true)
theorem ahD:qY Go.Proofs.Tryz.prog XL:=sh (p:=16) (by kernel_rfl)
def XM:qL:=.pure 100 [.bT [.int .i64 4,.ax [.int .i64 0,.int .i64 1,.int .i64 1,.int .i64 2,.int .i64 2,.int .i64 0,.int .i64 2,.int .i64 3] 4 .shared],.int .i64 3,.int .i64 2] (.bool true)
theorem ahE:qY Go.Proofs.Tryz.prog XM:=sh (p:=16) (by kernel_rfl)
def XN:qL:=.pure 100 [.bT [.int .i64 4,.ax [.int .i64 0,.int .i64 1,.int .i64 1,.int .i64 2,.int .i64 2,.int .i64 0,.int .i64 2,.int .i64 3] 4 .shared],.int .i64 3,.int .i64 3] (.bool true)
theorem ahF:qY Go.Proofs.Tryz.prog XN:=sh (p:=16) (by kernel_rfl)
def XP:qL:=.pure 100 [.bT [.int .i64 5,.ax [.int .i64 0,.int .i64 1,.int .i64 2,.int .i64 3,.int .i64 4,.int .i64 4] 3 .shared],.int .i64 0,.int .i64 0] (.bool true)
theorem ahJ:qY Go.Proofs.Tryz.prog XP:=sh (p:=16) (by kernel_rfl)
def XQ:qL:=.pure 100 [.bT [.int .i64 5,.ax [.int .i64 0,.int .i64 1,.int .i64 2,.int .i64 3,.int .i64 4,.int .i64 4] 3 .shared],.int .i64 0,.int .i64 1] (.bool false)
theorem ahK:qY Go.Proofs.Tryz.prog XQ:=sh (p:=16) (by kernel_rfl)
def XR:qL:=.pure 100 [.bT [.int .i64 5,.ax [.int .i64 0,.int .i64 1,.int .i64 2,.int .i64 3,.int .i64 4,.int .i64 4] 3 .shared],.int .i64 0,.int .i64 2] (.bool false)
theorem ahL:qY Go.Proofs.Tryz.prog XR:=sh (p:=16) (by kernel_rfl)
def XS:qL:=.pure 100 [.bT [.int .i64 5,.ax [.int .i64 0,.int .i64 1,.int .i64 2,.int .i64 3,.int .i64 4,.int .i64 4] 3 .shared],.int .i64 1,.int .i64 0] (.bool false)
theorem ahM:qY Go.Proofs.Tryz.prog XS:=sh (p:=16) (by kernel_rfl)
def XT:qL:=.pure 100 [.bT [.int .i64 5,.ax [.int .i64 0,.int .i64 1,.int .i64 2,.int .i64 3,.int .i64 4,.int .i64 4] 3 .shared],.int .i64 1,.int .i64 1] (.bool true)
theorem ahN:qY Go.Proofs.Tryz.prog XT:=sh (p:=16) (by kernel_rfl)
def XU:qL:=.pure 100 [.bT [.int .i64 5,.ax [.int .i64 0,.int .i64 1,.int .i64 2,.int .i64 3,.int .i64 4,.int .i64 4] 3 .shared],.int .i64 1,.int .i64 2] (.bool false)
theorem ahO:qY Go.Proofs.Tryz.prog XU:=sh (p:=16) (by kernel_rfl)
def XV:qL:=.pure 100 [.bT [.int .i64 5,.ax [.int .i64 0,.int .i64 1,.int .i64 2,.int .i64 3,.int .i64 4,.int .i64 4] 3 .shared],.int .i64 2,.int .i64 0] (.bool false)
theorem ahP:qY Go.Proofs.Tryz.prog XV:=sh (p:=16) (by kernel_rfl)
def XW:qL:=.pure 100 [.bT [.int .i64 5,.ax [.int .i64 0,.int .i64 1,.int .i64 2,.int .i64 3,.int .i64 4,.int .i64 4] 3 .shared],.int .i64 2,.int .i64 1] (.bool false)
theorem ahQ:qY Go.Proofs.Tryz.prog XW:=sh (p:=16) (by kernel_rfl)
def XX:qL:=.pure 100 [.bT [.int .i64 5,.ax [.int .i64 0,.int .i64 1,.int .i64 2,.int .i64 3,.int .i64 4,.int .i64 4] 3 .shared],.int .i64 2,.int .i64 2] (.bool true)
theorem ahR:qY Go.Proofs.Tryz.prog XX:=sh (p:=16) (by kernel_rfl)
def XY:qL:=.pure 100 [.bT [.int .i64 2,.ax [.int .i64 0,.int .i64 1,.int .i64 1,.int .i64 0] 2 .shared],.int .i64 0,.int .i64 0] (.bool true)
theorem ahS:qY Go.Proofs.Tryz.prog XY:=sh (p:=16) (by kernel_rfl)
def XZ:qL:=.pure 100 [.bT [.int .i64 2,.ax [.int .i64 0,.int .i64 1,.int .i64 1,.int .i64 0] 2 .shared],.int .i64 0,.int .i64 1] (.bool true)
theorem ahT:qY Go.Proofs.Tryz.prog XZ:=sh (p:=16) (by kernel_rfl)
def X0:qL:=.pure 100 [.bT [.int .i64 2,.ax [.int .i64 0,.int .i64 1,.int .i64 1,.int .i64 0] 2 .shared],.int .i64 1,.int .i64 0] (.bool true)
theorem ahU:qY Go.Proofs.Tryz.prog X0:=sh (p:=16) (by kernel_rfl)
def X1:qL:=.pure 100 [.bT [.int .i64 2,.ax [.int .i64 0,.int .i64 1,.int .i64 1,.int .i64 0] 2 .shared],.int .i64 1,.int .i64 1] (.bool true)
theorem ahV:qY Go.Proofs.Tryz.prog X1:=sh (p:=16) (by kernel_rfl)
def X6:List qL:=[Xy,Xz,XA,XB,XC,XD,XE,XF,XG,XH,XI,XJ,XK,XL,XM,XN,XP,XQ,XR,XS,XT,XU,XV,XW,XX,XY,XZ,X0,X1]
theorem Gu:∀ e∈X6,qY Go.Proofs.Tryz.prog e:=by
 simp only [X6,List.forall_mem_cons];exact ⟨ahq,ahr,ahs,aht,ahu,ahv,ahw,ahx,ahy,ahz,ahA,ahB,ahC,ahD,ahE,ahF,ahJ,ahK,ahL,ahM,ahN,ahO,ahP,ahQ,ahR,ahS,ahT,ahU,ahV,by simp⟩
end Go.Proofs.YtfakoboiahbhaaaGreat.Ab


namespace Go.Proofs.YtfakoboiahbhaaaGreat.Ab
open Go
def bE:qL:=.pure 18 [.agg [.int .i64 4,.ax [.int .i64 0,.int .i64 1,.int .i64 1,.int .i64 2,.int .i64 2,.int .i64 0,.int .i64 2,.int .i64 3] 4 .shared],.ax [.int .i64 0,.int .i64 0,.int .i64 1,.int .i64 0,.int .i64 3,.int .i64 0] 3 .shared] (.tuple [.int .i64 0,.int .i64 3,.int .i64 0])
theorem aif:qY Go.Proofs.Tryz.prog bE:=Gd Gu (by kernel_rfl)
def bS:qL:=.pure 18 [.agg [.int .i64 4,.ax [.int .i64 0,.int .i64 1,.int .i64 1,.int .i64 2,.int .i64 2,.int .i64 0,.int .i64 2,.int .i64 3] 4 .shared],.ax [.int .i64 0,.int .i64 0,.int .i64 1,.int .i64 0,.int .i64 2,.int .i64 0,.int .i64 0,.int .i64 0] 4 .shared] (.tuple [.int .i64 0,.int .i64 0,.int .i64 11])
theorem ail:qY Go.Proofs.Tryz.prog bS:=Gd Gu (by kernel_rfl)
def F9:qL:=.pure 18 [.agg [.int .i64 4,.ax [.int .i64 0,.int .i64 1,.int .i64 1,.int .i64 2,.int .i64 2,.int .i64 0,.int .i64 2,.int .i64 3] 4 .shared],.ax [.int .i64 0,.int .i64 0,.int .i64 2,.int .i64 0] 2 .shared] (.tuple [.int .i64 0,.int .i64 0,.int .i64 27])
theorem aim:qY Go.Proofs.Tryz.prog F9:=Gd Gu (by kernel_rfl)
def Iv:qL:=.pure 18 [.agg [.int .i64 4,.ax [.int .i64 0,.int .i64 1,.int .i64 1,.int .i64 2,.int .i64 2,.int .i64 0,.int .i64 2,.int .i64 3] 4 .shared],.ax [.int .i64 0,.int .i64 0,.int .i64 4,.int .i64 0] 2 .shared] (.tuple [.int .i64 0,.int .i64 0,.int .i64 3])
theorem ain:qY Go.Proofs.Tryz.prog Iv:=Gd Gu (by kernel_rfl)
def LS:qL:=.pure 18 [.agg [.int .i64 4,.ax [.int .i64 0,.int .i64 1,.int .i64 1,.int .i64 2,.int .i64 2,.int .i64 0,.int .i64 2,.int .i64 3] 4 .shared],.ax [] 0 .shared] (.tuple [.int .i64 0,.int .i64 0,.int .i64 6])
theorem aio:qY Go.Proofs.Tryz.prog LS:=Gd Gu (by kernel_rfl)
def Yt:qL:=.pure 25 [.agg [.int .i64 4,.ax [.int .i64 0,.int .i64 1,.int .i64 1,.int .i64 2,.int .i64 2,.int .i64 0,.int .i64 2,.int .i64 3] 4 .shared],.ax [.ax [.int .i64 0,.int .i64 0,.int .i64 1,.int .i64 0,.int .i64 3,.int .i64 0] 3 .shared,.ax [.int .i64 2,.int .i64 0] 1 .shared] 2 .shared] (.tuple [.int .i64 2,.int .i64 0])
theorem aip:qY Go.Proofs.Tryz.prog Yt:=Gd Gu (by kernel_rfl)
def Yu:qL:=.pure 25 [.agg [.int .i64 4,.ax [.int .i64 0,.int .i64 1,.int .i64 1,.int .i64 2,.int .i64 2,.int .i64 0,.int .i64 2,.int .i64 3] 4 .shared],.ax [.ax [.int .i64 0,.int .i64 0,.int .i64 1,.int .i64 0,.int .i64 3,.int .i64 0] 3 .shared] 1 .shared] (.tuple [.int .i64 0,.int .i64 15])
theorem aiq:qY Go.Proofs.Tryz.prog Yu:=Gd Gu (by kernel_rfl)
def Yv:qL:=.pure 25 [.agg [.int .i64 4,.ax [.int .i64 0,.int .i64 1,.int .i64 1,.int .i64 2,.int .i64 2,.int .i64 0,.int .i64 2,.int .i64 3] 4 .shared],.ax [.ax [.int .i64 0,.int .i64 0,.int .i64 1,.int .i64 0,.int .i64 3,.int .i64 0] 3 .shared,.ax [.int .i64 2,.int .i64 0,.int .i64 0,.int .i64 0] 2 .shared] 2 .shared] (.tuple [.int .i64 0,.int .i64 11])
theorem air:qY Go.Proofs.Tryz.prog Yv:=Gd Gu (by kernel_rfl)
def Yw:qL:=.pure 22 [.agg [.int .i64 2,.ax [.int .i64 0,.int .i64 1,.int .i64 1,.int .i64 0] 2 .shared],.ax [.int .i64 0,.int .i64 0,.int .i64 1,.int .i64 0] 2 .shared] (.int .i64 0)
theorem ais:qY Go.Proofs.Tryz.prog Yw:=Gd Gu (by kernel_rfl)
def Yf:qL:=.pure 22 [.agg [.int .i64 2,.ax [.int .i64 0,.int .i64 1,.int .i64 1,.int .i64 0] 2 .shared],.ax [.int .i64 0,.int .i64 0] 1 .shared] (.int .i64 15)
theorem ah6:qY Go.Proofs.Tryz.prog Yf:=Gd Gu (by kernel_rfl)
def Yg:qL:=.pure 27 [.agg [.int .i64 4,.ax [.int .i64 0,.int .i64 1,.int .i64 1,.int .i64 2,.int .i64 2,.int .i64 0,.int .i64 2,.int .i64 3] 4 .shared]] (.tuple [.ax [.int .i64 2,.int .i64 3] 2 .full,.int .i64 0])
theorem ah7:qY Go.Proofs.Tryz.prog Yg:=Gd Gu (by kernel_rfl)
def Yh:qL:=.pure 29 [.agg [.int .i64 5,.ax [.int .i64 0,.int .i64 1,.int .i64 2,.int .i64 3,.int .i64 4,.int .i64 4] 3 .shared]] (.tuple [.ax [.ax [.int .i64 0] 1 .shared,.ax [.int .i64 1] 1 .shared,.ax [.int .i64 2] 1 .shared] 3 .shared,.int .i64 0])
theorem ah8:qY Go.Proofs.Tryz.prog Yh:=Gd Gu (by kernel_rfl)
def Yi:qL:=.pure 35 [.agg [.int .i64 5,.ax [.int .i64 0,.int .i64 1,.int .i64 2,.int .i64 3,.int .i64 4,.int .i64 4] 3 .shared]] (.tuple [.int .i64 3,.int .i64 0])
theorem ah9:qY Go.Proofs.Tryz.prog Yi:=Gd Gu (by kernel_rfl)
def Yj:qL:=.pure 41 [.agg [.int .i64 5,.ax [.int .i64 0,.int .i64 1,.int .i64 2,.int .i64 3,.int .i64 4,.int .i64 4] 3 .shared]] (.tuple [.ax [.ax [.int .i64 0,.int .i64 0] 1 .shared,.ax [.int .i64 1,.int .i64 0] 1 .shared,.ax [.int .i64 2,.int .i64 0] 1 .shared] 3 .shared,.int .i64 0])
theorem ah_:qY Go.Proofs.Tryz.prog Yj:=Gd Gu (by kernel_rfl)
def Yl:qL:=.pure 37 [.agg [.int .i64 5,.ax [.int .i64 0,.int .i64 1,.int .i64 2,.int .i64 3,.int .i64 4,.int .i64 4] 3 .shared]] (.tuple [.ax [] 0 .shared,.int .i64 27])
theorem aib:qY Go.Proofs.Tryz.prog Yl:=Gd Gu (by kernel_rfl)
def Ym:qL:=.pure 42 [.agg [.int .i64 2,.ax [.int .i64 0,.int .i64 1,.int .i64 1,.int .i64 0] 2 .shared]] (.tuple [.ax [.int .i64 0,.int .i64 0,.int .i64 1,.int .i64 0] 2 .shared,.int .i64 0])
theorem aic:qY Go.Proofs.Tryz.prog Ym:=Gd Gu (by kernel_rfl)
def Yo:qL:=.pure 39 [.agg [.int .i64 5,.ax [.int .i64 0,.int .i64 1,.int .i64 2,.int .i64 3,.int .i64 4,.int .i64 4] 3 .shared]] (.tuple [.int .i64 3,.int .i64 0])
theorem aie:qY Go.Proofs.Tryz.prog Yo:=Gd Gu (by kernel_rfl)
def Yp:qL:=.pure 31 [.agg [.int .i64 4,.ax [.int .i64 0,.int .i64 1,.int .i64 1,.int .i64 2,.int .i64 2,.int .i64 0,.int .i64 2,.int .i64 3] 4 .shared]] (.tuple [.ax [.int .i64 3] 1 .shared,.int .i64 0])
theorem aih:qY Go.Proofs.Tryz.prog Yp:=Gd Gu (by kernel_rfl)
def Yq:qL:=.pure 45 [.agg [.int .i64 4,.ax [.int .i64 0,.int .i64 1,.int .i64 1,.int .i64 2,.int .i64 2,.int .i64 0,.int .i64 2,.int .i64 3] 4 .shared],.int .i64 0,.int .i64 3] (.tuple [.ax [.int .i64 2,.int .i64 1,.int .i64 3,.int .i64 0] 2 .shared,.int .i64 0])
theorem aii:qY Go.Proofs.Tryz.prog Yq:=Gd Gu (by kernel_rfl)
def Yr:qL:=.pure 45 [.agg [.int .i64 4,.ax [.int .i64 0,.int .i64 1,.int .i64 1,.int .i64 2,.int .i64 2,.int .i64 0,.int .i64 2,.int .i64 3] 4 .shared],.int .i64 1,.int .i64 1] (.tuple [.ax [] 0 .shared,.int .i64 2])
theorem aij:qY Go.Proofs.Tryz.prog Yr:=Gd Gu (by kernel_rfl)
def Ys:qL:=.pure 45 [.agg [.int .i64 5,.ax [.int .i64 0,.int .i64 1,.int .i64 2,.int .i64 3,.int .i64 4,.int .i64 4] 3 .shared],.int .i64 0,.int .i64 2] (.tuple [.ax [] 0 .shared,.int .i64 5])
theorem aik:qY Go.Proofs.Tryz.prog Ys:=Gd Gu (by kernel_rfl)
end Go.Proofs.YtfakoboiahbhaaaGreat.Ab
