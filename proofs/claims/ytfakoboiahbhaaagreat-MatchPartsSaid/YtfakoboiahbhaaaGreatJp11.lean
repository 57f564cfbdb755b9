
import Derived.Test.YtfakoboiahbhaaaGreatJp10
import Derived.Laws.BitsLemmas
import Derived.Test.YtfakoboiahbhaaaGreatJp4
import Derived.Test.YtfakoboiahbhaaaGreatJp8
import Derived.Test.YtfakoboiahbhaaaGreatJp9
import Derived.KernelRfl
set_option linter.unusedSimpArgs false
set_option linter.unusedVariables false
set_option linter.unusedSectionVars false

open Array renaming size_setIfInBounds→sr
open BitVec renaming eq_of_toNat_eq→vo
open Bool renaming and_eq_true→r_,and_self→sL,and_true→sN,not_eq_false'→wa,not_eq_true'→ta
open List renaming all_cons→sG,all_nil→sM,getElem?_append_left→se,getElem?_eq_some_iff→rV,getElem?_set_ne→sa,getElem?_set_self→rY,set_append_left→ve,set_getElem_self→tC,set_set→rZ
open Nat renaming ble_eq_true_of_le→sX,le_refl→rX,mod_eq_of_lt→ur,zero_le→si
open Option renaming bind_some→rW
namespace Go.Proofs.YtfakoboiahbhaaaGreat.Ab.Pq
open Go
set_option maxRecDepth 20000
set_option maxHeartbeats 4000000
section
variable {H:List au} {id lo:Nat}
theorem SG (d:Array Int) (q9 a b s:Nat) (ai:lo≤q9) (cg:a<d.size) (ag:b<d.size) (a0:d.size≤1000) (dN:s≤1000) (ah:H[id]?=some (qe d)) (cp:H[q9]?=some (.cells [hS s])) :
  Sem Go.Proofs.Tryz.prog (.fn 147) [qk id d.size,hS a,hS b,.ptr q9 0] H lo (.tuple [hS (Sort.order2 Sort.ltInt d a b s).1,hS (Sort.order2 Sort.ltInt d a b s).2.1]) (H.set q9 (.cells [hS (Sort.order2 Sort.ltInt d a b s).2.2])):=by
 have aE:=(rV.1 cp).1;refine JG dI afC rfl ⟨by simp,fun j ad af=>by rw [sa (by omega)]⟩ ?_;unfold Yr;conv=>whnf
 have Cd:Nat.ble lo q9=true:=sX ai;refine ⟨by omega,?_⟩;conv=>whnf
 refine DX ah ?_;conv=>whnf
 refine qv b (by omega) (by omega) ?_;conv=>whnf
 refine ⟨by omega,?_⟩;conv=>whnf
 refine DX ah ?_;conv=>whnf
 refine qv a (by omega) (by omega) ?_;conv=>whnf
 refine ⟨by first | rfl | simp only [sG,sM,GY,G6,GZ,G1,G0,G2,G8,G7,rQ,G3,G4,G5,sN,sL],_,HV d[b]! d[a]!,GX,?_⟩
 conv=>whnf
 by_cases h:d[b]!<d[a]!
 ·have e:Sort.order2 Sort.ltInt d a b s=(b,a,s+1):=if_pos (decide_eq_true h);rw [decide_eq_true h,e];conv=>whnf
  refine DX cp ?_;conv=>whnf
  rw [Cd];conv=>whnf
  refine DX cp ?_;conv=>whnf
  rw [qU s (by omega)];exact ⟨.inr rfl,⟨by simp,fun j o aw=>.inr aw⟩,rfl⟩
 ·have e:Sort.order2 Sort.ltInt d a b s=(a,b,s):=if_neg (by simp only [Sort.ltInt,decide_eq_true_eq];exact h);rw [decide_eq_false h,e];conv=>whnf
  have cr:H.set q9 (.cells [hS s])=H:=by
   obtain ⟨ad,af⟩:=rV.1 cp;rw [←af,tC]
  exact ⟨.inr rfl,by rw [cr];exact ⟨rfl,fun j o aw=>.inr aw⟩,rfl⟩
theorem J6 (d:Array Int) (a b s:Nat):(Sort.order2 Sort.ltInt d a b s).2.2≤s+1∧((Sort.order2 Sort.ltInt d a b s).1=a∧(Sort.order2 Sort.ltInt d a b s).2.1=b∨(Sort.order2 Sort.ltInt d a b s).1=b∧(Sort.order2 Sort.ltInt d a b s).2.1=a):=by
 unfold Sort.order2;split
 ·exact ⟨rX _,.inr ⟨rfl,rfl⟩⟩
 ·exact ⟨by simp,.inl ⟨rfl,rfl⟩⟩
theorem SA (d:Array Int) (q9 a b c s:Nat) (bO:q9≠id) (ai:lo≤q9) (cg:a<d.size) (ag:b<d.size) (ao:c<d.size) (a0:d.size≤1000) (dN:s≤900) (ah:H[id]?=some (qe d)) (cp:H[q9]?=some (.cells [hS s])) :
  Sem Go.Proofs.Tryz.prog (.fn 136) [qk id d.size,hS a,hS b,hS c,.ptr q9 0] H lo (hS (Sort.median Sort.ltInt d a b c s).1) (H.set q9 (.cells [hS (Sort.median Sort.ltInt d a b c s).2])):=by
 have aE:=(rV.1 cp).1;have eh:∀ x:Nat,(H.set q9 (.cells [hS x]))[id]?=some (qe d):=fun x=>by rw [sa bO];exact ah
 have gs:∀ x:Nat,(H.set q9 (.cells [hS x]))[q9]?=some (.cells [hS x]):=fun x=>by rw [rY aE]
 refine JG dI afA rfl ⟨by simp,fun j ad af=>by rw [sa (by omega)]⟩ ?_;unfold Yp;conv=>whnf
 obtain ⟨t1,fs⟩:=J6 d a b s;refine ⟨_,_,qS (SG d q9 a b s ai cg ag a0 (by omega) ah cp),?_⟩;generalize dr:Sort.order2 Sort.ltInt d a b s=aS at t1 fs ⊢;conv=>whnf
 obtain ⟨t2,gi⟩:=J6 d aS.2.1 c aS.2.2;refine ⟨_,_,qS (SG d q9 aS.2.1 c aS.2.2 ai (by omega) ao a0 (by omega) (eh _) (gs _)),?_⟩;generalize CY:Sort.order2 Sort.ltInt d aS.2.1 c aS.2.2=bk at t2 gi ⊢;rw [rZ];conv=>whnf
 obtain ⟨t3,FH⟩:=J6 d aS.1 bk.1 bk.2.2;refine ⟨_,_,qS (SG d q9 aS.1 bk.1 bk.2.2 ai (by omega) (by omega) a0 (by omega) (eh _) (gs _)),?_⟩;generalize Sb:Sort.order2 Sort.ltInt d aS.1 bk.1 bk.2.2=eE at t3 FH ⊢;rw [rZ];conv=>whnf
 have e:Sort.median Sort.ltInt d a b c s=(eE.2.1,eE.2.2):=by unfold Sort.median;simp only [dr,CY,Sb]
 rw [e];exact ⟨.inr rfl,⟨by simp,fun j o aw=>.inr aw⟩,rfl⟩
theorem Sy (d:Array Int) (a b c s:Nat):(Sort.median Sort.ltInt d a b c s).1=a∨(Sort.median Sort.ltInt d a b c s).1=b∨(Sort.median Sort.ltInt d a b c s).1=c:=by
 unfold Sort.median;simp only;generalize dr:Sort.order2 Sort.ltInt d a b s=aS;generalize CY:Sort.order2 Sort.ltInt d aS.2.1 c aS.2.2=bk;obtain ⟨_,fs⟩:=J6 d a b s;obtain ⟨_,gi⟩:=J6 d aS.2.1 c aS.2.2;obtain ⟨_,FH⟩:=J6 d aS.1 bk.1 bk.2.2;rw [dr] at fs;rw [CY] at gi;omega
theorem Sz (d:Array Int) (a b c s:Nat):(Sort.median Sort.ltInt d a b c s).2≤s+3:=by
 unfold Sort.median;simp only;generalize dr:Sort.order2 Sort.ltInt d a b s=aS;generalize CY:Sort.order2 Sort.ltInt d aS.2.1 c aS.2.2=bk;have fs:=(J6 d a b s).1;have gi:=(J6 d aS.2.1 c aS.2.2).1;have FH:=(J6 d aS.1 bk.1 bk.2.2).1;rw [dr] at fs;rw [CY] at gi;omega
theorem Sx (d:Array Int) (q9 a s:Nat) (bO:q9≠id) (ai:lo≤q9) (cg:1≤a) (aeC:a+1<d.size) (a0:d.size≤1000) (dN:s≤900) (ah:H[id]?=some (qe d)) (cp:H[q9]?=some (.cells [hS s])) :
  Sem Go.Proofs.Tryz.prog (.fn 135) [qk id d.size,hS a,.ptr q9 0] H lo (hS (Sort.medianAdjacent Sort.ltInt d a s).1) (H.set q9 (.cells [hS (Sort.medianAdjacent Sort.ltInt d a s).2])):=by
 have aE:=(rV.1 cp).1;refine JG dI afz rfl ⟨by simp,fun j ad af=>by rw [sa (by omega)]⟩ ?_;unfold Yo;conv=>whnf
 rw [show IntKind.i64.wrap ((a:Int)-1)=((a-1:Nat):Int) by rw [qm _ (by omega) (by omega)];omega,qU a (by omega)];refine ⟨_,_,qS (SA d q9 (a-1) a (a+1) s bO ai (by omega) (by omega) aeC a0 dN ah cp),?_⟩;conv=>whnf
 exact ⟨.inr rfl,⟨by simp,fun j o aw=>.inr aw⟩,rfl⟩
def LC:Sort.Hint→Int
 | .unknown=>0 | .increasing=>1 | .decreasing=>2
theorem J2 (X:List au) (x:au):jj (X++[x]) (X++[.dead]):=by
 refine ⟨by simp,fun j o aw=>?_⟩;by_cases h:j<X.length
 ·rw [se h] at aw ⊢;exact .inr aw
 ·rw [List.getElem?_append_right (by omega)] at aw;obtain ⟨ad,af⟩:=rV.1 aw;simp at ad;simp [show j-X.length=0 by omega] at af;exact .inl af.symm
theorem agY (d:Array Int) (a b:Nat) (bF:lo≤id) (a0:d.size≤1000) (cg:a<b) (ag:b≤d.size) (ak:lo≤H.length) (ah:H[id]?=some (qe d)) :
  Sem Go.Proofs.Tryz.prog (.fn 118) [qk id d.size,hS a,hS b] H lo (.tuple [hS (Sort.choosePivot Sort.ltInt d a b).1,hS (LC (Sort.choosePivot Sort.ltInt d a b).2)]) (H++[.dead]):=by
 have aE:=(rV.1 ah).1;refine JG dI afq rfl ⟨by simp,fun j ad af=>by rw [se af]⟩ ?_;unfold X5;conv=>whnf
 have bY:∀ o:au,(H++[o])[id]?=some (qe d):=fun o=>by rw [se aE];exact ah
 have gs:∀ o:au,(H++[o])[H.length]?=some o:=fun o=>by simp
 have w0:IntKind.i64.wrap ((b:Int)-(a:Int))=((b-a:Nat):Int):=by rw [qm _ (by omega) (by omega)];omega
 have MW:IntKind.i64.wrap (((b-a:Nat):Int).tdiv 4)=(((b-a) / 4:Nat):Int):=by
  rw [show ((b-a:Nat):Int).tdiv 4=(((b-a) / 4:Nat):Int) from rfl,qm _ (by omega) (by omega)]
 have Ut:IntKind.i64.wrap ((a:Int)+IntKind.i64.wrap ((((b-a) / 4:Nat):Int)*1))=((a+(b-a) / 4*1:Nat):Int):=by rw [qm ((((b-a) / 4:Nat):Int)*1) (by omega) (by omega),qm _ (by omega) (by omega)];omega
 have Uu:IntKind.i64.wrap ((a:Int)+IntKind.i64.wrap ((((b-a) / 4:Nat):Int)*2))=((a+(b-a) / 4*2:Nat):Int):=by rw [qm ((((b-a) / 4:Nat):Int)*2) (by omega) (by omega),qm _ (by omega) (by omega)];omega
 have ajJ:IntKind.i64.wrap ((a:Int)+IntKind.i64.wrap ((((b-a) / 4:Nat):Int)*3))=((a+(b-a) / 4*3:Nat):Int):=by rw [qm ((((b-a) / 4:Nat):Int)*3) (by omega) (by omega),qm _ (by omega) (by omega)];omega
 rw [w0];refine ⟨by decide,?_⟩;conv=>whnf
 rw [MW,Ut];refine ⟨by decide,?_⟩;conv=>whnf
 rw [MW,Uu];refine ⟨by decide,?_⟩;conv=>whnf
 rw [ajJ];by_cases cT:(8:Int)≤((b-a:Nat):Int)
 ·rw [decide_eq_true cT];conv=>whnf
  have eh:∀ o e:au,((H++[o]).set H.length e)=H++[e]:=fun o e=>by simp
  by_cases NC:(50:Int)≤((b-a:Nat):Int)
  ·rw [decide_eq_true NC];(conv=>whnf);refine ⟨_,_,qS (Sx d H.length (a+(b-a) / 4*1) 0 (by omega) ak (by omega) (by omega) a0 (by omega) (bY _) (gs _)),?_⟩;rw [eh];have q1:(Sort.medianAdjacent Sort.ltInt d (a+(b-a) / 4*1) 0).2≤3:=Sz _ _ _ _ _;(have bq:(Sort.medianAdjacent Sort.ltInt d (a+(b-a) / 4*1) 0).1<d.size:=by rcases Sy d (a+(b-a) / 4*1-1) (a+(b-a) / 4*1) (a+(b-a) / 4*1+1) 0 with h | h | h <;> (unfold Sort.medianAdjacent;omega));generalize dr:Sort.medianAdjacent Sort.ltInt d (a+(b-a) / 4*1) 0=aS at q1 bq ⊢;(conv=>whnf);refine ⟨_,_,qS (Sx d H.length (a+(b-a) / 4*2) aS.2 (by omega) ak (by omega) (by omega) a0 (by omega) (bY _) (gs _)),?_⟩;rw [eh];have aX:(Sort.medianAdjacent Sort.ltInt d (a+(b-a) / 4*2) aS.2).2≤aS.2+3:=Sz _ _ _ _ _;(have cK:(Sort.medianAdjacent Sort.ltInt d (a+(b-a) / 4*2) aS.2).1<d.size:=by rcases Sy d (a+(b-a) / 4*2-1) (a+(b-a) / 4*2) (a+(b-a) / 4*2+1) aS.2 with h | h | h <;> (unfold Sort.medianAdjacent;omega));generalize CY:Sort.medianAdjacent Sort.ltInt d (a+(b-a) / 4*2) aS.2=bk at aX cK ⊢;(conv=>whnf);refine ⟨_,_,qS (Sx d H.length (a+(b-a) / 4*3) bk.2 (by omega) ak (by omega) (by omega) a0 (by omega) (bY _) (gs _)),?_⟩;rw [eh];have cB:(Sort.medianAdjacent Sort.ltInt d (a+(b-a) / 4*3) bk.2).2≤bk.2+3:=Sz _ _ _ _ _;(have eA:(Sort.medianAdjacent Sort.ltInt d (a+(b-a) / 4*3) bk.2).1<d.size:=by rcases Sy d (a+(b-a) / 4*3-1) (a+(b-a) / 4*3) (a+(b-a) / 4*3+1) bk.2 with h | h | h <;> (unfold Sort.medianAdjacent;omega));generalize Sb:Sort.medianAdjacent Sort.ltInt d (a+(b-a) / 4*3) bk.2=eE at cB eA ⊢;(conv=>whnf);refine ⟨_,_,qS (SA d H.length aS.1 bk.1 eE.1 eE.2 (by omega) ak bq cK eA a0 (by omega) (bY _) (gs _)),?_⟩;rw [eh];generalize hm:Sort.median Sort.ltInt d aS.1 bk.1 eE.1 eE.2=m;have e:Sort.choosePivot Sort.ltInt d a b=(m.1,if m.2=0 then .increasing else if m.2=12 then .decreasing else .unknown):=by
    unfold Sort.choosePivot;simp only [if_pos (show b-a≥8 by omega),if_pos (show b-a≥50 by omega),dr,CY,Sb,hm]
   rw [e];(conv=>whnf);refine DX (gs _) ?_;(conv=>whnf);by_cases aT:((m.2:Nat):Int)=0
   ·rw [decide_eq_true aT];(conv=>whnf);rw [if_pos (show m.2=0 by omega)];exact ⟨.inr rfl,J2 _ _,rfl⟩
   ·rw [decide_eq_false aT];(conv=>whnf);rw [if_neg (show ¬ m.2=0 by omega)];by_cases ad:((m.2:Nat):Int)=12
    ·rw [decide_eq_true ad];(conv=>whnf);rw [if_pos (show m.2=12 by omega)];exact ⟨.inr rfl,J2 _ _,rfl⟩
    ·rw [decide_eq_false ad];(conv=>whnf);rw [if_neg (show ¬ m.2=12 by omega)];exact ⟨.inr rfl,J2 _ _,rfl⟩
  ·rw [decide_eq_false NC];(conv=>whnf);refine ⟨_,_,qS (SA d H.length (a+(b-a) / 4*1) (a+(b-a) / 4*2) (a+(b-a) / 4*3) 0 (by omega) ak (by omega) (by omega) (by omega) a0 (by omega) (bY _) (gs _)),?_⟩;rw [eh];generalize hm:Sort.median Sort.ltInt d (a+(b-a) / 4*1) (a+(b-a) / 4*2) (a+(b-a) / 4*3) 0=m;have e:Sort.choosePivot Sort.ltInt d a b=(m.1,if m.2=0 then .increasing else if m.2=12 then .decreasing else .unknown):=by
    unfold Sort.choosePivot;simp only [if_pos (show b-a≥8 by omega),if_neg (show ¬ b-a≥50 by omega),hm]
   rw [e];(conv=>whnf);refine DX (gs _) ?_;(conv=>whnf);by_cases aT:((m.2:Nat):Int)=0
   ·rw [decide_eq_true aT];(conv=>whnf);rw [if_pos (show m.2=0 by omega)];exact ⟨.inr rfl,J2 _ _,rfl⟩
   ·rw [decide_eq_false aT];(conv=>whnf);rw [if_neg (show ¬ m.2=0 by omega)];by_cases ad:((m.2:Nat):Int)=12
    ·rw [decide_eq_true ad];(conv=>whnf);rw [if_pos (show m.2=12 by omega)];exact ⟨.inr rfl,J2 _ _,rfl⟩
    ·rw [decide_eq_false ad];(conv=>whnf);rw [if_neg (show ¬ m.2=12 by omega)];exact ⟨.inr rfl,J2 _ _,rfl⟩
 ·rw [decide_eq_false cT];have e:Sort.choosePivot Sort.ltInt d a b=(a+(b-a) / 4*2,.increasing):=by
   unfold Sort.choosePivot;simp only [if_neg (show ¬ b-a≥8 by omega)];rfl
  rw [e];conv=>whnf
  refine DX (gs _) ?_;conv=>whnf
  exact ⟨.inr rfl,J2 _ _,rfl⟩
end
end Go.Proofs.YtfakoboiahbhaaaGreat.Ab.Pq


namespace Go.Proofs.YtfakoboiahbhaaaGreat.Ab.Pq
open Go
set_option maxRecDepth 20000
set_option maxHeartbeats 4000000
theorem JR (n:Int):IntKind.u64.wrap n=n % 18446744073709551616:=by simp [IntKind.wrap,IntKind.bits,IntKind.signed]
theorem So:((List.range 256).all fun n=>match Qd [] 97 [.int .u64 (n:Nat)] with | some v=>Im 3 v (hS (Sort.bitsLen n)) | none=>false)=true:=by kernel_rfl
theorem Lp (n:Nat) (h:n<256):qt 97 [.int .u64 n] (hS (Sort.bitsLen n)):=by
 have:=List.all_eq_true.1 So n (List.mem_range.2 h);split at this
 ·rename_i v ae;rw [MB _ _ _ this] at ae;exact GO (l:=[]) (by simp) ae
 ·cases this
theorem V1 (n:Nat) (h:n<256):Sort.bitsLen n≤8:=by
 have:∀ n:Fin 256,Sort.bitsLen n.1≤8:=by decide +kernel
 exact this ⟨n,h⟩
theorem ag2 (n:Nat) (h:n<256):qt 133 [hS n] (.int .u64 ((1 <<< Sort.bitsLen n:Nat):Int)):=by
 refine F8 dI afx rfl rfl ?_;unfold Yl;conv=>whnf
 rw [show IntKind.u64.wrap (n:Int)=(n:Int) by rw [JR];omega];refine ⟨by first | rfl | simp only [sG,sM,GY,G6,GZ,G1,G0,G2,G8,G7,rQ,G3,G4,G5,sN,sL],_,Lp n h,?_⟩
 conv=>whnf
 have ag:=V1 n h;have e:IntKind.u64.wrap (1*2 ^ ((Sort.bitsLen n:Nat):Int).toNat.min IntKind.u64.bits)=((1 <<< Sort.bitsLen n:Nat):Int):=by
  generalize Sort.bitsLen n=m at ag
  have:∀ m:Fin 9,IntKind.u64.wrap (1*2 ^ ((m.1:Nat):Int).toNat.min IntKind.u64.bits)=((1 <<< m.1:Nat):Int):=by decide
  exact this ⟨m,by omega⟩
 rw [e];refine ⟨by omega,?_⟩;conv=>whnf
 exact Gw (.inr rfl) rfl rfl
theorem u64_xor (a b:UInt64):IntKind.u64.wrap (((BitVec.ofInt IntKind.u64.bits (a.toNat:Int) ^^^ BitVec.ofInt IntKind.u64.bits (b.toNat:Int)).toNat:Nat):Int)=((a ^^^ b).toNat:Int):=by
 have ad:BitVec.ofInt IntKind.u64.bits (a.toNat:Int)=a.toBitVec:=by
  apply vo;simp [IntKind.bits]
 have af:BitVec.ofInt IntKind.u64.bits (b.toNat:Int)=b.toBitVec:=by
  apply vo;simp [IntKind.bits]
 rw [ad,af,JR];have:=(a ^^^ b).toNat_lt;show ((a ^^^ b).toNat:Int) % 18446744073709551616=_;omega
theorem ai9:((2 ^ 64:Nat):Int)=18446744073709551616:=by decide
theorem Zw (a k:UInt64) (m:Nat) (av:k.toNat=m) (h:m<64):IntKind.u64.wrap ((a.toNat:Int)*2 ^ m)=((a <<< k).toNat:Int):=by
 subst av;rw [JR,UInt64.toNat_shiftLeft,ur h,Nat.shiftLeft_eq,Int.natCast_emod,ai9,Int.natCast_mul,Int.natCast_pow];congr 1
theorem ai_ (a k:UInt64) (m:Nat) (av:k.toNat=m) (h:m<64):((a.toNat:Int).fdiv (2 ^ m))=((a >>> k).toNat:Int):=by
 subst av;rw [UInt64.toNat_shiftRight,ur h,Nat.shiftRight_eq_div_pow];rw [Int.fdiv_eq_ediv_of_nonneg _ (Int.pow_nonneg (by decide)),Int.natCast_ediv,Int.natCast_pow];congr 1
theorem rH {P:Program} (dI:P.follows .mixedOrders=true) {k:Nat} {A:c9} {rc:ez} {n:Nat} {ts:List jl} (ak:zg P A k=some (rc,n,ts)) {lo:Nat} {args T:List I} {H H':List au} (bZ:args++List.replicate (n-args.length) .junk=T) {v:I} (pt:bb lo H H')
  (h:∀ Q:cD→List I→List au→Prop,(∀ e fh H1,(e=.normal∨e=.ret)∧jj H1 H'∧(j2 H1 fh ts).map hc=some v→Q e fh H1)→dC P A k lo none rc T H Q):Sem P (.fn k) args H lo v H' :=
 JG dI ak bZ pt (h _ fun _ _ _ h=>h)
section
variable {H:List au} {lo:Nat}
theorem agw (r:UInt64) (q9:Nat) (ai:lo≤q9) (cp:H[q9]?=some (.cells [.int .u64 (r.toNat:Nat)])) :
  Sem Go.Proofs.Tryz.prog (.fn 134) [.ptr q9 0] H lo (.int .u64 ((Sort.xorNext r).toNat:Nat)) (H.set q9 (.cells [.int .u64 ((Sort.xorNext r).toNat:Nat)])):=by
 have aE:=(rV.1 cp).1;refine rH dI afy rfl ⟨by simp,fun j ad af=>by rw [sa (by omega)]⟩ fun Q bn=>?_;have Cd:Nat.ble lo q9=true:=sX ai;have gs:∀ c:au,(H.set q9 c)[q9]?=some c:=fun c=>by rw [rY aE]
 have qa:∀ c e:au,((H.set q9 c).set q9 e)[q9]?=some e:=fun c e=>by rw [rZ,gs]
 obtain ⟨aS,ad⟩:∃ aS,aS=r ^^^ (r <<< 13):=⟨_,rfl⟩;obtain ⟨bk,af⟩:∃ bk,bk=aS ^^^ (aS >>> 7):=⟨_,rfl⟩;obtain ⟨eE,aG⟩:∃ eE,eE=bk ^^^ (bk <<< 17):=⟨_,rfl⟩;have dF:Sort.xorNext r=eE:=by subst aG af ad;rfl
 rw [dF] at bn;unfold Ym Yn;obtain ⟨bt,dZ⟩:∃ c,TD=c:=⟨_,rfl⟩;rw [dZ];conv=>whnf
 refine DX (cp) ?_;conv=>whnf
 refine DX (cp) ?_;conv=>whnf
 refine ⟨by decide,?_⟩;rw [show IntKind.u64.wrap ((r.toNat:Int)*2 ^ ((13:Int).toNat.min IntKind.u64.bits))=((r <<< 13).toNat:Int) from Zw r 13 13 rfl (by decide)];conv=>whnf
 rw [u64_xor,←ad,Cd];conv=>whnf
 refine DX (cp) ?_;conv=>whnf
 subst dZ;unfold TD;obtain ⟨bm,b_⟩:∃ c,TC=c:=⟨_,rfl⟩;rw [b_];conv=>whnf
 refine DX (gs _) ?_;conv=>whnf
 refine DX (gs _) ?_;conv=>whnf
 refine ⟨by decide,?_⟩;rw [show ((aS.toNat:Int).fdiv (2 ^ ((7:Int).toNat.min IntKind.u64.bits)))=((aS >>> 7).toNat:Int) from ai_ aS 7 7 rfl (by decide)];conv=>whnf
 rw [u64_xor,←af,Cd];conv=>whnf
 refine DX (gs _) ?_;conv=>whnf
 rw [rZ];subst b_;unfold TC;obtain ⟨ba,cd⟩:∃ c,TB=c:=⟨_,rfl⟩;rw [cd];conv=>whnf
 refine DX (gs _) ?_;conv=>whnf
 refine DX (gs _) ?_;conv=>whnf
 refine ⟨by decide,?_⟩;rw [show IntKind.u64.wrap ((bk.toNat:Int)*2 ^ ((17:Int).toNat.min IntKind.u64.bits))=((bk <<< 17).toNat:Int) from Zw bk 17 17 rfl (by decide)];conv=>whnf
 rw [u64_xor,←aG,Cd];conv=>whnf
 refine DX (gs _) ?_;conv=>whnf
 rw [rZ];subst cd;unfold TB;conv=>whnf
 refine DX (gs _) ?_;conv=>whnf
 exact bn _ _ _ ⟨.inr rfl,⟨by simp,fun j o aw=>.inr aw⟩,rfl⟩
theorem ab3 (x L:Nat) (cT:8≤L) (h:L<256):(x &&& ((1 <<< Sort.bitsLen L)-1))<2*L∧1≤1 <<< Sort.bitsLen L∧1 <<< Sort.bitsLen L≤512:=by
 have key:∀ n:Fin 256,(8≤n.1→(1 <<< Sort.bitsLen n.1)-1<2*n.1)∧1≤1 <<< Sort.bitsLen n.1∧1 <<< Sort.bitsLen n.1≤512:=by decide +kernel
 have ad:=key ⟨L,h⟩;have af:(x &&& ((1 <<< Sort.bitsLen L)-1))≤(1 <<< Sort.bitsLen L)-1:=Nat.and_le_right;exact ⟨Nat.lt_of_le_of_lt af (ad.1 cT),ad.2⟩
theorem u64_and (x:UInt64) (m:Nat) (h:m<18446744073709551616):IntKind.u64.wrap (((BitVec.ofInt IntKind.u64.bits (x.toNat:Int) &&& BitVec.ofInt IntKind.u64.bits (m:Int)).toNat:Nat):Int)=((x.toNat &&& m:Nat):Int):=by
 have ad:BitVec.ofInt IntKind.u64.bits (x.toNat:Int)=BitVec.ofNat 64 x.toNat:=by
  apply vo;simp [IntKind.bits]
 have af:BitVec.ofInt IntKind.u64.bits (m:Int)=BitVec.ofNat 64 m:=by
  apply vo;simp [IntKind.bits]
 rw [ad,af,JR];have e:(BitVec.ofNat 64 x.toNat &&& BitVec.ofNat 64 m).toNat=x.toNat &&& m:=by
  rw [BitVec.toNat_and,BitVec.toNat_ofNat,BitVec.toNat_ofNat,ur (by have:=x.toNat_lt;omega),ur (by omega)]
 show ((BitVec.ofNat 64 x.toNat &&& BitVec.ofNat 64 m).toNat:Int) % 18446744073709551616=_;rw [e]
 have:x.toNat &&& m≤m:=Nat.and_le_right
 omega
theorem YM {α:Type} (X:List α) (y z:α) (n:Nat) (h:X.length=n):(X++[y]).set n z=X++[z]:=by subst h;simp
theorem WG {α:Type} (X:List α) (y:α) (n:Nat) (h:X.length=n):(X++[y])[n]?=some y:=by subst h;simp
theorem YL {α:Type} (X:List α) (y z:α) (n:Nat) (h:n<X.length):(X++[y]).set n z=X.set n z++[y]:=ve _ _ h
noncomputable def JC (a L M idx:Nat) (d:Array Int):Nat→UInt64×Array Int
 | 0=>(UInt64.ofNat L,d)
 | k+1=>Sort.breakStep a L M (JC a L M idx d k) (idx+k)
theorem V3 (a L M idx:Nat) (d:Array Int):∀ k,(JC a L M idx d k).2.size=d.size
 | 0=>rfl
 | k+1=>by
   simp only [JC,Sort.breakStep];rw [swp_size];exact V3 a L M idx d k
theorem afc {idx a L k:Nat} (h:idx=a+L / 4*2-1) (fk:8≤L) (av:k≤3) (ao:¬ ((idx+k:Nat):Int)≤((a+L / 4*2+1:Nat):Int)):k=3:=by omega
theorem afb {idx a L k:Nat} (h:idx=a+L / 4*2-1) (fk:8≤L) (ao:((idx+k:Nat):Int)≤((a+L / 4*2+1:Nat):Int)):k<3:=by omega
theorem adp (id:Nat) (bF:lo≤id) (d:Array Int) (a b:Nat) (a0:d.size≤1000) (cg:a≤b) (ag:b≤d.size) (WI:b-a<256) (ah:H[id]?=some (qe d)) :
  Sem Go.Proofs.Tryz.prog (.fn 117) [qk id d.size,hS a,hS b] H lo (.tuple []) (H.set id (qe (Sort.breakPatterns d a b))++if 8≤b-a then [.dead] else []):=by
 have aE:=(rV.1 ah).1;refine rH dI afp rfl ⟨by simp,fun j ad af=>by rw [se (by simp;omega),sa (by omega)]⟩ fun Q bn=>?_;unfold X4;obtain ⟨fR,rJ⟩:∃ c,S8=c:=⟨_,rfl⟩;rw [rJ];conv=>whnf
 have Cd:Nat.ble lo id=true:=sX bF;rw [show IntKind.i64.wrap ((b:Int)-(a:Int))=((b-a:Nat):Int) by rw [qm _ (by omega) (by omega)];omega];by_cases cT:(8:Int)≤((b-a:Nat):Int)
 ·rw [decide_eq_true cT];conv=>whnf
  subst rJ;unfold S8;obtain ⟨dX,B2⟩:∃ c,S7=c:=⟨_,rfl⟩;rw [B2];conv=>whnf
  rw [show IntKind.u64.wrap (((b-a:Nat):Nat):Int)=((b-a:Nat):Int) by rw [JR];omega];rw [show Nat.ble lo H.length=true from sX (by omega)];conv=>whnf
  refine DX (WG _ _ _ rfl) ?_;conv=>whnf
  rw [YM _ _ _ _ rfl];refine ⟨by first | rfl | simp only [sG,sM,GY,G6,GZ,G1,G0,G2,G8,G7,rQ,G3,G4,G5,sN,sL],_,ag2 (b-a) WI,?_⟩
  conv=>whnf
  obtain ⟨L,fk⟩:∃ L,L=b-a:=⟨_,rfl⟩;obtain ⟨M,B9⟩:∃ M,M=1 <<< Sort.bitsLen (b-a):=⟨_,rfl⟩;have hand:=fun x=>ab3 x (b-a) (by omega) WI;rw [←B9] at hand ⊢;rw [←fk] at hand bn ⊢;rw [if_pos (by omega)] at bn;have alN:=(hand 0).2;have Ut:IntKind.i64.wrap (IntKind.i64.wrap ((a:Int)+IntKind.i64.wrap (IntKind.i64.wrap ((L:Int).tdiv 4)*2))-1)=((a+L / 4*2-1:Nat):Int):=by
   rw [show (L:Int).tdiv 4=((L / 4:Nat):Int) from rfl,qm ((L / 4:Nat):Int) (by omega) (by omega),qm (((L / 4:Nat):Int)*2) (by omega) (by omega),qm ((a:Int)+_) (by omega) (by omega),qm _ (by omega) (by omega)];omega
  have Uu:IntKind.i64.wrap (IntKind.i64.wrap ((a:Int)+IntKind.i64.wrap (IntKind.i64.wrap ((L:Int).tdiv 4)*2))+1)=((a+L / 4*2+1:Nat):Int):=by
   rw [show (L:Int).tdiv 4=((L / 4:Nat):Int) from rfl,qm ((L / 4:Nat):Int) (by omega) (by omega),qm (((L / 4:Nat):Int)*2) (by omega) (by omega),qm ((a:Int)+_) (by omega) (by omega),qm _ (by omega) (by omega)];omega
  conv=>whnf
  conv=>whnf
  subst B2;unfold S7;obtain ⟨b9,hq⟩:∃ c,S6=c:=⟨_,rfl⟩;rw [hq];conv=>whnf
  refine ⟨by decide,?_⟩;conv=>whnf
  rw [Ut];obtain ⟨idx,Pu⟩:∃ i,i=a+L / 4*2-1:=⟨_,rfl⟩;have he:Sort.breakPatterns d a b=(JC a L M idx d 3).2:=by
   rw [Sort.breakPatterns,←fk,if_pos (by omega),Pu,B9,fk];rfl
  rw [he] at bn;refine .intro (fun m T H'=>∃ k,k≤3∧m=3-k∧T=GH 65 [(0,qk id d.size),(1,hS a),(6,hS L),(7,.ptr H.length 0),(8,.int .u64 M),(9,hS (idx+k:Nat))]∧H'=H.set id (qe (JC a L M idx d k).2)++[.cells [.int .u64 ((JC a L M idx d k).1.toNat:Nat)]]) 3 ⟨0,by omega,rfl,?_,?_⟩ ?_
  ·rw [←Pu];rfl
  ·obtain ⟨ad,af⟩:=rV.1 ah;(have e:(UInt64.ofNat L).toNat=L:=by simp;omega);show H++[au.cells [.int .u64 ((L:Nat):Int)]]=H.set id (qe d)++[au.cells [.int .u64 (((UInt64.ofNat L).toNat:Nat):Int)]];rw [e,←af,tC]
  rintro m T H' ⟨k,av,rfl,rfl,rfl⟩;have bR:=V3 a L M idx d k;obtain ⟨r,aj⟩:∃ r,r=(JC a L M idx d k).1:=⟨_,rfl⟩;obtain ⟨Wl,Pr⟩:∃ r,r=(JC a L M idx d k).2:=⟨_,rfl⟩;have eV:JC a L M idx d (k+1)=Sort.breakStep a L M (r,Wl) (idx+k):=by rw [aj,Pr];rfl
  rw [←aj,←Pr];rw [←Pr] at bR;have ls:∀ c:au,(H.set id c).length=H.length:=fun c=>by simp
  subst hq;unfold S6;obtain ⟨bt,dZ⟩:∃ c,S5=c:=⟨_,rfl⟩;rw [dZ];conv=>whnf
  refine ⟨by decide,?_⟩;conv=>whnf
  rw [Uu];by_cases ao:((idx+k:Nat):Int)≤((a+L / 4*2+1:Nat):Int)
  ·rw [decide_eq_true ao];(conv=>whnf);subst dZ;unfold S5;obtain ⟨ba,cd⟩:∃ c,S3=c:=⟨_,rfl⟩;rw [cd];obtain ⟨bm,b_⟩:∃ c,S4=c:=⟨_,rfl⟩;rw [b_];(conv=>whnf);refine ⟨_,_,qS (agw r H.length (by omega) (WG _ _ _ (ls _))),?_⟩;rw [YM _ _ _ _ (ls _)];(conv=>whnf);obtain ⟨r',yT⟩:∃ x,x=Sort.xorNext r:=⟨_,rfl⟩;rw [←yT];rw [show IntKind.u64.wrap ((M:Int)-1)=((M-1:Nat):Int) by rw [JR];omega,u64_and r' (M-1) (by omega)];obtain ⟨o,aq⟩:∃ x,x=r'.toNat &&& (M-1):=⟨_,rfl⟩;have R':=(hand r'.toNat).1;rw [←aq] at R' ⊢;rw [qm (o:Int) (by omega) (by omega)];obtain ⟨cN,CT⟩:∃ x,x=if o≥L then o-L else o:=⟨_,rfl⟩;have cL:JC a L M idx d (k+1)=(r',Sort.swp Wl (idx+k) (a+cN)):=by
    rw [eV,Sort.breakStep];simp only [←yT,←aq,←CT]
   (have alU:cN<L:=by rw [CT];split <;> omega);(have gs:∀ c:au,(H.set id c++[au.cells [I.int IntKind.u64 r'.toNat]])[id]?=some c:=fun c=>by rw [se (by simp;omega),rY aE]);(have qa:∀ c e:au,((H.set id c++[au.cells [I.int IntKind.u64 r'.toNat]]).set id e)[id]?=some e:=fun c e=>by rw [rY (by simp;omega)]);(have ajI:IntKind.i64.wrap ((a:Int)+(cN:Int))=((a+cN:Nat):Int):=by rw [qm _ (by omega) (by omega)];omega);have W2:=afb Pu (by omega) ao;by_cases e9:(L:Int)≤(o:Int)
   all_goals first
    | (rw [decide_eq_true e9]
       (conv=>whnf);subst cd;unfold S3;conv=>whnf
       rw [show IntKind.i64.wrap ((o:Int)-(L:Int))=(cN:Int) by rw [qm _ (by omega) (by omega),CT,if_pos (by omega)];omega])
    | (rw [decide_eq_false e9]
       conv=>whnf
       rw [show (o:Int)=(cN:Int) by rw [CT,if_neg (by omega)]])
   all_goals subst b_
   all_goals unfold S4
   all_goals conv=>whnf
   all_goals rw [ajI]
   all_goals (
    skip;refine ⟨by omega,?_⟩;(conv=>whnf);refine DX (by first | exact gs _ | exact qa _ _ | assumption) ?_
    (conv=>whnf);refine qv (a+cN) (by omega) (by omega) ?_;(conv=>whnf);refine ⟨by omega,?_⟩;(conv=>whnf);refine DX (by first | exact gs _ | exact qa _ _ | assumption) ?_
    (conv=>whnf);refine qv (idx+k) (by omega) (by omega) ?_;(conv=>whnf);refine ⟨by omega,?_⟩;(conv=>whnf);rw [Cd];(conv=>whnf);refine DX (by first | exact gs _ | exact qa _ _ | assumption) ?_
    (conv=>whnf);refine rf (idx+k) (by omega) (by first | omega | (simp only [sr];omega)) ?_
    (conv=>whnf);refine ⟨by omega,?_⟩;(conv=>whnf);rw [Cd];(conv=>whnf);refine DX (by first | exact gs _ | exact qa _ _ | assumption) ?_
    (conv=>whnf);refine rf (a+cN) (by omega) (by first | omega | (simp only [sr];omega)) ?_
    (conv=>whnf);refine ⟨3-(k+1),by omega,k+1,by omega,rfl,?_,?_⟩
    ·rw [qU (idx+k) (by omega)];rfl
    ·rw [cL];rw [YL _ _ _ _ (by simp;omega),YL _ _ _ _ (by simp;omega),rZ,rZ];rfl
   )
  ·rw [decide_eq_false ao];have W2:k=3:=afc Pu (by omega) av ao;(conv=>whnf);refine bn _ _ _ ⟨.inl rfl,?_,rfl⟩;rw [Pr,W2];exact J2 _ _
 ·rw [decide_eq_false cT];conv=>whnf
  rw [if_neg (by omega),Sort.breakPatterns,if_neg (by omega)] at bn;refine bn _ _ _ ⟨.inl rfl,?_,rfl⟩;obtain ⟨ad,af⟩:=rV.1 ah;rw [←af,tC,List.append_nil];exact ⟨rfl,fun j o aw=>.inr aw⟩
end
end Go.Proofs.YtfakoboiahbhaaaGreat.Ab.Pq


namespace Go.Proofs.YtfakoboiahbhaaaGreat.Ab.Pq
open Go
set_option maxRecDepth 20000
set_option maxHeartbeats 4000000
theorem J' (P:Int→Bool) (d:Array Int) (i q:Nat) (h:1≤i):Sort.scanDown P d i q=if i≤q && P d[q]! then Sort.scanDown P d i (q-1) else q:=by
 cases q with
 | zero=>rw [Sort.scanDown,if_neg (by simp;omega)]
 | succ q=>rw [Sort.scanDown];rfl
theorem Jv (P:Int→Bool) (d:Array Int) (j q:Nat):Sort.scanUp P d j q=if q≤j && P d[q]! then Sort.scanUp P d j (q+1) else q:=by
 rw [Sort.scanUp]
section
variable {H:List au} {id lo:Nat} (aE:id<H.length)
include aE
theorem ah_ (d:Array Int) (a i j:Nat) (a0:d.size≤1000) (cg:a<d.size) (aw:j<d.size) (HK:1≤i) (gZ:i≤j+1) (Q:cD→List I→List au→Prop)
  (k:∀ q (qq Bh Bi Iw Ix Iy Iz IA IB IC Iv M_:I),i≤q→q≤j+1→Sort.scanUp (fun x=>!Sort.ltInt d[a]! x) d j i=q→Q .normal (GH 84 [(0,qk id d.size),(1,hS a),(9,hS (q:Nat)),(10,hS (j:Nat)),(32,qq),(33,Bh),(34,Bi),(35,Iw),(36,Ix),(37,Iy),(38,Iz),(39,IA),(40,IB),(41,IC),(42,Iv),(43,M_)]) (H.set id (qe d))) :
  dC Go.Proofs.Tryz.prog OZ 122 lo none PW (GH 84 [(0,qk id d.size),(1,hS a),(9,hS (i:Nat)),(10,hS (j:Nat))]) (H.set id (qe d)) Q:=by
 have gs:∀ c:au,(H.set id c)[id]?=some c:=fun c=>by rw [rY aE]
 unfold PW;conv=>whnf
 refine .intro (fun m T H'=>∃ q,i≤q∧q≤j+1∧m=j+1-q∧Sort.scanUp (fun x=>!Sort.ltInt d[a]! x) d j q=Sort.scanUp (fun x=>!Sort.ltInt d[a]! x) d j i∧T=GH 84 [(0,qk id d.size),(1,hS a),(9,hS (q:Nat)),(10,hS (j:Nat))]∧H'=H.set id (qe d)) (j+1-i) ⟨i,by omega,by omega,rfl,rfl,rfl,rfl⟩ ?_;rintro m T H' ⟨q,Jq,CX,hm,He,rfl,rfl⟩;unfold Yb;conv=>whnf
 by_cases h:((q:Nat):Int)≤((j:Nat):Int)
 ·rw [decide_eq_true h];conv=>whnf
  refine ⟨by omega,?_⟩;conv=>whnf
  refine DX (by first | exact gs _ | exact qa _ _ | assumption) ?_
  conv=>whnf
  refine qv (a) (by omega) (by omega) ?_;conv=>whnf
  refine ⟨by omega,?_⟩;conv=>whnf
  refine DX (by first | exact gs _ | exact qa _ _ | assumption) ?_
  conv=>whnf
  refine qv (q) (by omega) (by omega) ?_;conv=>whnf
  refine ⟨by first | rfl | simp only [sG,sM,GY,G6,GZ,G1,G0,G2,G8,G7,rQ,G3,G4,G5,sN,sL],_,HV d[a]! d[q]!,GX,?_⟩
  conv=>whnf
  by_cases bN:d[a]!<d[q]!
  ·rw [decide_eq_true bN];(conv=>whnf);have e:Sort.scanUp (fun x=>!Sort.ltInt d[a]! x) d j i=q:=by
    rw [←He,Jv,if_neg (by simp only [Sort.ltInt,r_,decide_eq_true_eq,ta,decide_eq_false_iff_not];exact fun bK=>bK.2 bN)]
   exact k q _ _ _ _ _ _ _ _ _ _ _ _  (by omega) (by omega) e
  ·rw [decide_eq_false bN];(conv=>whnf);exact ⟨j+1-(q+1),by omega,q+1,by omega,by omega,rfl,by rw [←He,Jv _ _ _ q,if_pos (by simp only [Sort.ltInt,r_,decide_eq_true_eq,ta,decide_eq_false_iff_not];exact ⟨by omega,bN⟩)],by rw [←qU q (by omega)];rfl,rfl⟩
 ·rw [decide_eq_false h];conv=>whnf
  have e:Sort.scanUp (fun x=>!Sort.ltInt d[a]! x) d j i=q:=by
   rw [←He,Jv,if_neg (by simp only [Sort.ltInt,r_,decide_eq_true_eq,ta,decide_eq_false_iff_not];exact fun bK=>h (by omega))]
  exact k q _ _ _ _ _ _ _ _ _ _ _ _  (by omega) (by omega) e
theorem aia (d:Array Int) (a i j:Nat) (a0:d.size≤1000) (cg:a<d.size) (aw:j<d.size) (HK:1≤i) (gZ:i≤j+1) (Q:cD→List I→List au→Prop) (jg lf lg FW H2 Ji M4 OD OG OJ Ot ajT:I)
  (k:∀ q (qq Bh Bi Iw Ix Iy Iz IA IB IC Iv:I),q≤j→i≤q+1→Sort.scanDown (fun x=>Sort.ltInt d[a]! x) d i j=q→Q .normal (GH 84 [(0,qk id d.size),(1,hS a),(9,hS (i:Nat)),(10,hS (q:Nat)),(49,qq),(50,Bh),(51,Bi),(52,Iw),(53,Ix),(54,Iy),(55,Iz),(56,IA),(57,IB),(58,IC),(59,Iv)]) (H.set id (qe d))) :
  dC Go.Proofs.Tryz.prog OZ 122 lo none PX (GH 84 [(0,qk id d.size),(1,hS a),(9,hS (i:Nat)),(10,hS (j:Nat)),(32,jg),(33,lf),(34,lg),(35,FW),(36,H2),(37,Ji),(38,M4),(39,OD),(40,OG),(41,OJ),(42,Ot),(43,ajT)]) (H.set id (qe d)) Q:=by
 have gs:∀ c:au,(H.set id c)[id]?=some c:=fun c=>by rw [rY aE]
 unfold PX;conv=>whnf
 refine .intro (fun m T H'=>∃ q,q≤j∧i≤q+1∧m=q∧Sort.scanDown (fun x=>Sort.ltInt d[a]! x) d i q=Sort.scanDown (fun x=>Sort.ltInt d[a]! x) d i j∧T=GH 84 [(0,qk id d.size),(1,hS a),(9,hS (i:Nat)),(10,hS (q:Nat))]∧H'=H.set id (qe d)) (j) ⟨j,by omega,by omega,rfl,rfl,rfl,rfl⟩ ?_;rintro m T H' ⟨q,Jq,CX,hm,He,rfl,rfl⟩;unfold Yc;conv=>whnf
 by_cases h:((i:Nat):Int)≤((q:Nat):Int)
 ·rw [decide_eq_true h];conv=>whnf
  refine ⟨by omega,?_⟩;conv=>whnf
  refine DX (by first | exact gs _ | exact qa _ _ | assumption) ?_
  conv=>whnf
  refine qv (a) (by omega) (by omega) ?_;conv=>whnf
  refine ⟨by omega,?_⟩;conv=>whnf
  refine DX (by first | exact gs _ | exact qa _ _ | assumption) ?_
  conv=>whnf
  refine qv (q) (by omega) (by omega) ?_;conv=>whnf
  refine ⟨by first | rfl | simp only [sG,sM,GY,G6,GZ,G1,G0,G2,G8,G7,rQ,G3,G4,G5,sN,sL],_,HV d[a]! d[q]!,GX,?_⟩
  conv=>whnf
  by_cases bN:d[a]!<d[q]!
  ·rw [decide_eq_true bN];(conv=>whnf);exact ⟨(q-1),by omega,q-1,by omega,by omega,rfl,by rw [←He,J' _ _ _ q HK,if_pos (by simp only [Sort.ltInt,r_,decide_eq_true_eq];exact ⟨by omega,bN⟩)],by rw [show ((q-1:Nat):Int)=IntKind.i64.wrap ((q:Int)-1) by rw [qm _ (by omega) (by omega)];omega];rfl,rfl⟩
  ·rw [decide_eq_false bN];(conv=>whnf);have e:Sort.scanDown (fun x=>Sort.ltInt d[a]! x) d i j=q:=by
    rw [←He,J' _ _ _ _ HK,if_neg (by simp only [Sort.ltInt,r_,decide_eq_true_eq];exact fun bK=>bN bK.2)]
   exact k q _ _ _ _ _ _ _ _ _ _ _  (by omega) (by omega) e
 ·rw [decide_eq_false h];conv=>whnf
  have e:Sort.scanDown (fun x=>Sort.ltInt d[a]! x) d i j=q:=by
   rw [←He,J' _ _ _ _ HK,if_neg (by simp only [Sort.ltInt,r_,decide_eq_true_eq];exact fun bK=>h (by omega))]
  exact k q _ _ _ _ _ _ _ _ _ _ _  (by omega) (by omega) e
theorem aib (d:Array Int) (a i j:Nat) (a0:d.size≤1000) (cg:a<d.size) (aw:j<d.size) (HK:1≤i) (gZ:i≤j+1) (Q:cD→List I→List au→Prop) (jg lf lg:I)
  (k:∀ q (qq Bh Bi Iw Ix Iy Iz IA IB IC Iv:I),i≤q→q≤j+1→Sort.scanUp (fun x=>Sort.ltInt x d[a]!) d j i=q→Q .normal (GH 168 [(0,qk id d.size),(1,hS a),(10,hS (q:Nat)),(11,hS (j:Nat)),(33,qq),(34,Bh),(35,Bi),(36,Iw),(37,Ix),(38,Iy),(39,Iz),(40,IA),(41,IB),(42,IC),(43,Iv)]) (H.set id (qe d))) :
  dC Go.Proofs.Tryz.prog My 123 lo none PY (GH 168 [(0,qk id d.size),(1,hS a),(3,jg),(8,lf),(9,lg),(10,hS (i:Nat)),(11,hS (j:Nat))]) (H.set id (qe d)) Q:=by
 have gs:∀ c:au,(H.set id c)[id]?=some c:=fun c=>by rw [rY aE]
 unfold PY;conv=>whnf
 refine .intro (fun m T H'=>∃ q,i≤q∧q≤j+1∧m=j+1-q∧Sort.scanUp (fun x=>Sort.ltInt x d[a]!) d j q=Sort.scanUp (fun x=>Sort.ltInt x d[a]!) d j i∧T=GH 168 [(0,qk id d.size),(1,hS a),(10,hS (q:Nat)),(11,hS (j:Nat))]∧H'=H.set id (qe d)) (j+1-i) ⟨i,by omega,by omega,rfl,rfl,rfl,rfl⟩ ?_;rintro m T H' ⟨q,Jq,CX,hm,He,rfl,rfl⟩;unfold Yf;conv=>whnf
 by_cases h:((q:Nat):Int)≤((j:Nat):Int)
 ·rw [decide_eq_true h];conv=>whnf
  refine ⟨by omega,?_⟩;conv=>whnf
  refine DX (by first | exact gs _ | exact qa _ _ | assumption) ?_
  conv=>whnf
  refine qv (q) (by omega) (by omega) ?_;conv=>whnf
  refine ⟨by omega,?_⟩;conv=>whnf
  refine DX (by first | exact gs _ | exact qa _ _ | assumption) ?_
  conv=>whnf
  refine qv (a) (by omega) (by omega) ?_;conv=>whnf
  refine ⟨by first | rfl | simp only [sG,sM,GY,G6,GZ,G1,G0,G2,G8,G7,rQ,G3,G4,G5,sN,sL],_,HV d[q]! d[a]!,GX,?_⟩
  conv=>whnf
  by_cases bN:d[q]!<d[a]!
  ·rw [decide_eq_true bN];(conv=>whnf);exact ⟨j+1-(q+1),by omega,q+1,by omega,by omega,rfl,by rw [←He,Jv _ _ _ q,if_pos (by simp only [Sort.ltInt,r_,decide_eq_true_eq];exact ⟨by omega,bN⟩)],by rw [←qU q (by omega)];rfl,rfl⟩
  ·rw [decide_eq_false bN];(conv=>whnf);have e:Sort.scanUp (fun x=>Sort.ltInt x d[a]!) d j i=q:=by
    rw [←He,Jv,if_neg (by simp only [Sort.ltInt,r_,decide_eq_true_eq];exact fun bK=>bN bK.2)]
   exact k q _ _ _ _ _ _ _ _ _ _ _  (by omega) (by omega) e
 ·rw [decide_eq_false h];conv=>whnf
  have e:Sort.scanUp (fun x=>Sort.ltInt x d[a]!) d j i=q:=by
   rw [←He,Jv,if_neg (by simp only [Sort.ltInt,r_,decide_eq_true_eq];exact fun bK=>h (by omega))]
  exact k q _ _ _ _ _ _ _ _ _ _ _  (by omega) (by omega) e
theorem aic (d:Array Int) (a i j:Nat) (a0:d.size≤1000) (cg:a<d.size) (aw:j<d.size) (HK:1≤i) (gZ:i≤j+1) (Q:cD→List I→List au→Prop) (jg lf lg FW H2 Ji M4 OD OG OJ Ot:I)
  (k:∀ q (qq Bh Bi Iw Ix Iy Iz IA IB IC Iv M_:I),q≤j→i≤q+1→Sort.scanDown (fun x=>!Sort.ltInt x d[a]!) d i j=q→Q .normal (GH 168 [(0,qk id d.size),(1,hS a),(10,hS (i:Nat)),(11,hS (q:Nat)),(49,qq),(50,Bh),(51,Bi),(52,Iw),(53,Ix),(54,Iy),(55,Iz),(56,IA),(57,IB),(58,IC),(59,Iv),(60,M_)]) (H.set id (qe d))) :
  dC Go.Proofs.Tryz.prog My 123 lo none PZ (GH 168 [(0,qk id d.size),(1,hS a),(10,hS (i:Nat)),(11,hS (j:Nat)),(33,jg),(34,lf),(35,lg),(36,FW),(37,H2),(38,Ji),(39,M4),(40,OD),(41,OG),(42,OJ),(43,Ot)]) (H.set id (qe d)) Q:=by
 have gs:∀ c:au,(H.set id c)[id]?=some c:=fun c=>by rw [rY aE]
 unfold PZ;conv=>whnf
 refine .intro (fun m T H'=>∃ q,q≤j∧i≤q+1∧m=q∧Sort.scanDown (fun x=>!Sort.ltInt x d[a]!) d i q=Sort.scanDown (fun x=>!Sort.ltInt x d[a]!) d i j∧T=GH 168 [(0,qk id d.size),(1,hS a),(10,hS (i:Nat)),(11,hS (q:Nat))]∧H'=H.set id (qe d)) (j) ⟨j,by omega,by omega,rfl,rfl,rfl,rfl⟩ ?_;rintro m T H' ⟨q,Jq,CX,hm,He,rfl,rfl⟩;unfold Yh;conv=>whnf
 by_cases h:((i:Nat):Int)≤((q:Nat):Int)
 ·rw [decide_eq_true h];conv=>whnf
  refine ⟨by omega,?_⟩;conv=>whnf
  refine DX (by first | exact gs _ | exact qa _ _ | assumption) ?_
  conv=>whnf
  refine qv (q) (by omega) (by omega) ?_;conv=>whnf
  refine ⟨by omega,?_⟩;conv=>whnf
  refine DX (by first | exact gs _ | exact qa _ _ | assumption) ?_
  conv=>whnf
  refine qv (a) (by omega) (by omega) ?_;conv=>whnf
  refine ⟨by first | rfl | simp only [sG,sM,GY,G6,GZ,G1,G0,G2,G8,G7,rQ,G3,G4,G5,sN,sL],_,HV d[q]! d[a]!,GX,?_⟩
  conv=>whnf
  by_cases bN:d[q]!<d[a]!
  ·rw [decide_eq_true bN];(conv=>whnf);have e:Sort.scanDown (fun x=>!Sort.ltInt x d[a]!) d i j=q:=by
    rw [←He,J' _ _ _ _ HK,if_neg (by simp only [Sort.ltInt,r_,decide_eq_true_eq,ta,decide_eq_false_iff_not];exact fun bK=>bK.2 bN)]
   exact k q _ _ _ _ _ _ _ _ _ _ _ _  (by omega) (by omega) e
  ·rw [decide_eq_false bN];(conv=>whnf);exact ⟨(q-1),by omega,q-1,by omega,by omega,rfl,by rw [←He,J' _ _ _ q HK,if_pos (by simp only [Sort.ltInt,r_,decide_eq_true_eq,ta,decide_eq_false_iff_not];exact ⟨by omega,bN⟩)],by rw [show ((q-1:Nat):Int)=IntKind.i64.wrap ((q:Int)-1) by rw [qm _ (by omega) (by omega)];omega];rfl,rfl⟩
 ·rw [decide_eq_false h];conv=>whnf
  have e:Sort.scanDown (fun x=>!Sort.ltInt x d[a]!) d i j=q:=by
   rw [←He,J' _ _ _ _ HK,if_neg (by simp only [Sort.ltInt,r_,decide_eq_true_eq,ta,decide_eq_false_iff_not];exact fun bK=>h (by omega))]
  exact k q _ _ _ _ _ _ _ _ _ _ _ _  (by omega) (by omega) e
theorem aid (d:Array Int) (a i j:Nat) (a0:d.size≤1000) (cg:a<d.size) (aw:j<d.size) (HK:1≤i) (gZ:i≤j+1) (Q:cD→List I→List au→Prop)
  (k:∀ q (qq Bh Bi Iw Ix Iy Iz IA IB IC Iv:I),i≤q→q≤j+1→Sort.scanUp (fun x=>Sort.ltInt x d[a]!) d j i=q→Q .normal (GH 168 [(0,qk id d.size),(1,hS a),(10,hS (q:Nat)),(11,hS (j:Nat)),(102,qq),(103,Bh),(104,Bi),(105,Iw),(106,Ix),(107,Iy),(108,Iz),(109,IA),(110,IB),(111,IC),(112,Iv)]) (H.set id (qe d))) :
  dC Go.Proofs.Tryz.prog My 123 lo none P0 (GH 168 [(0,qk id d.size),(1,hS a),(10,hS (i:Nat)),(11,hS (j:Nat))]) (H.set id (qe d)) Q:=by
 have gs:∀ c:au,(H.set id c)[id]?=some c:=fun c=>by rw [rY aE]
 unfold P0;conv=>whnf
 refine .intro (fun m T H'=>∃ q,i≤q∧q≤j+1∧m=j+1-q∧Sort.scanUp (fun x=>Sort.ltInt x d[a]!) d j q=Sort.scanUp (fun x=>Sort.ltInt x d[a]!) d j i∧T=GH 168 [(0,qk id d.size),(1,hS a),(10,hS (q:Nat)),(11,hS (j:Nat))]∧H'=H.set id (qe d)) (j+1-i) ⟨i,by omega,by omega,rfl,rfl,rfl,rfl⟩ ?_;rintro m T H' ⟨q,Jq,CX,hm,He,rfl,rfl⟩;unfold Yi;conv=>whnf
 by_cases h:((q:Nat):Int)≤((j:Nat):Int)
 ·rw [decide_eq_true h];conv=>whnf
  refine ⟨by omega,?_⟩;conv=>whnf
  refine DX (by first | exact gs _ | exact qa _ _ | assumption) ?_
  conv=>whnf
  refine qv (q) (by omega) (by omega) ?_;conv=>whnf
  refine ⟨by omega,?_⟩;conv=>whnf
  refine DX (by first | exact gs _ | exact qa _ _ | assumption) ?_
  conv=>whnf
  refine qv (a) (by omega) (by omega) ?_;conv=>whnf
  refine ⟨by first | rfl | simp only [sG,sM,GY,G6,GZ,G1,G0,G2,G8,G7,rQ,G3,G4,G5,sN,sL],_,HV d[q]! d[a]!,GX,?_⟩
  conv=>whnf
  by_cases bN:d[q]!<d[a]!
  ·rw [decide_eq_true bN];(conv=>whnf);exact ⟨j+1-(q+1),by omega,q+1,by omega,by omega,rfl,by rw [←He,Jv _ _ _ q,if_pos (by simp only [Sort.ltInt,r_,decide_eq_true_eq];exact ⟨by omega,bN⟩)],by rw [←qU q (by omega)];rfl,rfl⟩
  ·rw [decide_eq_false bN];(conv=>whnf);have e:Sort.scanUp (fun x=>Sort.ltInt x d[a]!) d j i=q:=by
    rw [←He,Jv,if_neg (by simp only [Sort.ltInt,r_,decide_eq_true_eq];exact fun bK=>bN bK.2)]
   exact k q _ _ _ _ _ _ _ _ _ _ _  (by omega) (by omega) e
 ·rw [decide_eq_false h];conv=>whnf
  have e:Sort.scanUp (fun x=>Sort.ltInt x d[a]!) d j i=q:=by
   rw [←He,Jv,if_neg (by simp only [Sort.ltInt,r_,decide_eq_true_eq];exact fun bK=>h (by omega))]
  exact k q _ _ _ _ _ _ _ _ _ _ _  (by omega) (by omega) e
theorem aie (d:Array Int) (a i j:Nat) (a0:d.size≤1000) (cg:a<d.size) (aw:j<d.size) (HK:1≤i) (gZ:i≤j+1) (Q:cD→List I→List au→Prop) (jg lf lg FW H2 Ji M4 OD OG OJ Ot:I)
  (k:∀ q (qq Bh Bi Iw Ix Iy Iz IA IB IC Iv M_:I),q≤j→i≤q+1→Sort.scanDown (fun x=>!Sort.ltInt x d[a]!) d i j=q→Q .normal (GH 168 [(0,qk id d.size),(1,hS a),(10,hS (i:Nat)),(11,hS (q:Nat)),(118,qq),(119,Bh),(120,Bi),(121,Iw),(122,Ix),(123,Iy),(124,Iz),(125,IA),(126,IB),(127,IC),(128,Iv),(129,M_)]) (H.set id (qe d))) :
  dC Go.Proofs.Tryz.prog My 123 lo none P1 (GH 168 [(0,qk id d.size),(1,hS a),(10,hS (i:Nat)),(11,hS (j:Nat)),(102,jg),(103,lf),(104,lg),(105,FW),(106,H2),(107,Ji),(108,M4),(109,OD),(110,OG),(111,OJ),(112,Ot)]) (H.set id (qe d)) Q:=by
 have gs:∀ c:au,(H.set id c)[id]?=some c:=fun c=>by rw [rY aE]
 unfold P1;conv=>whnf
 refine .intro (fun m T H'=>∃ q,q≤j∧i≤q+1∧m=q∧Sort.scanDown (fun x=>!Sort.ltInt x d[a]!) d i q=Sort.scanDown (fun x=>!Sort.ltInt x d[a]!) d i j∧T=GH 168 [(0,qk id d.size),(1,hS a),(10,hS (i:Nat)),(11,hS (q:Nat))]∧H'=H.set id (qe d)) (j) ⟨j,by omega,by omega,rfl,rfl,rfl,rfl⟩ ?_;rintro m T H' ⟨q,Jq,CX,hm,He,rfl,rfl⟩;unfold Yj;conv=>whnf
 by_cases h:((i:Nat):Int)≤((q:Nat):Int)
 ·rw [decide_eq_true h];conv=>whnf
  refine ⟨by omega,?_⟩;conv=>whnf
  refine DX (by first | exact gs _ | exact qa _ _ | assumption) ?_
  conv=>whnf
  refine qv (q) (by omega) (by omega) ?_;conv=>whnf
  refine ⟨by omega,?_⟩;conv=>whnf
  refine DX (by first | exact gs _ | exact qa _ _ | assumption) ?_
  conv=>whnf
  refine qv (a) (by omega) (by omega) ?_;conv=>whnf
  refine ⟨by first | rfl | simp only [sG,sM,GY,G6,GZ,G1,G0,G2,G8,G7,rQ,G3,G4,G5,sN,sL],_,HV d[q]! d[a]!,GX,?_⟩
  conv=>whnf
  by_cases bN:d[q]!<d[a]!
  ·rw [decide_eq_true bN];(conv=>whnf);have e:Sort.scanDown (fun x=>!Sort.ltInt x d[a]!) d i j=q:=by
    rw [←He,J' _ _ _ _ HK,if_neg (by simp only [Sort.ltInt,r_,decide_eq_true_eq,ta,decide_eq_false_iff_not];exact fun bK=>bK.2 bN)]
   exact k q _ _ _ _ _ _ _ _ _ _ _ _  (by omega) (by omega) e
  ·rw [decide_eq_false bN];(conv=>whnf);exact ⟨(q-1),by omega,q-1,by omega,by omega,rfl,by rw [←He,J' _ _ _ q HK,if_pos (by simp only [Sort.ltInt,r_,decide_eq_true_eq,ta,decide_eq_false_iff_not];exact ⟨by omega,bN⟩)],by rw [show ((q-1:Nat):Int)=IntKind.i64.wrap ((q:Int)-1) by rw [qm _ (by omega) (by omega)];omega];rfl,rfl⟩
 ·rw [decide_eq_false h];conv=>whnf
  have e:Sort.scanDown (fun x=>!Sort.ltInt x d[a]!) d i j=q:=by
   rw [←He,J' _ _ _ _ HK,if_neg (by simp only [Sort.ltInt,r_,decide_eq_true_eq,ta,decide_eq_false_iff_not];exact fun bK=>h (by omega))]
  exact k q _ _ _ _ _ _ _ _ _ _ _ _  (by omega) (by omega) e
end
end Go.Proofs.YtfakoboiahbhaaaGreat.Ab.Pq


namespace Go.Proofs.YtfakoboiahbhaaaGreat.Ab.Pq
open Go
set_option maxRecDepth 20000
set_option maxHeartbeats 4000000
theorem SI (a i j i2 dm:Nat) (d:Array Int) (ad:Sort.scanUp (fun x=>!Sort.ltInt d[a]! x) d j i=i2) (af:Sort.scanDown (fun x=>Sort.ltInt d[a]! x) d i2 j=dm) (hi:i≤i2) (aw:dm≤j) :
  Sort.partEqLoop Sort.ltInt a i j d=if i2 > dm then (i2,d) else Sort.partEqLoop Sort.ltInt a (i2+1) (dm-1) (Sort.swp d i2 dm):=by
 rw [Sort.partEqLoop.eq_1];simp only [ad,af];split
 ·rfl
 ·rw [dif_pos (by omega)]
theorem agM (a i j i2 dm:Nat) (d:Array Int) (ad:Sort.scanUp (fun x=>Sort.ltInt x d[a]!) d j i=i2) (af:Sort.scanDown (fun x=>!Sort.ltInt x d[a]!) d i2 j=dm) (hi:i≤i2) (aw:dm≤j) :
  Sort.partLoop Sort.ltInt a i j d=if i2 > dm then (dm,d) else Sort.partLoop Sort.ltInt a (i2+1) (dm-1) (Sort.swp d i2 dm):=by
 rw [Sort.partLoop.eq_1];simp only [ad,af];split
 ·rfl
 ·rw [dif_pos (by omega)]
section
variable {H:List au} {id lo:Nat} (bF:lo≤id)
include bF
theorem agI (d:Array Int) (a b p:Nat) (a0:d.size≤1000) (jB:a<b) (ag:b≤d.size) (aC:p<d.size) (ah:H[id]?=some (qe d)) :
  Sem Go.Proofs.Tryz.prog (.fn 122) [qk id d.size,hS a,hS b,hS p] H lo (hS (Sort.partitionEqual Sort.ltInt d a b p).1) (H.set id (qe (Sort.partitionEqual Sort.ltInt d a b p).2)):=by
 have aE:=(rV.1 ah).1;have Cd:Nat.ble lo id=true:=sX bF;have gs:∀ c:au,(H.set id c)[id]?=some c:=fun c=>by rw [rY aE]
 have qa:∀ c e:au,((H.set id c).set id e)[id]?=some e:=fun c e=>by rw [rZ,gs]
 refine rH dI afu rfl ⟨by simp,fun j ad af=>by rw [sa (by omega)]⟩ fun Q bn=>?_;unfold Ya Yd;obtain ⟨m3,rA⟩:∃ c,Tp=c:=⟨_,rfl⟩;rw [rA];conv=>whnf
 refine ⟨by omega,?_⟩;conv=>whnf
 refine DX (by first | exact gs _ | exact qa _ _ | assumption) ?_
 conv=>whnf
 refine qv (p) (by omega) (by omega) ?_;conv=>whnf
 refine ⟨by omega,?_⟩;conv=>whnf
 refine DX (by first | exact gs _ | exact qa _ _ | assumption) ?_
 conv=>whnf
 refine qv (a) (by omega) (by omega) ?_;conv=>whnf
 refine ⟨by omega,?_⟩;conv=>whnf
 rw [Cd];conv=>whnf
 refine DX (by first | exact gs _ | exact qa _ _ | assumption) ?_
 conv=>whnf
 refine rf (a) (by omega) (by first | omega | (simp only [sr];omega)) ?_
 conv=>whnf
 refine ⟨by omega,?_⟩;conv=>whnf
 rw [Cd];conv=>whnf
 refine DX (by first | exact gs _ | exact qa _ _ | assumption) ?_
 conv=>whnf
 refine rf (p) (by omega) (by first | omega | (simp only [sr];omega)) ?_
 conv=>whnf
 subst rA;unfold Tp;obtain ⟨m2,Hd⟩:∃ c,Tn=c:=⟨_,rfl⟩;rw [Hd,rZ,JY];conv=>whnf
 rw [qU a (by omega),show IntKind.i64.wrap ((b:Int)-1)=((b-1:Nat):Int) by rw [qm _ (by omega) (by omega)];omega];subst Hd;unfold Tn;obtain ⟨bm,b_⟩:∃ c,PW=c:=⟨_,rfl⟩;obtain ⟨b9,hq⟩:∃ c,PX=c:=⟨_,rfl⟩;obtain ⟨fR,rJ⟩:∃ c,Tm=c:=⟨_,rfl⟩;rw [b_,hq,rJ];conv=>whnf
 refine .intro (fun m T H'=>∃ i j gT,a+1≤i∧i≤j+1∧j+1≤b∧m=j+1-i∧gT.size=d.size∧Sort.partEqLoop Sort.ltInt a i j gT=Sort.partitionEqual Sort.ltInt d a b p∧T=GH 84 [(0,qk id d.size),(1,hS a),(9,hS (i:Nat)),(10,hS (j:Nat))]∧H'=H.set id (qe gT)) (b-(a+1)) ⟨a+1,b-1,Sort.swp d a p,by omega,by omega,by omega,by omega,swp_size _ _ _,rfl,rfl,rfl⟩ ?_;rintro m T H' ⟨i,j,gT,ad,af,aG,hm,Cn,he,rfl,rfl⟩;conv=>whnf
 subst b_;rw [←Cn];refine ah_ aE gT a i j (by omega) (by omega) (by omega) (by omega) af _ fun i2 qq Bh Bi Iw Ix Iy Iz IA IB IC Iv M_ aJ aP cl=>?_;conv=>whnf
 subst hq;refine aia aE gT a i2 j (by omega) (by omega) (by omega) (by omega) (by omega) _ _ _ _ _ _ _ _ _ _ _ _ _ fun dm lh x0 oq FX abO abP abQ abR abS abT abN dK kL HU=>?_;conv=>whnf
 rw [SI a i j i2 dm gT cl HU (by omega) (by omega)] at he;by_cases h:(dm:Int)<(i2:Int)
 ·rw [decide_eq_true h];rw [if_pos (by omega)] at he;conv=>whnf
  refine bn _ _ _ ⟨.inr rfl,?_,by rw [←he];rfl⟩;rw [←he];exact ⟨by simp,fun j o aw=>.inr aw⟩
 ·rw [decide_eq_false h];rw [if_neg (by omega)] at he;conv=>whnf
  have bO:i2≠dm:=fun e=>by
   have aB:=(Sort.scanUp_spec (fun x=>!Sort.ltInt gT[a]! x) gT j _ i rfl).2.2.2 (by rw [cl];omega);have aH:=(Sort.scanDown_spec (fun x=>Sort.ltInt gT[a]! x) gT i2 j).2.2.2 (by rw [HU];omega) (by rw [HU];omega);rw [cl] at aB;rw [HU,←e] at aH;simp only [wa] at aB aH;rw [aB] at aH;cases aH
  subst rJ;unfold Tm;obtain ⟨dX,B2⟩:∃ c,Tl=c:=⟨_,rfl⟩;rw [B2];conv=>whnf
  refine ⟨by omega,?_⟩;conv=>whnf
  refine DX (by first | exact gs _ | exact qa _ _ | assumption) ?_
  conv=>whnf
  refine qv (dm) (by omega) (by omega) ?_;conv=>whnf
  refine ⟨by omega,?_⟩;conv=>whnf
  refine DX (by first | exact gs _ | exact qa _ _ | assumption) ?_
  conv=>whnf
  refine qv (i2) (by omega) (by omega) ?_;conv=>whnf
  refine ⟨by omega,?_⟩;conv=>whnf
  rw [Cd];conv=>whnf
  refine DX (by first | exact gs _ | exact qa _ _ | assumption) ?_
  conv=>whnf
  refine rf (i2) (by omega) (by first | omega | (simp only [sr];omega)) ?_
  conv=>whnf
  refine ⟨by omega,?_⟩;conv=>whnf
  rw [Cd];conv=>whnf
  refine DX (by first | exact gs _ | exact qa _ _ | assumption) ?_
  conv=>whnf
  refine rf (dm) (by omega) (by first | omega | (simp only [sr];omega)) ?_
  conv=>whnf
  subst B2;unfold Tl;rw [rZ,rZ,JY];conv=>whnf
  refine ⟨dm-1+1-(i2+1),by omega,i2+1,dm-1,Sort.swp gT i2 dm,by omega,by omega,by omega,rfl,by rw [swp_size],he,?_,rfl⟩;rw [←qU i2 (by omega),show ((dm-1:Nat):Int)=IntKind.i64.wrap ((dm:Int)-1) by rw [qm _ (by omega) (by omega)];omega];rfl
theorem agL (d:Array Int) (a b p:Nat) (a0:d.size≤1000) (jB:a<b) (ag:b≤d.size) (aC:p<d.size) (ah:H[id]?=some (qe d)) :
  Sem Go.Proofs.Tryz.prog (.fn 123) [qk id d.size,hS a,hS b,hS p] H lo (.tuple [hS (Sort.partition Sort.ltInt d a b p).1,B (Sort.partition Sort.ltInt d a b p).2.1]) (H.set id (qe (Sort.partition Sort.ltInt d a b p).2.2)):=by
 have aE:=(rV.1 ah).1;have Cd:Nat.ble lo id=true:=sX bF;have gs:∀ c:au,(H.set id c)[id]?=some c:=fun c=>by rw [rY aE]
 have qa:∀ c e:au,((H.set id c).set id e)[id]?=some e:=fun c e=>by rw [rZ,gs]
 refine rH dI afv rfl ⟨by simp,fun j ad af=>by rw [sa (by omega)]⟩ fun Q bn=>?_;obtain ⟨d1,Kt⟩:∃ x,x=Sort.swp d a p:=⟨_,rfl⟩;have gA:d1.size=d.size:=by rw [Kt];exact swp_size _ _ _
 unfold Ye Yg;obtain ⟨adq,MD⟩:∃ c,Tw=c:=⟨_,rfl⟩;rw [MD];conv=>whnf
 refine ⟨by omega,?_⟩;conv=>whnf
 refine DX (by first | exact gs _ | exact qa _ _ | assumption) ?_
 conv=>whnf
 refine qv (p) (by omega) (by omega) ?_;conv=>whnf
 refine ⟨by omega,?_⟩;conv=>whnf
 refine DX (by first | exact gs _ | exact qa _ _ | assumption) ?_
 conv=>whnf
 refine qv (a) (by omega) (by omega) ?_;conv=>whnf
 refine ⟨by omega,?_⟩;conv=>whnf
 rw [Cd];conv=>whnf
 refine DX (by first | exact gs _ | exact qa _ _ | assumption) ?_
 conv=>whnf
 refine rf (a) (by omega) (by first | omega | (simp only [sr];omega)) ?_
 conv=>whnf
 refine ⟨by omega,?_⟩;conv=>whnf
 rw [Cd];conv=>whnf
 refine DX (by first | exact gs _ | exact qa _ _ | assumption) ?_
 conv=>whnf
 refine rf (p) (by omega) (by first | omega | (simp only [sr];omega)) ?_
 conv=>whnf
 subst MD;unfold Tw;obtain ⟨bm,b_⟩:∃ c,PY=c:=⟨_,rfl⟩;obtain ⟨b9,hq⟩:∃ c,PZ=c:=⟨_,rfl⟩;obtain ⟨dX,B2⟩:∃ c,Tx=c:=⟨_,rfl⟩;obtain ⟨V7,Jn⟩:∃ c,Tv=c:=⟨_,rfl⟩;rw [b_,hq,B2,Jn,rZ,JY,←Kt];conv=>whnf
 rw [qU a (by omega),show IntKind.i64.wrap ((b:Int)-1)=((b-1:Nat):Int) by rw [qm _ (by omega) (by omega)];omega,←gA];subst b_;refine aib aE d1 a (a+1) (b-1) (by omega) (by omega) (by omega) (by omega) (by omega) _ _ _ _ fun i2 qq Bh Bi Iw Ix Iy Iz IA IB IC Iv aJ aP cl=>?_;conv=>whnf
 subst hq;refine aic aE d1 a i2 (b-1) (by omega) (by omega) (by omega) (by omega) (by omega) _ _ _ _ _ _ _ _ _ _ _ _ fun dm lh x0 oq FX abO abP abQ abR abS abT abN UZ dK kL HU=>?_;conv=>whnf
 have B':Sort.partition Sort.ltInt d a b p=if i2 > dm then (dm,true,Sort.swp d1 dm a) else ((Sort.partLoop Sort.ltInt a (i2+1) (dm-1) (Sort.swp d1 i2 dm)).1,false,Sort.swp (Sort.partLoop Sort.ltInt a (i2+1) (dm-1) (Sort.swp d1 i2 dm)).2 (Sort.partLoop Sort.ltInt a (i2+1) (dm-1) (Sort.swp d1 i2 dm)).1 a):=by
  rw [Sort.partition];simp only [←Kt,cl,HU]
 rw [B'] at bn;clear B';by_cases h:(dm:Int)<(i2:Int)
 ·rw [decide_eq_true h];rw [if_pos (by omega)] at bn;conv=>whnf
  subst B2;unfold Tx;conv=>whnf
  refine ⟨by omega,?_⟩;conv=>whnf
  refine DX (by first | exact gs _ | exact qa _ _ | assumption) ?_
  conv=>whnf
  refine qv (a) (by omega) (by omega) ?_;conv=>whnf
  refine ⟨by omega,?_⟩;conv=>whnf
  refine DX (by first | exact gs _ | exact qa _ _ | assumption) ?_
  conv=>whnf
  refine qv (dm) (by omega) (by omega) ?_;conv=>whnf
  refine ⟨by omega,?_⟩;conv=>whnf
  rw [Cd];conv=>whnf
  refine DX (by first | exact gs _ | exact qa _ _ | assumption) ?_
  conv=>whnf
  refine rf (dm) (by omega) (by first | omega | (simp only [sr];omega)) ?_
  conv=>whnf
  refine ⟨by omega,?_⟩;conv=>whnf
  rw [Cd];conv=>whnf
  refine DX (by first | exact gs _ | exact qa _ _ | assumption) ?_
  conv=>whnf
  refine rf (a) (by omega) (by first | omega | (simp only [sr];omega)) ?_
  conv=>whnf
  rw [rZ,rZ,JY];exact bn _ _ _ ⟨.inr rfl,⟨by simp,fun j o aw=>.inr aw⟩,rfl⟩
 ·rw [decide_eq_false h];rw [if_neg (by omega)] at bn;conv=>whnf
  have bO:i2≠dm:=fun e=>by
   have aB:=(Sort.scanUp_spec (fun x=>Sort.ltInt x d1[a]!) d1 (b-1) _ (a+1) rfl).2.2.2 (by rw [cl];omega);have aH:=(Sort.scanDown_spec (fun x=>!Sort.ltInt x d1[a]!) d1 i2 (b-1)).2.2.2 (by rw [HU];omega) (by rw [HU];omega);rw [cl] at aB;rw [HU,←e] at aH;simp only [wa] at aB aH;rw [aB] at aH;cases aH
  subst Jn;unfold Tv;obtain ⟨V6,J3⟩:∃ c,Tu=c:=⟨_,rfl⟩;rw [J3];conv=>whnf
  refine ⟨by omega,?_⟩;conv=>whnf
  refine DX (by first | exact gs _ | exact qa _ _ | assumption) ?_
  conv=>whnf
  refine qv (dm) (by omega) (by omega) ?_;conv=>whnf
  refine ⟨by omega,?_⟩;conv=>whnf
  refine DX (by first | exact gs _ | exact qa _ _ | assumption) ?_
  conv=>whnf
  refine qv (i2) (by omega) (by omega) ?_;conv=>whnf
  refine ⟨by omega,?_⟩;conv=>whnf
  rw [Cd];conv=>whnf
  refine DX (by first | exact gs _ | exact qa _ _ | assumption) ?_
  conv=>whnf
  refine rf (i2) (by omega) (by first | omega | (simp only [sr];omega)) ?_
  conv=>whnf
  refine ⟨by omega,?_⟩;conv=>whnf
  rw [Cd];conv=>whnf
  refine DX (by first | exact gs _ | exact qa _ _ | assumption) ?_
  conv=>whnf
  refine rf (dm) (by omega) (by first | omega | (simp only [sr];omega)) ?_
  conv=>whnf
  subst J3;unfold Tu;obtain ⟨Rw,Jm⟩:∃ c,Ts=c:=⟨_,rfl⟩;obtain ⟨V5,Kr⟩:∃ c,Tt=c:=⟨_,rfl⟩;rw [Jm,Kr,rZ,rZ,JY];conv=>whnf
  rw [qU i2 (by omega),show IntKind.i64.wrap ((dm:Int)-1)=((dm-1:Nat):Int) by rw [qm _ (by omega) (by omega)];omega];subst Jm;unfold Ts;obtain ⟨m2,Hd⟩:∃ c,P0=c:=⟨_,rfl⟩;obtain ⟨BI,H9⟩:∃ c,P1=c:=⟨_,rfl⟩;obtain ⟨Rv,Jl⟩:∃ c,Tr=c:=⟨_,rfl⟩;rw [Hd,H9,Jl];conv=>whnf
  generalize jz:Sort.partLoop Sort.ltInt a (i2+1) (dm-1) (Sort.swp d1 i2 dm)=R at bn;refine .intro (fun m T H'=>∃ i j gT,a+1≤i∧i≤j+1∧j+1≤b∧m=j+1-i∧gT.size=d1.size∧Sort.partLoop Sort.ltInt a i j gT=R∧T=GH 168 [(0,qk id gT.size),(1,hS a),(10,hS (i:Nat)),(11,hS (j:Nat))]∧H'=H.set id (qe gT)) (dm-1+1-(i2+1)) ⟨i2+1,dm-1,Sort.swp d1 i2 dm,by omega,by omega,by omega,by omega,swp_size _ _ _,jz,by rw [swp_size];rfl,rfl⟩ ?_;rintro m T H' ⟨i,j,gT,ad,af,aG,hm,Cn,he,rfl,rfl⟩;conv=>whnf
  subst Hd;refine aid aE gT a i j (by omega) (by omega) (by omega) (by omega) af _ fun i3 qq Bh Bi Iw Ix Iy Iz IA IB IC Iv jP Di Ic=>?_;conv=>whnf
  subst H9;refine aie aE gT a i3 j (by omega) (by omega) (by omega) (by omega) (by omega) _ _ _ _ _ _ _ _ _ _ _ _ fun ml lh x0 oq FX abO abP abQ abR abS abT abN UZ Sl Xh PF=>?_;conv=>whnf
  rw [agM a i j i3 ml gT Ic PF (by omega) (by omega)] at he;by_cases h:(ml:Int)<(i3:Int)
  ·rw [decide_eq_true h];rw [if_pos (by omega)] at he;(conv=>whnf);subst Kr;unfold Tt;(conv=>whnf);subst he;refine ⟨by omega,?_⟩;(conv=>whnf);refine DX (by first | exact gs _ | exact qa _ _ | assumption) ?_
   (conv=>whnf);refine qv (a) (by omega) (by omega) ?_;(conv=>whnf);refine ⟨by omega,?_⟩;(conv=>whnf);refine DX (by first | exact gs _ | exact qa _ _ | assumption) ?_
   (conv=>whnf);refine qv (ml) (by omega) (by omega) ?_;(conv=>whnf);refine ⟨by omega,?_⟩;(conv=>whnf);rw [Cd];(conv=>whnf);refine DX (by first | exact gs _ | exact qa _ _ | assumption) ?_
   (conv=>whnf);refine rf (ml) (by omega) (by first | omega | (simp only [sr];omega)) ?_
   (conv=>whnf);refine ⟨by omega,?_⟩;(conv=>whnf);rw [Cd];(conv=>whnf);refine DX (by first | exact gs _ | exact qa _ _ | assumption) ?_
   (conv=>whnf);refine rf (a) (by omega) (by first | omega | (simp only [sr];omega)) ?_
   (conv=>whnf);rw [rZ,rZ,JY];exact bn _ _ _ ⟨.inr rfl,⟨by simp,fun j o aw=>.inr aw⟩,rfl⟩
  ·rw [decide_eq_false h];rw [if_neg (by omega)] at he;(conv=>whnf);have bO:i3≠ml:=fun e=>by
    have aB:=(Sort.scanUp_spec (fun x=>Sort.ltInt x gT[a]!) gT j _ i rfl).2.2.2 (by rw [Ic];omega);have aH:=(Sort.scanDown_spec (fun x=>!Sort.ltInt x gT[a]!) gT i3 j).2.2.2 (by rw [PF];omega) (by rw [PF];omega);rw [Ic] at aB;rw [PF,←e] at aH;simp only [wa] at aB aH;rw [aB] at aH;cases aH
   subst Jl;unfold Tr;obtain ⟨Ru,I0⟩:∃ c,Tq=c:=⟨_,rfl⟩;rw [I0];(conv=>whnf);refine ⟨by omega,?_⟩;(conv=>whnf);refine DX (by first | exact gs _ | exact qa _ _ | assumption) ?_
   (conv=>whnf);refine qv (ml) (by omega) (by omega) ?_;(conv=>whnf);refine ⟨by omega,?_⟩;(conv=>whnf);refine DX (by first | exact gs _ | exact qa _ _ | assumption) ?_
   (conv=>whnf);refine qv (i3) (by omega) (by omega) ?_;(conv=>whnf);refine ⟨by omega,?_⟩;(conv=>whnf);rw [Cd];(conv=>whnf);refine DX (by first | exact gs _ | exact qa _ _ | assumption) ?_
   (conv=>whnf);refine rf (i3) (by omega) (by first | omega | (simp only [sr];omega)) ?_
   (conv=>whnf);refine ⟨by omega,?_⟩;(conv=>whnf);rw [Cd];(conv=>whnf);refine DX (by first | exact gs _ | exact qa _ _ | assumption) ?_
   (conv=>whnf);refine rf (ml) (by omega) (by first | omega | (simp only [sr];omega)) ?_
   (conv=>whnf);subst I0;unfold Tq;rw [rZ,rZ,JY];(conv=>whnf);refine ⟨ml-1+1-(i3+1),by omega,i3+1,ml-1,Sort.swp gT i3 ml,by omega,by omega,by omega,rfl,by rw [swp_size];exact Cn,he,?_,rfl⟩;rw [←qU i3 (by omega),show ((ml-1:Nat):Int)=IntKind.i64.wrap ((ml:Int)-1) by rw [qm _ (by omega) (by omega)];omega,swp_size];rfl
end
end Go.Proofs.YtfakoboiahbhaaaGreat.Ab.Pq


namespace Go.Proofs.YtfakoboiahbhaaaGreat.Ab.Pq
open Go
set_option maxRecDepth 20000
set_option maxHeartbeats 4000000
theorem agH (a b:Nat):∀ (n i j:Nat) (d:Array Int),j+1-i≤n→a<i→i≤b→j<b→a<(Sort.partEqLoop Sort.ltInt a i j d).1∧(Sort.partEqLoop Sort.ltInt a i j d).1≤b∧(Sort.partEqLoop Sort.ltInt a i j d).2.size=d.size:=by
 intro n
 induction n with
 | zero =>
   intro i j d aN hi ag aw;have s1:=Sort.scanUp_spec (fun x=>!Sort.ltInt d[a]! x) d j _ i rfl;have s2:=Sort.scanDown_spec (fun x=>Sort.ltInt d[a]! x) d (Sort.scanUp (fun x=>!Sort.ltInt d[a]! x) d j i) j;rw [SI a i j _ _ d rfl rfl s1.1 s2.1];(have e:Sort.scanUp (fun x=>!Sort.ltInt d[a]! x) d j i=i:=by rw [Jv,if_neg (by simp;omega)]);rw [e] at s2 ⊢;rw [if_pos (by omega)];exact ⟨hi,ag,rfl⟩
 | succ n a' =>
   intro i j d aN hi ag aw;have s1:=Sort.scanUp_spec (fun x=>!Sort.ltInt d[a]! x) d j _ i rfl;have s2:=Sort.scanDown_spec (fun x=>Sort.ltInt d[a]! x) d (Sort.scanUp (fun x=>!Sort.ltInt d[a]! x) d j i) j;rw [SI a i j _ _ d rfl rfl s1.1 s2.1];obtain ⟨i2,af⟩:∃ x,x=Sort.scanUp (fun x=>!Sort.ltInt d[a]! x) d j i:=⟨_,rfl⟩;rw [←af] at s1 s2 ⊢;obtain ⟨dm,aG⟩:∃ x,x=Sort.scanDown (fun x=>Sort.ltInt d[a]! x) d i2 j:=⟨_,rfl⟩;rw [←aG] at s2 ⊢;have aeS:i2≤b:=by
    by_cases h:i≤j+1
    ·have:=s1.2.1 h;omega
    ·(have e:Sort.scanUp (fun x=>!Sort.ltInt d[a]! x) d j i=i:=by rw [Jv,if_neg (by simp;omega)]);omega
   split
   ·exact ⟨by have:=s1.1;show a<i2;omega,aeS,rfl⟩
   ·have:=a' (i2+1) (dm-1) (Sort.swp d i2 dm) (by have:=s1.1;have:=s2.1;omega) (by have:=s1.1;omega) (by have:=s2.1;omega) (by have:=s2.1;omega);rw [swp_size] at this;exact this
theorem SJ (d:Array Int) (a b p:Nat) (jB:a<b):a<(Sort.partitionEqual Sort.ltInt d a b p).1∧(Sort.partitionEqual Sort.ltInt d a b p).1≤b∧(Sort.partitionEqual Sort.ltInt d a b p).2.size=d.size:=by
 have:=agH a b _ (a+1) (b-1) (Sort.swp d a p) (rX _) (by omega) (by omega) (by omega);rw [swp_size] at this;exact this
def qQ (d:Array Int) (a b qx:Nat) (Oq ZQ:Bool):Nat :=
 if b-a≤12 then 0 else
 if qx=0 then 0 else
 let cc:=if !Oq then 2 else 1
 let d1:=if !Oq then Sort.breakPatterns d a b else d
 let qx:=if !Oq then qx-1 else qx
 let c:=Sort.choosePivot Sort.ltInt d1 a b
 let d2:=if c.2=.decreasing then Sort.reverseRange d1 a b else d1
 let pZ:=if c.2=.decreasing then (b-1)-(c.1-a) else c.1
 let hint:=if c.2=.decreasing then Sort.Hint.increasing else c.2
 let pi:=if Oq && ZQ && hint=.increasing then Sort.partialInsertionSort Sort.ltInt d2 a b else (d2,false)
 if pi.2 then cc else
 let d3:=pi.1
 if a > 0 && !Sort.ltInt d3[a-1]! d3[pZ]! then
  match Sort.partitionEqual Sort.ltInt d3 a b pZ with
  | (mid,d4)=>if ab0:a<mid∧mid≤b then cc+qQ d4 mid b qx Oq ZQ else 0
 else
  match Sort.partition Sort.ltInt d3 a b pZ with
  | (mid,Vb,d4) =>
    if ab0:a≤mid∧mid<b then
     if mid-a<b-mid then
      cc+qQ d4 a mid qx true true+qQ (Sort.pdq Sort.ltInt d4 a mid qx true true) (mid+1) b qx (decide (mid-a≥(b-a) / 8)) Vb
     else
      cc+qQ d4 (mid+1) b qx true true+qQ (Sort.pdq Sort.ltInt d4 (mid+1) b qx true true) a mid qx (decide (b-mid≥(b-a) / 8)) Vb
    else 0
termination_by b-a
decreasing_by all_goals omega
abbrev rP (n:Nat):List au:=List.replicate n .dead
theorem RA (X:List au) (m n:Nat):X++rP m++rP n=X++rP (m+n):=by rw [List.append_assoc,List.replicate_append_replicate]
theorem Wf (X:List au) (m:Nat):X++rP m++[.dead]=X++rP (m+1):=RA X m 1
theorem JZ (X:List au) (x y:au) (m id:Nat) (h:id<X.length):(X.set id x++rP m).set id y=X.set id y++rP m:=by
 rw [ve _ _ (by simpa using h),rZ]
theorem Kq (X:List au) (x:au) (m id:Nat) (h:id<X.length):(X.set id x++rP m)[id]?=some x:=by
 rw [se (by simpa using h),rY h]
theorem XK (a b:Nat):∀ (s i:Nat) (d:Array Int),(Sort.partialIns Sort.ltInt a b s i d).1.size=d.size
 | 0,_,_=>rfl
 | s+1,i,d=>by
   rw [Sort.partialIns];simp only;have e1:∀ (q:Nat) (x:Array Int),(if b-q≥2 then Sort.shiftUp Sort.ltInt b (q+1) x else x).size=x.size:=fun q x=>by
    split
    ·exact Uj _ _ _ _ (rX _)
    ·rfl
   have cm:∀ (q:Nat) (x:Array Int),(if q-a≥2 then Sort.shiftDown Sort.ltInt (q-1) x else x).size=x.size:=fun q x=>by
    split
    ·exact Ui _ _
    ·rfl
   split
   ·rfl
   ·split
    ·rfl
    ·rw [XK a b s,e1,cm,swp_size]
theorem XL (d:Array Int) (a b:Nat):(Sort.partialInsertionSort Sort.ltInt d a b).1.size=d.size:=XK a b _ _ _
theorem agX (c:Bool) (d:Array Int) (a b:Nat):(if c then (Sort.partialInsertionSort Sort.ltInt d a b).1 else d).size=d.size:=by
 cases c
 ·rfl
 ·exact XL d a b
theorem XQ {d:Array Int} {a b qx:Nat} {wb wp:Bool} (rL:¬ b-a≤12) (ak:¬ qx=0) {d1 d2 d3:Array Int} {dK cc pZ:Nat} {c:Nat×Sort.Hint} {hint:Sort.Hint} {fin:Bool}
  (e1:d1=if !wb then Sort.breakPatterns d a b else d) (cm:dK=if !wb then qx-1 else qx) (J0:cc=if !wb then 2 else 1) (IJ:c=Sort.choosePivot Sort.ltInt d1 a b) (H6:d2=if c.2=.decreasing then Sort.reverseRange d1 a b else d1)
  (Io:pZ=if c.2=.decreasing then (b-1)-(c.1-a) else c.1) (IK:hint=if c.2=.decreasing then Sort.Hint.increasing else c.2) (H7:fin=(wb && wp && decide (hint=.increasing) && (Sort.partialInsertionSort Sort.ltInt d2 a b).2)) (dF:d3=if wb && wp && decide (hint=.increasing) then (Sort.partialInsertionSort Sort.ltInt d2 a b).1 else d2) :
  Sort.pdq Sort.ltInt d a b qx wb wp=(if fin then d3 else
   if a > 0 && !Sort.ltInt d3[a-1]! d3[pZ]! then Sort.pdq Sort.ltInt (Sort.partitionEqual Sort.ltInt d3 a b pZ).2 (Sort.partitionEqual Sort.ltInt d3 a b pZ).1 b dK wb wp
   else if a≤(Sort.partition Sort.ltInt d3 a b pZ).1∧(Sort.partition Sort.ltInt d3 a b pZ).1<b then
    if (Sort.partition Sort.ltInt d3 a b pZ).1-a<b-(Sort.partition Sort.ltInt d3 a b pZ).1 then
     Sort.pdq Sort.ltInt (Sort.pdq Sort.ltInt (Sort.partition Sort.ltInt d3 a b pZ).2.2 a (Sort.partition Sort.ltInt d3 a b pZ).1 dK true true) ((Sort.partition Sort.ltInt d3 a b pZ).1+1) b dK (decide ((Sort.partition Sort.ltInt d3 a b pZ).1-a≥(b-a) / 8)) (Sort.partition Sort.ltInt d3 a b pZ).2.1
    else
     Sort.pdq Sort.ltInt (Sort.pdq Sort.ltInt (Sort.partition Sort.ltInt d3 a b pZ).2.2 ((Sort.partition Sort.ltInt d3 a b pZ).1+1) b dK true true) a (Sort.partition Sort.ltInt d3 a b pZ).1 dK (decide (b-(Sort.partition Sort.ltInt d3 a b pZ).1≥(b-a) / 8)) (Sort.partition Sort.ltInt d3 a b pZ).2.1
   else (Sort.partition Sort.ltInt d3 a b pZ).2.2) ∧
  qQ d a b qx wb wp=(if fin then cc else
   if a > 0 && !Sort.ltInt d3[a-1]! d3[pZ]! then cc+qQ (Sort.partitionEqual Sort.ltInt d3 a b pZ).2 (Sort.partitionEqual Sort.ltInt d3 a b pZ).1 b dK wb wp
   else if a≤(Sort.partition Sort.ltInt d3 a b pZ).1∧(Sort.partition Sort.ltInt d3 a b pZ).1<b then
    if (Sort.partition Sort.ltInt d3 a b pZ).1-a<b-(Sort.partition Sort.ltInt d3 a b pZ).1 then
     cc+qQ (Sort.partition Sort.ltInt d3 a b pZ).2.2 a (Sort.partition Sort.ltInt d3 a b pZ).1 dK true true+qQ (Sort.pdq Sort.ltInt (Sort.partition Sort.ltInt d3 a b pZ).2.2 a (Sort.partition Sort.ltInt d3 a b pZ).1 dK true true) ((Sort.partition Sort.ltInt d3 a b pZ).1+1) b dK (decide ((Sort.partition Sort.ltInt d3 a b pZ).1-a≥(b-a) / 8)) (Sort.partition Sort.ltInt d3 a b pZ).2.1
    else
     cc+qQ (Sort.partition Sort.ltInt d3 a b pZ).2.2 ((Sort.partition Sort.ltInt d3 a b pZ).1+1) b dK true true+qQ (Sort.pdq Sort.ltInt (Sort.partition Sort.ltInt d3 a b pZ).2.2 ((Sort.partition Sort.ltInt d3 a b pZ).1+1) b dK true true) a (Sort.partition Sort.ltInt d3 a b pZ).1 dK (decide (b-(Sort.partition Sort.ltInt d3 a b pZ).1≥(b-a) / 8)) (Sort.partition Sort.ltInt d3 a b pZ).2.1
   else 0):=by
 have aj:=SJ d3 a b pZ (by omega);have yQ:(if wb && wp && decide (hint=.increasing) then Sort.partialInsertionSort Sort.ltInt d2 a b else (d2,false))=(d3,fin):=by
  rw [H7,dF];split
  ·rename_i h;rw [h,Bool.true_and]
  ·rename_i h;rw [show (wb && wp && decide (hint=.increasing))=false by simpa using h];rfl
 constructor
 ·rw [Sort.pdq];simp only [if_neg rL,if_neg ak,←e1,←cm,←IJ,←H6,←Io,←IK,yQ,dif_pos (And.intro aj.1 aj.2.1),dite_eq_ite]
 ·rw [qQ];simp only [if_neg rL,if_neg ak,←e1,←cm,←J0,←IJ,←H6,←Io,←IK,yQ,dif_pos (And.intro aj.1 aj.2.1),dite_eq_ite]
theorem Yz (d:Array Int) (a b:Nat) (h:a≤b) (ag:b≤d.size):(Sort.reverseRange d a b).size=d.size:=(Sort.reverseRange_holds d a b h ag).1
theorem V2 (d:Array Int) (a b:Nat) (h:a≤b) (ag:b≤d.size):(Sort.breakPatterns d a b).size=d.size:=(Sort.breakPatterns_holds d a b h ag).1
theorem W1 (h:Sort.Hint):(LC h=2)↔h=.decreasing:=by cases h <;> simp [LC]
theorem W0 (h:Sort.Hint):(LC h=1)↔h=.increasing:=by cases h <;> simp [LC]
theorem XR:∀ (n:Nat) (d:Array Int) (a b qx:Nat) (wb wp:Bool),b-a≤n→a≤b→b≤d.size→(Sort.pdq Sort.ltInt d a b qx wb wp).size=d.size:=by
 intro n
 induction n using Nat.strongRecOn with
 | _ n Hb =>
 intro d a b qx wb wp aN cg ag;by_cases rL:b-a≤12
 ·rw [Sort.pdq,if_pos rL];exact (Sort.insertionSort_holds (lt:=Sort.ltInt) Sort.swo_ltInt d a b cg ag).1.1
 by_cases ak:qx=0
 ·rw [Sort.pdq,if_neg rL,if_pos ak];exact (Sort.heapSort_holds (lt:=Sort.ltInt) Sort.swo_ltInt d a b cg ag).1.1
 obtain ⟨d1,e1⟩:∃ x,x=if !wb then Sort.breakPatterns d a b else d:=⟨_,rfl⟩;obtain ⟨dK,cm⟩:∃ x,x=if !wb then qx-1 else qx:=⟨_,rfl⟩;obtain ⟨cc,J0⟩:∃ x,x=if !wb then 2 else 1:=⟨_,rfl⟩;obtain ⟨F6,IJ⟩:∃ x,x=Sort.choosePivot Sort.ltInt d1 a b:=⟨_,rfl⟩;obtain ⟨d2,H6⟩:∃ x,x=if F6.2=.decreasing then Sort.reverseRange d1 a b else d1:=⟨_,rfl⟩;obtain ⟨pZ,Io⟩:∃ x,x=if F6.2=.decreasing then (b-1)-(F6.1-a) else F6.1:=⟨_,rfl⟩;obtain ⟨hint,IK⟩:∃ x,x=if F6.2=.decreasing then Sort.Hint.increasing else F6.2:=⟨_,rfl⟩;obtain ⟨fin,H7⟩:∃ x,x=(wb && wp && decide (hint=.increasing) && (Sort.partialInsertionSort Sort.ltInt d2 a b).2):=⟨_,rfl⟩;obtain ⟨d3,dF⟩:∃ x,x=if wb && wp && decide (hint=.increasing) then (Sort.partialInsertionSort Sort.ltInt d2 a b).1 else d2:=⟨_,rfl⟩;obtain ⟨q1,aX⟩:=XQ (wb:=wb) (wp:=wp) rL ak e1 cm J0 IJ H6 Io IK H7 dF;rw [q1];have s1:d1.size=d.size:=by
  rw [e1];split
  ·exact V2 _ _ _ cg ag
  ·rfl
 have s2:d2.size=d.size:=by
  rw [H6];split
  ·rw [Yz _ _ _ cg (by omega)];exact s1
  ·exact s1
 have s3:d3.size=d.size:=by rw [dF,agX];exact s2
 have eB:=Sort.choosePivot_holds Sort.ltInt d1 a b (by omega);rw [←IJ] at eB;have aC:a≤pZ∧pZ<b:=by rw [Io];split <;> omega
 have Ir:=Sort.partition_holds (lt:=Sort.ltInt) Sort.swo_ltInt d3 a b pZ aC.1 aC.2 (by omega);have a4:=SJ d3 a b pZ (by omega);have Gz:=Ir.2.2.1.1;split
 ·exact s3
 ·split
  ·rw [Hb _ (by omega) _ _ _ _ _ _ (rX _) (by omega) (by omega)];omega
  ·rw [if_pos ⟨Ir.1,Ir.2.1⟩];split
   ·have:=Hb (Sort.partition Sort.ltInt d3 a b pZ).1 |> fun _=>Hb ((Sort.partition Sort.ltInt d3 a b pZ).1-a) (by omega) (Sort.partition Sort.ltInt d3 a b pZ).2.2 a (Sort.partition Sort.ltInt d3 a b pZ).1 dK true true (rX _) Ir.1 (by omega)
    rw [Hb _ (by omega) _ _ _ _ _ _ (rX _) (by omega) (by omega)];omega
   ·have:=Hb (b-((Sort.partition Sort.ltInt d3 a b pZ).1+1)) (by omega) (Sort.partition Sort.ltInt d3 a b pZ).2.2 ((Sort.partition Sort.ltInt d3 a b pZ).1+1) b dK true true (rX _) (by omega) (by omega);rw [Hb ((Sort.partition Sort.ltInt d3 a b pZ).1-a) (by omega) _ _ _ _ _ _ (rX _) (by omega) (by omega)];omega
def PE:List Bool:=[true,true,true,true,false,false,false,false,true,true,false,false,false,false,false,false,false,false,false,false,false,false,false,false,false,false,false,false,false,false,false,false,false,false,false,false,false,false,false,false,false,false,false,false,false,false,false,false,false,false,false,false,false,false,false,false,false,false,false,false,false,false,false,false,false,false,false,false,false,false,false,false,false,false,false,false,false,false,false,false,false,false,false,false,false,false,false,false,false,false,false,false,false,false,false,false,false,false,false,false,false,false,false,false,false,false,false,false,false,false,false,false,false,false,false,false,false,false,false,false,false,false,false,false,false,false,false,false,false,false,false,false,false,false]
theorem XU {n:Nat} {H:List au} {id lo:Nat} {d d2 R:Array Int} {a b dK n0 N M pZ:Nat} {wb wp:Bool} (bF:lo≤id)
  (Hb:∀ m,m<n→∀ (H:List au) (id lo:Nat) (d:Array Int) (a b qx:Nat),b-a≤m→lo≤id→d.size<256→a≤b→b≤d.size→qx≤100→H[id]?=some (qe d) →
   Sem Go.Proofs.Tryz.prog (.fn 96) [qk id d.size,hS a,hS b,hS qx] H lo (.tuple []) (H.set id (qe (Sort.pdq Sort.ltInt d a b qx true true))++rP (qQ d a b qx true true)))
  (aE:id<H.length) (a0:d.size<256) (aN:b-a≤n) (ag:b≤d.size) (rL:12<b-a) (hA:dK≤100) (s2:d2.size=d.size) (jM:a≤pZ) (nt:pZ<b)
  (jz:(if a≤(Sort.partition Sort.ltInt d2 a b pZ).1∧(Sort.partition Sort.ltInt d2 a b pZ).1<b then
     if (Sort.partition Sort.ltInt d2 a b pZ).1-a<b-(Sort.partition Sort.ltInt d2 a b pZ).1 then
      Sort.pdq Sort.ltInt (Sort.pdq Sort.ltInt (Sort.partition Sort.ltInt d2 a b pZ).2.2 a (Sort.partition Sort.ltInt d2 a b pZ).1 dK true true) ((Sort.partition Sort.ltInt d2 a b pZ).1+1) b dK (decide ((Sort.partition Sort.ltInt d2 a b pZ).1-a≥(b-a) / 8)) (Sort.partition Sort.ltInt d2 a b pZ).2.1
     else
      Sort.pdq Sort.ltInt (Sort.pdq Sort.ltInt (Sort.partition Sort.ltInt d2 a b pZ).2.2 ((Sort.partition Sort.ltInt d2 a b pZ).1+1) b dK true true) a (Sort.partition Sort.ltInt d2 a b pZ).1 dK (decide (b-(Sort.partition Sort.ltInt d2 a b pZ).1≥(b-a) / 8)) (Sort.partition Sort.ltInt d2 a b pZ).2.1
   else (Sort.partition Sort.ltInt d2 a b pZ).2.2)=R)
  (B9:N+(if a≤(Sort.partition Sort.ltInt d2 a b pZ).1∧(Sort.partition Sort.ltInt d2 a b pZ).1<b then
     if (Sort.partition Sort.ltInt d2 a b pZ).1-a<b-(Sort.partition Sort.ltInt d2 a b pZ).1 then
      n0+qQ (Sort.partition Sort.ltInt d2 a b pZ).2.2 a (Sort.partition Sort.ltInt d2 a b pZ).1 dK true true+qQ (Sort.pdq Sort.ltInt (Sort.partition Sort.ltInt d2 a b pZ).2.2 a (Sort.partition Sort.ltInt d2 a b pZ).1 dK true true) ((Sort.partition Sort.ltInt d2 a b pZ).1+1) b dK (decide ((Sort.partition Sort.ltInt d2 a b pZ).1-a≥(b-a) / 8)) (Sort.partition Sort.ltInt d2 a b pZ).2.1
     else
      n0+qQ (Sort.partition Sort.ltInt d2 a b pZ).2.2 ((Sort.partition Sort.ltInt d2 a b pZ).1+1) b dK true true+qQ (Sort.pdq Sort.ltInt (Sort.partition Sort.ltInt d2 a b pZ).2.2 ((Sort.partition Sort.ltInt d2 a b pZ).1+1) b dK true true) a (Sort.partition Sort.ltInt d2 a b pZ).1 dK (decide (b-(Sort.partition Sort.ltInt d2 a b pZ).1≥(b-a) / 8)) (Sort.partition Sort.ltInt d2 a b pZ).2.1
   else 0)=M)
  (Q:cD→List I→List au→Prop) (jg lf lg FW H2 Ji qq Bh Bi lh x0 oq FX xU fs gi v0 v1 v2 ajb v4 v5 v6 ajc ajd:I)
  (I6:∀ a8,Q .ret a8 (H.set id (qe R)++rP M))
  (It:∀ e a8 aH cK HF HG d5 H3,(e=.normal∨e=.exit 1)→cK-aH<b-a→aH≤cK→cK≤d.size→d5.size=d.size→Sort.pdq Sort.ltInt d5 aH cK dK HF HG=R→H3+qQ d5 aH cK dK HF HG=M →
   eS PE a8=GH 134 [(0,qk id d.size),(1,hS (aH:Nat)),(2,hS (cK:Nat)),(3,hS (dK:Nat)),(8,B HF),(9,B HG)]→Q e a8 (H.set id (qe d5)++rP H3)) :
  dC Go.Proofs.Tryz.prog MA 96 lo none P9 (GH 134 [(0,qk id d.size),(1,hS a),(2,hS b),(3,hS dK),(8,B wb),(9,B wp),(10,hS (b-a:Nat)),(11,hS pZ),(12,qq),(23,jg),(29,lf),(35,lg),(39,FW),(50,H2),(54,Ji),(63,xU),(66,fs),(67,gi),(68,Bh),(72,Bi),(75,lh),(76,v0),(77,v1),(78,v2),(79,ajb),(80,x0),(81,v4),(82,v5),(83,v6),(84,oq),(85,ajc),(86,ajd),(87,FX)]) (H.set id (qe d2)++rP (N+n0)) Q:=by
 have cr:=Kq H (qe d2) (N+n0) id aE;have Ir:=Sort.partition_holds (lt:=Sort.ltInt) Sort.swo_ltInt d2 a b pZ jM nt (by omega);obtain ⟨mid,CK⟩:∃ x,x=(Sort.partition Sort.ltInt d2 a b pZ).1:=⟨_,rfl⟩;obtain ⟨ap,RX⟩:∃ x,x=(Sort.partition Sort.ltInt d2 a b pZ).2.1:=⟨_,rfl⟩;obtain ⟨d4,Pp⟩:∃ x,x=(Sort.partition Sort.ltInt d2 a b pZ).2.2:=⟨_,rfl⟩;rw [←CK,←RX,←Pp] at jz;rw [←CK,←RX,←Pp] at B9;rw [←CK,←Pp] at Ir;have Gz:d4.size=d.size:=Ir.2.2.1.1.trans s2;rw [if_pos ⟨Ir.1,Ir.2.1⟩] at jz;rw [if_pos ⟨Ir.1,Ir.2.1⟩] at B9;have R8:=Ir.1;have pv:=Ir.2.1;clear Ir;unfold P9;obtain ⟨V5,Kr⟩:∃ c,T6=c:=⟨_,rfl⟩;rw [Kr];conv=>whnf
 rw [←s2];refine ⟨_,_,qS (agL bF d2 a b pZ (by omega) (by omega) (by omega) (by omega) cr),?_⟩;rw [←CK,←RX,←Pp,JZ _ _ _ _ _ aE];conv=>whnf
 subst Kr;unfold T6;obtain ⟨Rw,Jm⟩:∃ c,T5=c:=⟨_,rfl⟩;rw [Jm];conv=>whnf
 rw [show IntKind.i64.wrap ((mid:Int)-(a:Int))=((mid-a:Nat):Int) by rw [qm _ (by omega) (by omega)];omega,show IntKind.i64.wrap ((b:Int)-(mid:Int))=((b-mid:Nat):Int) by rw [qm _ (by omega) (by omega)];omega];subst Jm;unfold T5;obtain ⟨BI,H9⟩:∃ c,Uc=c:=⟨_,rfl⟩;obtain ⟨Rv,Jl⟩:∃ c,T4=c:=⟨_,rfl⟩;rw [H9,Jl];conv=>whnf
 refine ⟨by decide,?_⟩;conv=>whnf
 rw [show IntKind.i64.wrap (((b-a:Nat):Int).tdiv 8)=(((b-a) / 8:Nat):Int) by rw [show ((b-a:Nat):Int).tdiv 8=(((b-a) / 8:Nat):Int) from rfl,qm _ (by omega) (by omega)]];by_cases h:((mid-a:Nat):Int)<((b-mid:Nat):Int)
 ·rw [decide_eq_true h];rw [if_pos (by omega)] at jz;rw [if_pos (by omega)] at B9;conv=>whnf
  subst H9;unfold Uc;obtain ⟨m3,rA⟩:∃ c,Ub=c:=⟨_,rfl⟩;rw [rA];conv=>whnf
  subst rA;unfold Ub;conv=>whnf
  rw [s2,←Gz];refine ⟨_,_,qS (Hb (mid-a) (by omega) _ id lo d4 a mid dK (rX _) bF (by omega) R8 (by omega) hA (Kq H (qe d4) (N+n0) id aE)),?_⟩;rw [JZ _ _ _ _ _ aE,RA];conv=>whnf
  rw [qU mid (by omega)];have RC:decide (((b-a) / 8:Nat)≤((mid-a:Nat):Int))=decide (mid-a≥(b-a) / 8):=by
   rw [decide_eq_decide];omega
  have sz:(Sort.pdq Sort.ltInt d4 a mid dK true true).size=d.size:=(XR _ d4 a mid dK true true (rX _) R8 (by omega)).trans Gz;refine It .normal _ (mid+1) b _ ap (Sort.pdq Sort.ltInt d4 a mid dK true true) _ (.inl rfl) (by omega) (by omega) ag sz jz (by rw [←B9];omega) ?_;rw [←RC,←Gz];rfl
 ·rw [decide_eq_false h];rw [if_neg (by omega)] at jz;rw [if_neg (by omega)] at B9;conv=>whnf
  subst Jl;unfold T4;obtain ⟨Ru,I0⟩:∃ c,T3=c:=⟨_,rfl⟩;rw [I0];conv=>whnf
  subst I0;unfold T3;conv=>whnf
  rw [s2,←Gz,qU mid (by omega)];refine ⟨_,_,qS (Hb (b-(mid+1)) (by omega) _ id lo d4 (mid+1) b dK (rX _) bF (by omega) (by omega) (by omega) hA (Kq H (qe d4) (N+n0) id aE)),?_⟩;rw [JZ _ _ _ _ _ aE,RA];conv=>whnf
  have RC:decide (((b-a) / 8:Nat)≤((b-mid:Nat):Int))=decide (b-mid≥(b-a) / 8):=by
   rw [decide_eq_decide];omega
  have sz:(Sort.pdq Sort.ltInt d4 (mid+1) b dK true true).size=d.size:=(XR _ d4 (mid+1) b dK true true (rX _) (by omega) (by omega)).trans Gz;refine It .normal _ a mid _ ap (Sort.pdq Sort.ltInt d4 (mid+1) b dK true true) _ (.inl rfl) (by omega) R8 (by omega) sz jz (by rw [←B9];omega) ?_;rw [←RC,←Gz];rfl
theorem PO {n:Nat} {H:List au} {id lo:Nat} {d d2 R:Array Int} {a b dK n0 N M pZ:Nat} {wb wp:Bool} (bF:lo≤id)
  (Hb:∀ m,m<n→∀ (H:List au) (id lo:Nat) (d:Array Int) (a b qx:Nat),b-a≤m→lo≤id→d.size<256→a≤b→b≤d.size→qx≤100→H[id]?=some (qe d) →
   Sem Go.Proofs.Tryz.prog (.fn 96) [qk id d.size,hS a,hS b,hS qx] H lo (.tuple []) (H.set id (qe (Sort.pdq Sort.ltInt d a b qx true true))++rP (qQ d a b qx true true)))
  (aE:id<H.length) (a0:d.size<256) (aN:b-a≤n) (ag:b≤d.size) (rL:12<b-a) (hA:dK≤100) (s2:d2.size=d.size) (jM:a≤pZ) (nt:pZ<b)
  (jz:(if a > 0 && !Sort.ltInt d2[a-1]! d2[pZ]! then Sort.pdq Sort.ltInt (Sort.partitionEqual Sort.ltInt d2 a b pZ).2 (Sort.partitionEqual Sort.ltInt d2 a b pZ).1 b dK wb wp
   else if a≤(Sort.partition Sort.ltInt d2 a b pZ).1∧(Sort.partition Sort.ltInt d2 a b pZ).1<b then
    if (Sort.partition Sort.ltInt d2 a b pZ).1-a<b-(Sort.partition Sort.ltInt d2 a b pZ).1 then
     Sort.pdq Sort.ltInt (Sort.pdq Sort.ltInt (Sort.partition Sort.ltInt d2 a b pZ).2.2 a (Sort.partition Sort.ltInt d2 a b pZ).1 dK true true) ((Sort.partition Sort.ltInt d2 a b pZ).1+1) b dK (decide ((Sort.partition Sort.ltInt d2 a b pZ).1-a≥(b-a) / 8)) (Sort.partition Sort.ltInt d2 a b pZ).2.1
    else
     Sort.pdq Sort.ltInt (Sort.pdq Sort.ltInt (Sort.partition Sort.ltInt d2 a b pZ).2.2 ((Sort.partition Sort.ltInt d2 a b pZ).1+1) b dK true true) a (Sort.partition Sort.ltInt d2 a b pZ).1 dK (decide (b-(Sort.partition Sort.ltInt d2 a b pZ).1≥(b-a) / 8)) (Sort.partition Sort.ltInt d2 a b pZ).2.1
   else (Sort.partition Sort.ltInt d2 a b pZ).2.2)=R)
  (B9:N+(if a > 0 && !Sort.ltInt d2[a-1]! d2[pZ]! then n0+qQ (Sort.partitionEqual Sort.ltInt d2 a b pZ).2 (Sort.partitionEqual Sort.ltInt d2 a b pZ).1 b dK wb wp
   else if a≤(Sort.partition Sort.ltInt d2 a b pZ).1∧(Sort.partition Sort.ltInt d2 a b pZ).1<b then
    if (Sort.partition Sort.ltInt d2 a b pZ).1-a<b-(Sort.partition Sort.ltInt d2 a b pZ).1 then
     n0+qQ (Sort.partition Sort.ltInt d2 a b pZ).2.2 a (Sort.partition Sort.ltInt d2 a b pZ).1 dK true true+qQ (Sort.pdq Sort.ltInt (Sort.partition Sort.ltInt d2 a b pZ).2.2 a (Sort.partition Sort.ltInt d2 a b pZ).1 dK true true) ((Sort.partition Sort.ltInt d2 a b pZ).1+1) b dK (decide ((Sort.partition Sort.ltInt d2 a b pZ).1-a≥(b-a) / 8)) (Sort.partition Sort.ltInt d2 a b pZ).2.1
    else
     n0+qQ (Sort.partition Sort.ltInt d2 a b pZ).2.2 ((Sort.partition Sort.ltInt d2 a b pZ).1+1) b dK true true+qQ (Sort.pdq Sort.ltInt (Sort.partition Sort.ltInt d2 a b pZ).2.2 ((Sort.partition Sort.ltInt d2 a b pZ).1+1) b dK true true) a (Sort.partition Sort.ltInt d2 a b pZ).1 dK (decide (b-(Sort.partition Sort.ltInt d2 a b pZ).1≥(b-a) / 8)) (Sort.partition Sort.ltInt d2 a b pZ).2.1
   else 0)=M)
  (Q:cD→List I→List au→Prop) (jg lf lg FW H2 Ji qq Bh Bi xU fs gi:I)
  (I6:∀ a8,Q .ret a8 (H.set id (qe R)++rP M))
  (It:∀ e a8 aH cK HF HG d5 H3,(e=.normal∨e=.exit 1)→cK-aH<b-a→aH≤cK→cK≤d.size→d5.size=d.size→Sort.pdq Sort.ltInt d5 aH cK dK HF HG=R→H3+qQ d5 aH cK dK HF HG=M →
   eS PE a8=GH 134 [(0,qk id d.size),(1,hS (aH:Nat)),(2,hS (cK:Nat)),(3,hS (dK:Nat)),(8,B HF),(9,B HG)]→Q e a8 (H.set id (qe d5)++rP H3)) :
  dC Go.Proofs.Tryz.prog MA 96 lo none P_ (GH 134 [(0,qk id d.size),(1,hS a),(2,hS b),(3,hS dK),(8,B wb),(9,B wp),(10,hS (b-a:Nat)),(11,hS pZ),(12,qq),(23,jg),(29,lf),(35,lg),(39,FW),(50,H2),(54,Ji),(63,xU),(66,fs),(67,gi),(68,Bh),(72,Bi)]) (H.set id (qe d2)++rP (N+n0)) Q:=by
 have cr:=Kq H (qe d2) (N+n0) id aE;unfold P_;obtain ⟨m2,Hd⟩:∃ c,Ua=c:=⟨_,rfl⟩;obtain ⟨V6,J3⟩:∃ c,P9=c:=⟨_,rfl⟩;rw [Hd,J3];conv=>whnf
 by_cases aT:(0:Int)<(a:Int)
 ·rw [decide_eq_true aT];conv=>whnf
  rw [show IntKind.i64.wrap ((a:Int)-1)=((a-1:Nat):Int) by rw [qm _ (by omega) (by omega)];omega];rw [←s2];refine ⟨by omega,?_⟩;conv=>whnf
  refine DX (by first | exact gs _ | exact qa _ _ | assumption) ?_
  conv=>whnf
  refine qv (a-1) (by omega) (by omega) ?_;conv=>whnf
  refine ⟨by omega,?_⟩;conv=>whnf
  refine DX (by first | exact gs _ | exact qa _ _ | assumption) ?_
  conv=>whnf
  refine qv (pZ) (by omega) (by omega) ?_;conv=>whnf
  refine ⟨by first | rfl | simp only [sG,sM,GY,G6,GZ,G1,G0,G2,G8,G7,rQ,G3,G4,G5,sN,sL],_,HV d2[a-1]! d2[pZ]!,GX,?_⟩
  conv=>whnf
  by_cases bN:d2[a-1]!<d2[pZ]!
  ·rw [decide_eq_true bN];(conv=>whnf);rw [if_neg (by simp [Sort.ltInt,bN])] at jz;rw [if_neg (by simp [Sort.ltInt,bN])] at B9;subst J3;rw [s2];exact XU bF Hb aE a0 aN ag rL hA s2 jM nt jz B9 Q _ _ _ _ _ _ _ _ _ _ _ _ _ _ _ _ _ _ _ _ _ _ _ _ _ I6 It
  ·rw [decide_eq_false bN];(conv=>whnf);have a4:=SJ d2 a b pZ (by omega);rw [if_pos (by simp [Sort.ltInt];omega)] at jz;rw [if_pos (by simp [Sort.ltInt];omega)] at B9;subst Hd;unfold Ua;(conv=>whnf);refine ⟨_,_,qS (agI bF d2 a b pZ (by omega) (by omega) (by omega) (by omega) cr),?_⟩;rw [JZ _ _ _ _ _ aE];(conv=>whnf);refine It (.exit 1) _ _ b wb wp _ _ (.inr rfl) (by omega) a4.2.1 ag (a4.2.2.trans s2) jz (by rw [←B9];omega) ?_;rw [s2];rfl
 ·rw [decide_eq_false aT];conv=>whnf
  rw [if_neg (by simp;omega)] at jz;rw [if_neg (by simp;omega)] at B9;subst J3;exact XU bF Hb aE a0 aN ag rL hA s2 jM nt jz B9 Q _ _ _ _ _ _ _ _ _ _ _ _ _ _ _ _ _ _ _ _ _ _ _ _ _ I6 It
theorem XT {n:Nat} {H:List au} {id lo:Nat} {d d2 d3 R:Array Int} {a b dK n0 N M pZ:Nat} {wb wp fin:Bool} {hint:Sort.Hint} (bF:lo≤id)
  (Hb:∀ m,m<n→∀ (H:List au) (id lo:Nat) (d:Array Int) (a b qx:Nat),b-a≤m→lo≤id→d.size<256→a≤b→b≤d.size→qx≤100→H[id]?=some (qe d) →
   Sem Go.Proofs.Tryz.prog (.fn 96) [qk id d.size,hS a,hS b,hS qx] H lo (.tuple []) (H.set id (qe (Sort.pdq Sort.ltInt d a b qx true true))++rP (qQ d a b qx true true)))
  (aE:id<H.length) (a0:d.size<256) (aN:b-a≤n) (ag:b≤d.size) (rL:12<b-a) (hA:dK≤100) (s2:d2.size=d.size) (jM:a≤pZ) (nt:pZ<b)
  (H7:fin=(wb && wp && decide (hint=.increasing) && (Sort.partialInsertionSort Sort.ltInt d2 a b).2))
  (dF:d3=if wb && wp && decide (hint=.increasing) then (Sort.partialInsertionSort Sort.ltInt d2 a b).1 else d2)
  (jz:(if fin then d3 else
   if a > 0 && !Sort.ltInt d3[a-1]! d3[pZ]! then Sort.pdq Sort.ltInt (Sort.partitionEqual Sort.ltInt d3 a b pZ).2 (Sort.partitionEqual Sort.ltInt d3 a b pZ).1 b dK wb wp
   else if a≤(Sort.partition Sort.ltInt d3 a b pZ).1∧(Sort.partition Sort.ltInt d3 a b pZ).1<b then
    if (Sort.partition Sort.ltInt d3 a b pZ).1-a<b-(Sort.partition Sort.ltInt d3 a b pZ).1 then
     Sort.pdq Sort.ltInt (Sort.pdq Sort.ltInt (Sort.partition Sort.ltInt d3 a b pZ).2.2 a (Sort.partition Sort.ltInt d3 a b pZ).1 dK true true) ((Sort.partition Sort.ltInt d3 a b pZ).1+1) b dK (decide ((Sort.partition Sort.ltInt d3 a b pZ).1-a≥(b-a) / 8)) (Sort.partition Sort.ltInt d3 a b pZ).2.1
    else
     Sort.pdq Sort.ltInt (Sort.pdq Sort.ltInt (Sort.partition Sort.ltInt d3 a b pZ).2.2 ((Sort.partition Sort.ltInt d3 a b pZ).1+1) b dK true true) a (Sort.partition Sort.ltInt d3 a b pZ).1 dK (decide (b-(Sort.partition Sort.ltInt d3 a b pZ).1≥(b-a) / 8)) (Sort.partition Sort.ltInt d3 a b pZ).2.1
   else (Sort.partition Sort.ltInt d3 a b pZ).2.2)=R)
  (B9:N+(if fin then n0 else
   if a > 0 && !Sort.ltInt d3[a-1]! d3[pZ]! then n0+qQ (Sort.partitionEqual Sort.ltInt d3 a b pZ).2 (Sort.partitionEqual Sort.ltInt d3 a b pZ).1 b dK wb wp
   else if a≤(Sort.partition Sort.ltInt d3 a b pZ).1∧(Sort.partition Sort.ltInt d3 a b pZ).1<b then
    if (Sort.partition Sort.ltInt d3 a b pZ).1-a<b-(Sort.partition Sort.ltInt d3 a b pZ).1 then
     n0+qQ (Sort.partition Sort.ltInt d3 a b pZ).2.2 a (Sort.partition Sort.ltInt d3 a b pZ).1 dK true true+qQ (Sort.pdq Sort.ltInt (Sort.partition Sort.ltInt d3 a b pZ).2.2 a (Sort.partition Sort.ltInt d3 a b pZ).1 dK true true) ((Sort.partition Sort.ltInt d3 a b pZ).1+1) b dK (decide ((Sort.partition Sort.ltInt d3 a b pZ).1-a≥(b-a) / 8)) (Sort.partition Sort.ltInt d3 a b pZ).2.1
    else
     n0+qQ (Sort.partition Sort.ltInt d3 a b pZ).2.2 ((Sort.partition Sort.ltInt d3 a b pZ).1+1) b dK true true+qQ (Sort.pdq Sort.ltInt (Sort.partition Sort.ltInt d3 a b pZ).2.2 ((Sort.partition Sort.ltInt d3 a b pZ).1+1) b dK true true) a (Sort.partition Sort.ltInt d3 a b pZ).1 dK (decide (b-(Sort.partition Sort.ltInt d3 a b pZ).1≥(b-a) / 8)) (Sort.partition Sort.ltInt d3 a b pZ).2.1
   else 0)=M)
  (Q:cD→List I→List au→Prop) (jg lf lg FW H2 Ji:I)
  (I6:∀ a8,Q .ret a8 (H.set id (qe R)++rP M))
  (It:∀ e a8 aH cK HF HG d5 H3,(e=.normal∨e=.exit 1)→cK-aH<b-a→aH≤cK→cK≤d.size→d5.size=d.size→Sort.pdq Sort.ltInt d5 aH cK dK HF HG=R→H3+qQ d5 aH cK dK HF HG=M →
   eS PE a8=GH 134 [(0,qk id d.size),(1,hS (aH:Nat)),(2,hS (cK:Nat)),(3,hS (dK:Nat)),(8,B HF),(9,B HG)]→Q e a8 (H.set id (qe d5)++rP H3)) :
  dC Go.Proofs.Tryz.prog MA 96 lo none P' (GH 134 [(0,qk id d.size),(1,hS a),(2,hS b),(3,hS dK),(8,B wb),(9,B wp),(10,hS (b-a:Nat)),(11,hS pZ),(12,hS (LC hint)),(23,jg),(29,lf),(35,lg),(39,FW),(50,H2),(54,Ji)]) (H.set id (qe d2)++rP (N+n0)) Q:=by
 have cr:=Kq H (qe d2) (N+n0) id aE;unfold P';obtain ⟨fR,rJ⟩:∃ c,T'=c:=⟨_,rfl⟩;obtain ⟨V7,Jn⟩:∃ c,P_=c:=⟨_,rfl⟩;rw [rJ,Jn];cases wb with
 | false =>
   (have aQ:fin=false:=by rw [H7];rfl);(have aG:d3=d2:=by rw [dF];rfl);subst aQ aG;(conv=>whnf);subst Jn;exact PO bF Hb aE a0 aN ag rL hA s2 jM nt jz B9 Q _ _ _ _ _ _ _ _ _ _ _ _ I6 It
 | true =>
 cases wp with
 | false =>
   (have aQ:fin=false:=by rw [H7];rfl);(have aG:d3=d2:=by rw [dF];rfl);subst aQ aG;(conv=>whnf);subst Jn;exact PO bF Hb aE a0 aN ag rL hA s2 jM nt jz B9 Q _ _ _ _ _ _ _ _ _ _ _ _ I6 It
 | true =>
 conv=>whnf
 by_cases hi:hint=.increasing
 ·rw [decide_eq_true ((W0 hint).2 hi)];conv=>whnf
  subst rJ;unfold T';conv=>whnf
  have aG:d3=(Sort.partialInsertionSort Sort.ltInt d2 a b).1:=by rw [dF,hi];rfl
  have s3:d3.size=d.size:=by rw [aG,XL];exact s2
  rw [←s2];refine ⟨_,_,qS (agN bF d2 a b (by omega) (by omega) (by omega) cr),?_⟩;rw [JZ _ _ _ _ _ aE,←aG];conv=>whnf
  have aQ:fin=(Sort.partialInsertionSort Sort.ltInt d2 a b).2:=by rw [H7,hi];rfl
  rw [←aQ];cases fin with
  | true =>
    (conv=>whnf);rw [if_pos rfl] at jz;rw [if_pos rfl] at B9;rw [jz,B9];exact I6 _
  | false =>
    (conv=>whnf);subst Jn;rw [s2];exact PO bF Hb aE a0 aN ag rL hA s3 jM nt jz B9 Q _ _ _ _ _ _ _ _ _ _ _ _ I6 It
 ·rw [decide_eq_false fun h=>hi ((W0 hint).1 h)];have aQ:fin=false:=by rw [H7,decide_eq_false hi];rfl
  have aG:d3=d2:=by rw [dF,decide_eq_false hi];rfl
  subst aQ aG;conv=>whnf
  subst Jn;exact PO bF Hb aE a0 aN ag rL hA s2 jM nt jz B9 Q _ _ _ _ _ _ _ _ _ _ _ _ I6 It
theorem XS {n:Nat} {H:List au} {id lo:Nat} {d d1 d2 d3 R:Array Int} {a b dK n0 N M pZ:Nat} {wb wp fin:Bool} {F6:Nat×Sort.Hint} {hint:Sort.Hint} (bF:lo≤id)
  (Hb:∀ m,m<n→∀ (H:List au) (id lo:Nat) (d:Array Int) (a b qx:Nat),b-a≤m→lo≤id→d.size<256→a≤b→b≤d.size→qx≤100→H[id]?=some (qe d) →
   Sem Go.Proofs.Tryz.prog (.fn 96) [qk id d.size,hS a,hS b,hS qx] H lo (.tuple []) (H.set id (qe (Sort.pdq Sort.ltInt d a b qx true true))++rP (qQ d a b qx true true)))
  (aE:id<H.length) (a0:d.size<256) (aN:b-a≤n) (ag:b≤d.size) (rL:12<b-a) (hA:dK≤100) (CO:0<n0) (s1:d1.size=d.size)
  (IJ:F6=Sort.choosePivot Sort.ltInt d1 a b) (H6:d2=if F6.2=.decreasing then Sort.reverseRange d1 a b else d1)
  (Io:pZ=if F6.2=.decreasing then (b-1)-(F6.1-a) else F6.1) (IK:hint=if F6.2=.decreasing then Sort.Hint.increasing else F6.2) (H7:fin=(wb && wp && decide (hint=.increasing) && (Sort.partialInsertionSort Sort.ltInt d2 a b).2))
  (dF:d3=if wb && wp && decide (hint=.increasing) then (Sort.partialInsertionSort Sort.ltInt d2 a b).1 else d2)
  (jz:(if fin then d3 else
   if a > 0 && !Sort.ltInt d3[a-1]! d3[pZ]! then Sort.pdq Sort.ltInt (Sort.partitionEqual Sort.ltInt d3 a b pZ).2 (Sort.partitionEqual Sort.ltInt d3 a b pZ).1 b dK wb wp
   else if a≤(Sort.partition Sort.ltInt d3 a b pZ).1∧(Sort.partition Sort.ltInt d3 a b pZ).1<b then
    if (Sort.partition Sort.ltInt d3 a b pZ).1-a<b-(Sort.partition Sort.ltInt d3 a b pZ).1 then
     Sort.pdq Sort.ltInt (Sort.pdq Sort.ltInt (Sort.partition Sort.ltInt d3 a b pZ).2.2 a (Sort.partition Sort.ltInt d3 a b pZ).1 dK true true) ((Sort.partition Sort.ltInt d3 a b pZ).1+1) b dK (decide ((Sort.partition Sort.ltInt d3 a b pZ).1-a≥(b-a) / 8)) (Sort.partition Sort.ltInt d3 a b pZ).2.1
    else
     Sort.pdq Sort.ltInt (Sort.pdq Sort.ltInt (Sort.partition Sort.ltInt d3 a b pZ).2.2 ((Sort.partition Sort.ltInt d3 a b pZ).1+1) b dK true true) a (Sort.partition Sort.ltInt d3 a b pZ).1 dK (decide (b-(Sort.partition Sort.ltInt d3 a b pZ).1≥(b-a) / 8)) (Sort.partition Sort.ltInt d3 a b pZ).2.1
   else (Sort.partition Sort.ltInt d3 a b pZ).2.2)=R)
  (B9:N+(if fin then n0 else
   if a > 0 && !Sort.ltInt d3[a-1]! d3[pZ]! then n0+qQ (Sort.partitionEqual Sort.ltInt d3 a b pZ).2 (Sort.partitionEqual Sort.ltInt d3 a b pZ).1 b dK wb wp
   else if a≤(Sort.partition Sort.ltInt d3 a b pZ).1∧(Sort.partition Sort.ltInt d3 a b pZ).1<b then
    if (Sort.partition Sort.ltInt d3 a b pZ).1-a<b-(Sort.partition Sort.ltInt d3 a b pZ).1 then
     n0+qQ (Sort.partition Sort.ltInt d3 a b pZ).2.2 a (Sort.partition Sort.ltInt d3 a b pZ).1 dK true true+qQ (Sort.pdq Sort.ltInt (Sort.partition Sort.ltInt d3 a b pZ).2.2 a (Sort.partition Sort.ltInt d3 a b pZ).1 dK true true) ((Sort.partition Sort.ltInt d3 a b pZ).1+1) b dK (decide ((Sort.partition Sort.ltInt d3 a b pZ).1-a≥(b-a) / 8)) (Sort.partition Sort.ltInt d3 a b pZ).2.1
    else
     n0+qQ (Sort.partition Sort.ltInt d3 a b pZ).2.2 ((Sort.partition Sort.ltInt d3 a b pZ).1+1) b dK true true+qQ (Sort.pdq Sort.ltInt (Sort.partition Sort.ltInt d3 a b pZ).2.2 ((Sort.partition Sort.ltInt d3 a b pZ).1+1) b dK true true) a (Sort.partition Sort.ltInt d3 a b pZ).1 dK (decide (b-(Sort.partition Sort.ltInt d3 a b pZ).1≥(b-a) / 8)) (Sort.partition Sort.ltInt d3 a b pZ).2.1
   else 0)=M)
  (Q:cD→List I→List au→Prop) (jg lf lg FW:I)
  (I6:∀ a8,Q .ret a8 (H.set id (qe R)++rP M))
  (It:∀ e a8 aH cK HF HG d5 H3,(e=.normal∨e=.exit 1)→cK-aH<b-a→aH≤cK→cK≤d.size→d5.size=d.size→Sort.pdq Sort.ltInt d5 aH cK dK HF HG=R→H3+qQ d5 aH cK dK HF HG=M →
   eS PE a8=GH 134 [(0,qk id d.size),(1,hS (aH:Nat)),(2,hS (cK:Nat)),(3,hS (dK:Nat)),(8,B HF),(9,B HG)]→Q e a8 (H.set id (qe d5)++rP H3)) :
  dC Go.Proofs.Tryz.prog MA 96 lo none Qa (GH 134 [(0,qk id d.size),(1,hS a),(2,hS b),(3,hS dK),(8,B wb),(9,B wp),(10,hS (b-a:Nat)),(23,jg),(29,lf),(35,lg),(39,FW)]) (H.set id (qe d1)++rP (N+n0-1)) Q:=by
 have eB:=Sort.choosePivot_holds Sort.ltInt d1 a b (by omega);rw [←IJ] at eB;have bY:=Kq H (qe d1) (N+n0-1) id aE;unfold Qa;obtain ⟨dX,B2⟩:∃ c,T_=c:=⟨_,rfl⟩;obtain ⟨adq,MD⟩:∃ c,P'=c:=⟨_,rfl⟩;rw [B2,MD];conv=>whnf
 rw [←s1];refine ⟨_,_,qS (agY d1 a b bF (by omega) (by omega) (by omega) (by simp;omega) bY),?_⟩;rw [←IJ,Wf];conv=>whnf
 by_cases I3:F6.2=.decreasing
 ·rw [decide_eq_true ((W1 F6.2).2 I3)];conv=>whnf
  rw [if_pos I3] at H6;rw [if_pos I3] at Io;rw [if_pos I3] at IK;have s2:d2.size=d.size:=by rw [H6,Yz _ _ _ (by omega) (by omega)];exact s1
  subst B2;unfold T_;obtain ⟨b9,hq⟩:∃ c,T9=c:=⟨_,rfl⟩;rw [hq];conv=>whnf
  refine ⟨_,_,qS (ahR bF d1 a b (by omega) (by omega) (by omega) (Kq H (qe d1) _ id aE)),?_⟩;rw [JZ _ _ _ _ _ aE,←H6];conv=>whnf
  subst hq;unfold T9;conv=>whnf
  rw [show IntKind.i64.wrap (IntKind.i64.wrap ((b:Int)-1)-IntKind.i64.wrap ((F6.1:Int)-(a:Int)))=(pZ:Int) by rw [qm ((b:Int)-1) (by omega) (by omega),qm ((F6.1:Int)-(a:Int)) (by omega) (by omega),qm _ (by omega) (by omega),Io];omega];subst MD;rw [s1,show N+n0-1+1=N+n0 by omega];rw [show (I.int .i64 1)=hS (LC hint) by rw [IK];rfl];exact XT bF Hb aE a0 aN ag rL hA s2 (by omega) (by omega) H7 dF jz B9 Q _ _ _ _ _ _ I6 It
 ·rw [decide_eq_false fun h=>I3 ((W1 F6.2).1 h)];conv=>whnf
  rw [if_neg I3] at H6;rw [if_neg I3] at Io;rw [if_neg I3] at IK;subst H6 Io IK;subst MD;rw [s1,show N+n0-1+1=N+n0 by omega];exact XT bF Hb aE a0 aN ag rL hA s1 eB.1 eB.2 H7 dF jz B9 Q _ _ _ _ _ _ I6 It
theorem agW:∀ (n:Nat) (H:List au) (id lo:Nat) (d:Array Int) (a b qx:Nat),b-a≤n→lo≤id→d.size<256→a≤b→b≤d.size→qx≤100→H[id]?=some (qe d) →
  Sem Go.Proofs.Tryz.prog (.fn 96) [qk id d.size,hS a,hS b,hS qx] H lo (.tuple []) (H.set id (qe (Sort.pdq Sort.ltInt d a b qx true true))++rP (qQ d a b qx true true)):=by
 intro n
 induction n using Nat.strongRecOn with
 | _ n Hb =>
 intro H id lo d a b qx aN bF a0 cg ag aeX ah;have aE:=(rV.1 ah).1;refine rH dI Ss rfl ⟨by simp,fun j ad af=>by rw [se (by simp;omega),sa (by omega)]⟩ fun Q bn=>?_;unfold P8;obtain ⟨O7,Ip⟩:∃ c,LQ=c:=⟨_,rfl⟩;rw [Ip];conv=>whnf
 have p1:B true=.bool true:=rfl;generalize jz:Sort.pdq Sort.ltInt d a b qx true true=R at bn;generalize B9:qQ d a b qx true true=M at bn;refine .intro (fun m T H'=>∃ aM ar l' wb wp gT N,m=ar-aM∧m≤n∧aM≤ar∧ar≤d.size∧l'≤100∧gT.size=d.size∧Sort.pdq Sort.ltInt gT aM ar l' wb wp=R∧N+qQ gT aM ar l' wb wp=M∧T=GH 134 [(0,qk id d.size),(1,hS aM),(2,hS ar),(3,hS l'),(8,B wb),(9,B wp)]∧H'=H.set id (qe gT)++rP N) (b-a) ⟨a,b,qx,true,true,d,0,rfl,aN,cg,ag,aeX,rfl,jz,by rw [Nat.zero_add];exact B9,rfl,?_⟩ ?_
 ·obtain ⟨ad,af⟩:=rV.1 ah;rw [←af,tC];simp
 clear jz B9;rintro m T H' ⟨aM,ar,l',wb,wp,gT,N,hm,Jp,Pk,br,dA,Cn,jz,B9,rfl,rfl⟩;subst Ip;unfold LQ;obtain ⟨ba,cd⟩:∃ c,LP=c:=⟨_,rfl⟩;obtain ⟨O6,JH⟩:∃ c,Oc=c:=⟨_,rfl⟩;rw [cd,JH];conv=>whnf
 rw [show IntKind.i64.wrap ((ar:Int)-(aM:Int))=((ar-aM:Nat):Int) by rw [qm _ (by omega) (by omega)];omega];have cf:=Kq H (qe gT) N id aE;by_cases rL:((ar-aM:Nat):Int)≤12
 ·rw [decide_eq_true rL];conv=>whnf
  subst cd;unfold LP;conv=>whnf
  rw [←Cn];refine ⟨_,_,qS (Xa bF gT aM ar (by omega) Pk (by omega) cf),?_⟩;conv=>whnf
  rw [JZ _ _ _ _ _ aE];rw [Sort.pdq,if_pos (by omega)] at jz;rw [qQ,if_pos (by omega)] at B9;refine bn _ _ _ ⟨.inr rfl,?_,rfl⟩;rw [←jz,←B9];exact ⟨rfl,fun j o aw=>.inr aw⟩
 rw [decide_eq_false rL];conv=>whnf
 subst JH;unfold Oc;obtain ⟨bm,b_⟩:∃ c,T7=c:=⟨_,rfl⟩;obtain ⟨bt,dZ⟩:∃ c,T8=c:=⟨_,rfl⟩;obtain ⟨alD,RI⟩:∃ c,Qa=c:=⟨_,rfl⟩;rw [b_,dZ,RI];conv=>whnf
 by_cases aT:((l':Nat):Int)=0
 ·rw [decide_eq_true aT];conv=>whnf
  subst b_;unfold T7;conv=>whnf
  rw [←Cn];refine ⟨_,_,qS (aeM bF gT aM ar (by omega) Pk (by omega) cf),?_⟩;conv=>whnf
  rw [JZ _ _ _ _ _ aE];rw [Sort.pdq,if_neg (by omega),if_pos (by omega)] at jz;rw [qQ,if_neg (by omega),if_pos (by omega)] at B9;refine bn _ _ _ ⟨.inr rfl,?_,rfl⟩;rw [←jz,←B9];exact ⟨rfl,fun j o aw=>.inr aw⟩
 rw [decide_eq_false aT];conv=>whnf
 obtain ⟨d1,e1⟩:∃ x,x=if !wb then Sort.breakPatterns gT aM ar else gT:=⟨_,rfl⟩;obtain ⟨dK,cm⟩:∃ x,x=if !wb then l'-1 else l':=⟨_,rfl⟩;obtain ⟨cc,J0⟩:∃ x,x=if !wb then 2 else 1:=⟨_,rfl⟩;obtain ⟨F6,IJ⟩:∃ x,x=Sort.choosePivot Sort.ltInt d1 aM ar:=⟨_,rfl⟩;obtain ⟨d2,H6⟩:∃ x,x=if F6.2=.decreasing then Sort.reverseRange d1 aM ar else d1:=⟨_,rfl⟩;obtain ⟨pZ,Io⟩:∃ x,x=if F6.2=.decreasing then (ar-1)-(F6.1-aM) else F6.1:=⟨_,rfl⟩;obtain ⟨hint,IK⟩:∃ x,x=if F6.2=.decreasing then Sort.Hint.increasing else F6.2:=⟨_,rfl⟩;obtain ⟨fin,H7⟩:∃ x,x=(wb && wp && decide (hint=.increasing) && (Sort.partialInsertionSort Sort.ltInt d2 aM ar).2):=⟨_,rfl⟩;obtain ⟨d3,dF⟩:∃ x,x=if wb && wp && decide (hint=.increasing) then (Sort.partialInsertionSort Sort.ltInt d2 aM ar).1 else d2:=⟨_,rfl⟩;obtain ⟨q1,aX⟩:=XQ (wb:=wb) (wp:=wp) (show ¬ ar-aM≤12 by omega) (show ¬ l'=0 by omega) e1 cm J0 IJ H6 Io IK H7 dF;rw [q1] at jz;rw [aX] at B9;clear q1 aX;have s1:d1.size=d.size:=by
  rw [e1];split
  ·rw [V2 _ _ _ Pk (by omega)];exact Cn
  ·exact Cn
 have hA:dK≤100:=by rw [cm];split <;> omega
 have eB:=Sort.choosePivot_holds Sort.ltInt d1 aM ar (by omega);rw [←IJ] at eB;have Wv:∀ a8,Q .ret a8 (H.set id (qe R)++rP M):=fun a8=>bn _ _ _ ⟨.inr rfl,⟨rfl,fun j o aw=>.inr aw⟩,rfl⟩;cases wb with
 | true =>
   (have Kt:d1=gT:=by rw [e1];rfl);(have ak:dK=l':=by rw [cm];rfl);(have R9:cc=1:=by rw [J0];rfl);rw [←ak,←Kt];(conv=>whnf);subst RI;refine XS (N:=N) (n0:=1) bF Hb aE a0 (by omega) br (by omega) hA (by omega) s1 IJ H6 Io IK H7 dF jz (by rw [R9] at B9;exact B9) _ _ _ _ _ Wv fun e a8 aH cK HF HG d5 H3 he aJ aP cl jP Di Ic bo=>?_;rcases he with rfl | rfl
   all_goals (
    (conv=>whnf);rw [y_];refine ⟨cK-aH,by omega,aH,cK,dK,HF,HG,d5,H3,rfl,by omega,aP,cl,hA,jP,Di,Ic,bo,rfl⟩
   )
 | false =>
   (have Kt:d1=Sort.breakPatterns gT aM ar:=by rw [e1];rfl);(have ak:dK=l'-1:=by rw [cm];rfl);(have R9:cc=2:=by rw [J0];rfl);(conv=>whnf);subst dZ;unfold T8;(conv=>whnf);rw [←Cn];refine ⟨_,_,qS (adp id bF gT aM ar (by omega) Pk (by omega) (by omega) cf),?_⟩;rw [if_pos (by omega),JZ _ _ _ _ _ aE,Wf,←Kt];(conv=>whnf);rw [show IntKind.i64.wrap ((l':Int)-1)=(dK:Int) by rw [qm _ (by omega) (by omega),ak];omega,Cn];subst RI;refine XS (N:=N) (n0:=2) bF Hb aE a0 (by omega) br (by omega) hA (by omega) s1 IJ H6 Io IK H7 dF jz (by rw [R9] at B9;exact B9) _ _ _ _ _ Wv fun e a8 aH cK HF HG d5 H3 he aJ aP cl jP Di Ic bo=>?_;rcases he with rfl | rfl
   all_goals (
    (conv=>whnf);rw [y_];refine ⟨cK-aH,by omega,aH,cK,dK,HF,HG,d5,H3,rfl,by omega,aP,cl,hA,jP,Di,Ic,bo,rfl⟩
   )
end Go.Proofs.YtfakoboiahbhaaaGreat.Ab.Pq


namespace Go.Proofs.YtfakoboiahbhaaaGreat.Ab.Pq
open Go
set_option maxRecDepth 20000
set_option maxHeartbeats 4000000
section
variable {H:List au} {id lo:Nat}
theorem aiw (bF:lo≤id) (d:Array Int) (a0:d.size<256) (ah:H[id]?=some (qe d)) :
  Sem Go.Proofs.Tryz.prog (.fn 73) [qk id d.size] H lo (.tuple []) (H.set id (qe (Sort.sort Sort.ltInt d))++rP (qQ d 0 d.size (Sort.bitsLen d.size) true true)):=by
 have aE:=(rV.1 ah).1;refine rH dI Sr rfl ⟨by simp,fun j ad af=>by rw [se (by simp;omega),sa (by omega)]⟩ fun Q bn=>?_;unfold P4;conv=>whnf
 rw [show IntKind.u64.wrap (d.size:Int)=(d.size:Int) by rw [JR];omega];refine ⟨by first | rfl | simp only [sG,sM,GY,G6,GZ,G1,G0,G2,G8,G7,rQ,G3,G4,G5,sN,sL],_,Lp d.size a0,?_⟩
 conv=>whnf
 have:=V1 d.size a0;refine ⟨_,_,qS (agW _ H id lo d 0 d.size (Sort.bitsLen d.size) (rX _) bF a0 (si _) (rX _) (by omega) ah),?_⟩;conv=>whnf
 exact bn _ _ _ ⟨.inl rfl,⟨rfl,fun j o aw=>.inr aw⟩,rfl⟩
end
end Go.Proofs.YtfakoboiahbhaaaGreat.Ab.Pq


namespace Go.Proofs.YtfakoboiahbhaaaGreat.Ab
open Go
theorem aip (l:List Int):(Sort.sort Sort.ltInt l.toArray).toList=rK l:=by
 have h:=Sort.insertionSort_holds (lt:=Sort.ltInt) Sort.swo_ltInt l.toArray 0 l.toArray.size (si _) (rX _);have u:=Sort.sorted_unique_holds Sort.swo_ltInt (fun x y ad af=>by simp only [Sort.ltInt,decide_eq_false_iff_not] at ad af;omega) l.toArray _ h.1 h.2;have k:=Sort.sort_sorts Sort.ltInt Sort.swo_ltInt l.toArray;have v:=Sort.sorted_unique_holds Sort.swo_ltInt (fun x y ad af=>by simp only [Sort.ltInt,decide_eq_false_iff_not] at ad af;omega) l.toArray _ k.1 k.2;rw [v,←u];rfl
theorem aiq:U7 255:=fun l h H id lo bF ah=>⟨_,by
 have:=Pq.aiw (H:=H) (id:=id) (lo:=lo) bF l.toArray (by simp;omega) (by simpa [qe] using ah);have e:qe (Sort.sort Sort.ltInt l.toArray)=.cells ((rK l).map hS):=by unfold qe;rw [aip]
 rw [e] at this
 simpa [qk] using this⟩
def UB (b:p3) (rows:List Row):Option (Int×Int):=p2 (b.2.length≤1000∧rows.length≤1000∧(∀ r∈rows,r.length≤1000)∧((∀ r∈rows,(GR b r).2.2=0)→rows.flatten.length≤255)) (some (IH b rows))
theorem akd {b:p3} {rows:List Row} {v:Int×Int} (h:UB b rows=some v):qt 25 [(.agg [(hS b.1),(.ay (b.2.flatMap p7) b.2.length .shared)]),(.ay (rows.map (GU p7)) rows.length .shared)] (.tuple [(hS v.1),(hS v.2)]):=by
 obtain ⟨⟨ad,af,aG,a7⟩,h⟩:=qw h;obtain rfl:=Option.some.inj h;exact adL aiq (by decide) ad af aG a7
theorem akc {b:p3} {rows:List Row} (ad:b.2.length≤1000) (af:rows.length≤1000) (aG:∀ r∈rows,r.length≤1000) (a7:(∀ r∈rows,(GR b r).2.2=0)→rows.flatten.length≤255):UB b rows=some (IH b rows):=qb ⟨ad,af,aG,a7⟩
end Go.Proofs.YtfakoboiahbhaaaGreat.Ab


namespace Go.Proofs.YtfakoboiahbhaaaGreat.Ab
open Go
set_option maxRecDepth 20000
set_option maxHeartbeats 4000000
noncomputable def abk:ez :=
 GC [gO 2 [.hJ 0] .box,gO 4 [.iD (.bool false)] .iT] (.seq (GC [gO 21 [.sl 2] (.w8 (.str 2)),gO 22 [.iD (.func 16 [] []),.sl 21] (.call 3),Gq 23 22,cR 24 [.sl 1] 23 false .iT,⟨some 25,[.iD (.func 24 [] []),.sl 24],some (23,false),none,.call 3⟩,gO 26 [.hM 23,.iD (.bool true),.hM 25] .pick] (.cond (.sl 26) (GC [gO 27 [.iD (.func 17 [] [])] (.call 3),Gq 4 27] .ret) .skip)) (GC [gO 29 [.sl 2] (.w8 (.str 2)),Gp 30 1,gO 31 [.iD (.func 25 [] []),.sl 29,.sl 30] (.call 3),Gq 28 31,GK 32 28 0,gO 33 [.hM 28] (.ext 1),Gq 5 32,Gq 6 33] (GC [gO 35 [.sl 2] (.w8 (.str 2)),Gq 36 1,gO 37 [.iD (.func 26 [] []),.sl 35,.sl 36] (.call 3),Gq 34 37,GK 38 34 0,gO 39 [.hM 34] (.ext 1),Gq 7 38,Gq 8 39] (GC [gO 41 [.sl 2] (.w8 (.str 2)),gO 42 [.iD (.func 27 [] []),.sl 41] (.call 3),Gq 40 42,GK 43 40 0,gO 44 [.hM 40] (.ext 1),Gq 9 43,Gq 10 44] (GC [gO 46 [.sl 2] (.w8 (.str 2)),gO 47 [.iD (.func 28 [] []),.sl 46] (.call 3),Gq 45 47,GK 48 45 0,gO 49 [.hM 45] (.ext 1),Gq 11 48,Gq 12 49] (GC [gO 51 [.sl 2] (.w8 (.str 2)),gO 52 [.iD (.func 29 [] []),.sl 51] (.call 3),Gq 50 52,GK 53 50 0,gO 54 [.hM 50] (.ext 1),Gq 13 53,Gq 14 54] (GC [gO 56 [.sl 2] (.w8 (.str 2)),gO 57 [.iD (.func 30 [] []),.sl 56] (.call 3),Gq 55 57,GK 58 55 0,gO 59 [.hM 55] (.ext 1),Gq 15 58,Gq 16 59] (GC [gO 61 [.sl 2] (.w8 (.str 2)),gO 62 [.iD (.func 31 [] []),.sl 61] (.call 3),Gq 60 62,GK 63 60 0,gO 64 [.hM 60] (.ext 1),Gq 17 63,Gq 18 64] (GC [gO 66 [.hM 2] (.w8 (.str 2)),gO 67 [.iD (.func 32 [] []),.sl 66] (.call 3),Gq 65 67,GK 68 65 0,gO 69 [.hM 65] (.ext 1),Gq 19 68,Gq 20 69] (GC [Gq 70 5,Gq 71 7,F2 72 70 71 .eql,Gq 73 72,cR 74 [.hJ 6] 73 true .iT,cR 75 [.hJ 8] 73 true .iT,cR 76 [.hM 74,.hM 75] 73 true (.bin .eql),gO 77 [.hM 73,.hM 76,.iD (.bool false)] .pick,Gq 78 77,cR 79 [.hJ 9] 78 true .iT,cR 80 [.hJ 11] 78 true .iT,⟨some 81,[.iD (.func 33 [] []),.sl 79,.sl 80],some (78,true),none,.call 3⟩,gO 82 [.hM 78,.hM 81,.iD (.bool false)] .pick,Gq 83 82,cR 84 [.hJ 10] 83 true .iT,cR 85 [.hJ 12] 83 true .iT,cR 86 [.hM 84,.hM 85] 83 true (.bin .eql),gO 87 [.hM 83,.hM 86,.iD (.bool false)] .pick,Gq 88 87,cR 89 [.hJ 13] 88 true .iT,cR 90 [.hJ 15] 88 true .iT,⟨some 91,[.iD (.func 34 [] []),.sl 89,.sl 90],some (88,true),none,.call 3⟩,gO 92 [.hM 88,.hM 91,.iD (.bool false)] .pick,Gq 93 92,cR 94 [.hJ 14] 93 true .iT,cR 95 [.hJ 16] 93 true .iT,cR 96 [.hM 94,.hM 95] 93 true (.bin .eql),gO 97 [.hM 93,.hM 96,.iD (.bool false)] .pick,Gq 98 97,cR 99 [.hJ 17] 98 true .iT,cR 100 [.hJ 19] 98 true .iT,⟨some 101,[.iD (.func 33 [] []),.sl 99,.sl 100],some (98,true),none,.call 3⟩,gO 102 [.hM 98,.hM 101,.iD (.bool false)] .pick,Gq 103 102,cR 104 [.hJ 18] 103 true .iT,cR 105 [.hJ 20] 103 true .iT,cR 106 [.hM 104,.hM 105] 103 true (.bin .eql),gO 107 [.hM 103,.hM 106,.iD (.bool false)] .pick,Gq 108 107,⟨some 109,[.iD (.func 17 [] [])],some (108,true),none,.call 3⟩,gO 110 [.hM 108,.hM 109,.iD (.bool false)] .pick,Gq 4 110] .ret))))))))))
theorem afY:zg Tryz.prog VE 4=some (abk,111,[.tmp 4]):=by kernel_rfl
def H2 (b:p8) (l:ri):Option Bool :=
 (LW b).bind fun aS =>
 if aS=true then
  (IU).bind fun bk =>
  some bk
 else
  (MZ l).bind fun eE =>
  if eE=true then
   (IU).bind fun qp =>
   some qp
  else
   (UB b l).bind fun rj =>
   (M0 b l).bind fun G9 =>
   (Ow b).bind fun HE =>
   (Ox b).bind fun JP =>
   (Oy b).bind fun HS =>
   (Oz b).bind fun HX =>
   (OA b).bind fun LO =>
   (OB b).bind fun N2 =>
   if (decide (rj.1=G9.1))=true then
    if (decide (rj.2=G9.2))=true then
     (L7 HE.1 JP.1).bind fun N3 =>
     if N3=true then
      if (decide (HE.2=JP.2))=true then
       (OC HS.1 HX.1).bind fun N4 =>
       if N4=true then
        if (decide (HS.2=HX.2))=true then
         (L7 LO.1 N2.1).bind fun N5 =>
         if N5=true then
          if (decide (LO.2=N2.2))=true then
           (IU).bind fun N6 =>
           some N6
          else
           some false
         else
          some false
        else
         some false
       else
        some false
      else
       some false
     else
      some false
    else
     some false
   else
    some false
theorem akK {b:p8} {l:ri} {v:Bool} (h:H2 b l=some v):qt 4 [(.agg [(hS b.1),(.ay (b.2.flatMap p7) b.2.length .shared)]),(.ay (l.map (GU p7)) l.length .shared)] (B v):=by
 refine qN dI afY rfl rfl fun Q bn=>?_;have jz:qD [.tmp 4] Q (fun v=>(B v)) v:=fun T H bK=>bn _ T H bK;unfold H2 at h;unfold abk;conv=>whnf
 obtain ⟨aS,eV,h⟩:=qi h;refine ⟨qh.pl,_,ajY eV,?_⟩;conv=>whnf
 cases aS
 ·conv=>whnf
  replace h:=Hu rfl h;obtain ⟨eE,qo,h⟩:=qi h;refine ⟨qh.pl,_,akb qo,?_⟩;conv=>whnf
  cases eE
  ·(conv=>whnf);replace h:=Hu rfl h;obtain ⟨rj,qG,h⟩:=qi h;refine ⟨qh.pl,_,akd qG,?_⟩;(conv=>whnf);obtain ⟨G9,qZ,h⟩:=qi h;refine ⟨qh.pl,_,akh qZ,?_⟩;(conv=>whnf);obtain ⟨HE,qT,h⟩:=qi h;refine ⟨qh.pl,_,akj qT,?_⟩;(conv=>whnf);obtain ⟨JP,qO,h⟩:=qi h;refine ⟨qh.pl,_,akl qO,?_⟩;(conv=>whnf);obtain ⟨HS,q5,h⟩:=qi h;refine ⟨qh.pl,_,akn q5,?_⟩;(conv=>whnf);obtain ⟨HX,q2,h⟩:=qi h;refine ⟨qh.pl,_,akp q2,?_⟩;(conv=>whnf);obtain ⟨LO,rM,h⟩:=qi h;refine ⟨qh.pl,_,akt rM,?_⟩;(conv=>whnf);obtain ⟨N2,ry,h⟩:=qi h;refine ⟨qh.pl,_,akw ry,?_⟩;(conv=>whnf);refine bs h (fun rB h=>?_) fun rB h=>?_
   ·rw [rB];(conv=>whnf);refine bs h (fun Hk h=>?_) fun Hk h=>?_
    ·rw [Hk];(conv=>whnf);obtain ⟨N3,JJ,h⟩:=qi h;refine ⟨qh.pl,_,UC JJ,?_⟩;(conv=>whnf);cases N3
     ·(conv=>whnf);replace h:=Hu rfl h;exact qd h jz rfl rfl
     ·(conv=>whnf);replace h:=Hv rfl h;refine bs h (fun HI h=>?_) fun HI h=>?_
      ·rw [HI];(conv=>whnf);obtain ⟨N4,I2,h⟩:=qi h;refine ⟨qh.pl,_,akz I2,?_⟩;(conv=>whnf);cases N4
       ·(conv=>whnf);replace h:=Hu rfl h;exact qd h jz rfl rfl
       ·(conv=>whnf);replace h:=Hv rfl h;refine bs h (fun rS h=>?_) fun rS h=>?_
        ·rw [rS];(conv=>whnf);obtain ⟨N5,HB,h⟩:=qi h;refine ⟨qh.pl,_,UC HB,?_⟩;(conv=>whnf);cases N5
         ·(conv=>whnf);replace h:=Hu rfl h;exact qd h jz rfl rfl
         ·(conv=>whnf);replace h:=Hv rfl h;refine bs h (fun Ia h=>?_) fun Ia h=>?_
          ·rw [Ia];(conv=>whnf);obtain ⟨N6,Ly,h⟩:=qi h;refine ⟨rfl,_,Uy Ly,?_⟩;(conv=>whnf);exact qd h jz rfl rfl
          ·rw [Ia];(conv=>whnf);exact qd h jz rfl rfl
        ·rw [rS];(conv=>whnf);exact qd h jz rfl rfl
      ·rw [HI];(conv=>whnf);exact qd h jz rfl rfl
    ·rw [Hk];(conv=>whnf);exact qd h jz rfl rfl
   ·rw [rB];(conv=>whnf);exact qd h jz rfl rfl
  ·(conv=>whnf);replace h:=Hv rfl h;obtain ⟨qp,qC,h⟩:=qi h;refine ⟨rfl,_,Uy qC,?_⟩;(conv=>whnf);exact qd h jz rfl rfl
 ·conv=>whnf
  replace h:=Hv rfl h;obtain ⟨bk,fl,h⟩:=qi h;refine ⟨rfl,_,Uy fl,?_⟩;conv=>whnf
  exact qd h jz rfl rfl
end Go.Proofs.YtfakoboiahbhaaaGreat.Ab


namespace Go.Proofs.YtfakoboiahbhaaaGreat.Ab
open Go
theorem ah1 {b:p3} {r:Row} (h:(GR b r).2.2=0):r.length≤10:=by
 obtain ⟨p1,_,ad,af,_⟩:=Wa h;have:=LM af (n:=b.2.length) fun x al=>by
  obtain ⟨p,aC,rfl⟩:=List.mem_map.1 al;have:=Oi.1 (ad p aC);exact ⟨this.1,this.2.1⟩
 have dz:=p1.len;rw [List.length_map] at this;omega
theorem aei {R:List Row} (h:∀ r∈R,r.length≤10):R.flatten.length≤10*R.length:=by
 induction R with
 | nil=>simp
 | cons r R a' =>
   have ad:=h r (by simp);have af:=a' fun q a4=>h q (by simp [a4]);rw [List.flatten_cons,List.length_append,List.length_cons];omega
theorem akJ (b:p3) {l:List Row} (ak:l.length≤9223372036854775807):H2 b l=some true:=by
 rw [H2,LW,rW];by_cases aO:(14:Int)<(b.2.length:Int)
 ·rw [if_pos (decide_eq_true aO)];simp only [Uz,rW]
 have ag:b.2.length≤1000:=by omega
 rw [if_neg (by simpa using aO)];obtain ⟨r,ad,af⟩:=aj_ ak;rw [ad,rW];cases r with
 | true=>rw [if_pos rfl];simp only [Uz,rW]
 | false =>
   have alJ:¬ 14<l.length:=fun h=>absurd (af.2 (.inl h)) (by simp);have a4:∀ q∈l,q.length≤14:=fun q a4=>Nat.not_lt.1 fun h=>absurd (af.2 (.inr ⟨q,a4,h⟩)) (by simp)
   rw [if_neg (by simp),akc ag (by omega) (fun q h=>by have:=a4 q h;omega) (fun h=>by have:=aei (R:=l) fun q a4=>ah1 (h q a4);omega),rW,ake ag (by omega) (fun q h=>by have:=a4 q h;omega),rW,
    aki ag,rW,akk ag,rW,akm ag,rW,ako ag,rW,akq ag,rW,aku ag,rW]
   have bC:=agy (b:=b);have bS:=agO (b:=b);have kR:=afk ag;rw [if_pos (decide_eq_true rfl),if_pos (decide_eq_true rfl),UD (by omega),rW,if_pos rfl,if_pos (decide_eq_true rfl),akA (by omega) (fun r aj=>by have:=bS.2 r aj;omega),rW,if_pos rfl,if_pos (decide_eq_true rfl),UD kR,rW,if_pos rfl,if_pos (decide_eq_true rfl)];simp only [Uz,rW]
theorem agq {b:p3} {l:List Row} (ak:U0 l):qt 4 [.agg [hS b.1,.ay (b.2.flatMap p7) b.2.length .shared],.ay (l.map (GU p7)) l.length .shared] (B true):=akK (akJ b ak.n)
end Go.Proofs.YtfakoboiahbhaaaGreat.Ab
