
import Derived.Test.YtfakoboiahbhaaaGreatJp8
import Derived.Test.YtfakoboiahbhaaaGreatJp5
import Derived.Test.YtfakoboiahbhaaaGreatJp4
import Derived.KernelRfl
import Derived.Test.YtfakoboiahbhaaaGreatProg
set_option linter.unusedSimpArgs false
set_option linter.unusedVariables false
set_option linter.unusedSectionVars false

open Bool renaming false_eq_true→tA
open Int renaming natCast_nonneg→vW,ofNat_lt→vX,toNat_natCast→ti
open List renaming all_eq_true→ss,any_eq_true→uT,append_assoc→sy,append_nil→sV,cons_append→vk,exists_mem_of_ne_nil→uU,filter_append→uF,filter_cons→tH,flatten_cons→tR,getElem_append_left→vU,getElem_append_right→vV,getElem_map→vM,getElem_mem→sH,getElem_of_mem→tS,length_append→sj,length_cons→sD,length_eq_zero_iff→tn,length_filter_le→tD,length_map→sZ,length_nil→uC,length_pos_iff→uG,length_set→tz,length_singleton→tF,map_append→th,map_cons→sE,map_map→tq,map_nil→uh,mem_append→sQ,mem_append_left→uR,mem_cons→sf,mem_filter→sK,mem_flatMap→uQ,mem_flatten→vl,mem_map→sq,mem_range→sx,mem_reverse→v9,mem_singleton→sI,nil_append→uc,nodup_append→uj,nodup_cons→tY,not_mem_nil→ub,pairwise_append→uM,pairwise_iff_getElem→tc,pairwise_map→uB,perm_append_comm→vY,perm_ext_iff_of_nodup→uV,reverse_perm→vm,sum_cons→vn,take_length→tX,take_of_length_le→tN
open Nat renaming le_refl→rX,le_trans→sJ,lt_succ_self→su,zero_le→si
open Option renaming bind_some→rW
namespace Go.Proofs.YtfakoboiahbhaaaGreat.Ab
open Go
def qJ (b:p3) (i f:Int):Prop:=(ix b.2 i).1=f∨(ix b.2 i).2=f
inductive q8 (b:p3) (S:List Int) (f:Int):Int→Prop
 | refl:q8 b S f f
 | step {g h:Int} (i:Int):q8 b S f g→i∈S→qJ b i g→qJ b i h→q8 b S f h
theorem q8.trans {b:p3} {S:List Int} {f g h:Int} (ad:q8 b S f g) (af:q8 b S g h):q8 b S f h:=by
 induction af with
 | refl=>exact ad
 | step i _ hi aB aH a'=>exact .step i a' hi aB aH
theorem q8.one {b:p3} {S:List Int} {f g i:Int} (hi:i∈S) (ad:qJ b i f) (af:qJ b i g):q8 b S f g:=.step i .refl hi ad af
theorem q8.symm {b:p3} {S:List Int} {f g:Int} (h:q8 b S f g):q8 b S g f:=by
 induction h with
 | refl=>exact .refl
 | step i _ hi aB aH a'=>exact (q8.one hi aH aB).trans a'
theorem q8.mono {b:p3} {S S':List Int} {f g:Int} (cp:∀ x∈S,x∈S') (h:q8 b S f g):q8 b S' f g:=by
 induction h with
 | refl=>exact .refl
 | step i _ hi aB aH a'=>exact .step i a' (cp i hi) aB aH
def Qn (b:p3) (i k:Int):Bool:=I_ (ix b.2 i) (ix b.2 k)
theorem Zr {b:p3} {i k:Int}:Qn b i k=true↔∃ f,qJ b i f∧qJ b k f:=by
 unfold Qn I_ qJ;simp only [Bool.or_eq_true,decide_eq_true_eq];constructor
 ·rintro (((h | h) | h) | h)
  ·exact ⟨_,.inl rfl,.inl h.symm⟩
  ·exact ⟨_,.inl rfl,.inr h.symm⟩
  ·exact ⟨_,.inr rfl,.inl h.symm⟩
  ·exact ⟨_,.inr rfl,.inr h.symm⟩
 ·rintro ⟨f,ad | ad,af | af⟩ <;> omega
def H_ (b:p3) (s:Int) (r:List Int):Bool:=r.any (Qn b s)
structure rh (b:p3) (S:List Int) (out:List (List Int)):Prop where
 ne:∀ r∈out,r≠[]
 so:∀ r∈out,r.Pairwise (·<·)
 mem:∀ x,x∈S↔∃ r∈out,x∈r
 qA:out.Pairwise fun r q=>∀ x∈r,x ∉ q
 IY:∀ r∈out,∀ x∈r,∀ y∈r,∀ f g,qJ b x f→qJ b y g→q8 b S f g
 sep:∀ r∈out,∀ q∈out,∀ x∈r,∀ y∈q,∀ f,qJ b x f→qJ b y f→r=q
def own (b:p3) (out:List (List Int)) (s:Int):List Int:=s::(out.filter (H_ b s)).flatten
def zD (b:p3) (out:List (List Int)) (s:Int):List (List Int):=(out.filter fun r=>!H_ b s r)++[rK (own b out s)]
section
variable {b:p3} {S:List Int} {out:List (List Int)} {s:Int}
theorem rh.uniq (h:rh b S out) {r q:List Int} {x:Int} (aj:r∈out) (a4:q∈out) (ad:x∈r) (af:x∈q):r=q:=h.sep r aj q a4 x ad x af _ (.inl rfl) (.inl rfl)
theorem Xu {x:Int}:x∈own b out s↔x=s∨∃ r∈out,H_ b s r=true∧x∈r:=by
 unfold own;simp only [sf,vl,sK,and_assoc]
theorem rh.XG (h:rh b S out) (ai:s ∉ S):(own b out s).Nodup:=by
 unfold own;refine tY.2 ⟨fun hm=>?_,?_⟩
 ·obtain ⟨r,aj,al⟩:=vl.1 hm;exact ai ((h.mem s).2 ⟨r,(sK.1 aj).1,al⟩)
 ·refine List.pairwise_flatten.2 ⟨fun r aj=>(h.so r (sK.1 aj).1).imp fun Ib e=>by omega,(h.qA.filter _).imp fun LG x al y a1 e=>LG x al (by rw [e];exact a1)⟩
theorem rh.step (h:rh b S out) (ai:s ∉ S):rh b (S++[s]) (zD b out s):=by
 have jJ:=h.XG ai;have MH:∀ x,x∈rK (own b out s)↔x=s∨∃ r∈out,H_ b s r=true∧x∈r:=fun x=>by rw [(YS _).mem_iff];exact Xu
 have Jp:∀ r,r∈zD b out s↔(r∈out∧H_ b s r=false)∨r=rK (own b out s):=fun r=>by
  unfold zD;simp only [sQ,sK,sI,Bool.not_eq_true']
 have JO:∀ x∈S,x∈S++[s]:=fun x al=>by simp [al]
 have W6:∀ x∈rK (own b out s),∀ f,qJ b x f→q8 b (S++[s]) (ix b.2 s).1 f:=fun x al f aQ=>by
  rcases (MH x).1 al with rfl | ⟨r,aj,bK,Jr⟩
  ·exact .one (by simp) (.inl rfl) aQ
  ·obtain ⟨k,av,ax⟩:=uT.1 bK;obtain ⟨g,cd,b_⟩:=Zr.1 ax;exact (q8.one (i:=s) (by simp) (.inl rfl) cd).trans ((h.IY r aj k av x Jr g f b_ aQ).mono JO)
 have fX:∀ r∈out,H_ b s r=false→∀ x∈r,∀ y∈rK (own b out s),∀ f,qJ b x f→qJ b y f→False:=fun r aj bK x al y a1 f f1 f2=>by
  rcases (MH y).1 a1 with rfl | ⟨q,a4,CX,ae_⟩
  ·have:H_ b y r=true:=uT.2 ⟨x,al,Zr.2 ⟨f,f2,f1⟩⟩
   rw [this] at bK;cases bK
  ·obtain rfl:=h.sep r aj q a4 x al y ae_ f f1 f2;rw [CX] at bK;cases bK
 refine ⟨fun r aj=>?_,fun r aj=>?_,fun x=>?_,?_,fun r aj x al y a1 f g aQ aO=>?_,fun r aj q a4 x al y a1 f aQ aO=>?_⟩
 ·rcases (Jp r).1 aj with ⟨ad,_⟩ | rfl
  ·exact h.ne r ad
  ·intro e;have:=(MH s).2 (.inl rfl);rw [e] at this;cases this
 ·rcases (Jp r).1 aj with ⟨ad,_⟩ | rfl
  ·exact h.so r ad
  ·exact ain jJ
 ·constructor
  ·intro al;rcases sQ.1 al with al | al
   ·obtain ⟨r,aj,Jr⟩:=(h.mem x).1 al;cases bK:H_ b s r with
    | true=>exact ⟨_,(Jp _).2 (.inr rfl),(MH x).2 (.inr ⟨r,aj,bK,Jr⟩)⟩
    | false=>exact ⟨r,(Jp r).2 (.inl ⟨aj,bK⟩),Jr⟩
   ·exact ⟨_,(Jp _).2 (.inr rfl),(MH x).2 (.inl (by simpa using al))⟩
  ·rintro ⟨r,aj,Jr⟩;rcases (Jp r).1 aj with ⟨ad,_⟩ | rfl
   ·exact JO x ((h.mem x).2 ⟨r,ad,Jr⟩)
   ·rcases (MH x).1 Jr with rfl | ⟨q,a4,_,MK⟩
    ·simp
    ·exact JO x ((h.mem x).2 ⟨q,a4,MK⟩)
 ·unfold zD;refine uM.2 ⟨h.qA.filter _,by simp,fun r aj q a4 x al MK=>?_⟩;simp only [sI] at a4;subst a4;have aj:=sK.1 aj;exact fX r aj.1 (by simpa using aj.2) x al x MK _ (.inl rfl) (.inl rfl)
 ·rcases (Jp r).1 aj with ⟨ad,_⟩ | rfl
  ·exact (h.IY r ad x al y a1 f g aQ aO).mono JO
  ·exact (W6 x al f aQ).symm.trans (W6 y a1 g aO)
 ·rcases (Jp r).1 aj with ⟨ad,af⟩ | rfl
  ·rcases (Jp q).1 a4 with ⟨aG,_⟩ | rfl
   ·exact h.sep r ad q aG x al y a1 f aQ aO
   ·exact (fX r ad af x al y a1 f aQ aO).elim
  ·rcases (Jp q).1 a4 with ⟨aG,a7⟩ | rfl
   ·exact (fX q aG a7 y a1 x al f aO aQ).elim
   ·rfl
theorem rh.perm {HD:List (List Int)} (h:rh b S out) (aC:HD.Perm out):rh b S HD:=by
 refine ⟨fun r aj=>h.ne r (aC.mem_iff.1 aj),fun r aj=>h.so r (aC.mem_iff.1 aj),fun x=>?_,aC.symm.pairwise h.qA fun {r q} LG x al iQ=>LG x iQ al,fun r aj=>h.IY r (aC.mem_iff.1 aj),fun r aj q a4=>h.sep r (aC.mem_iff.1 aj) q (aC.mem_iff.1 a4)⟩;rw [h.mem x];exact ⟨fun ⟨r,aj,al⟩=>⟨r,aC.mem_iff.2 aj,al⟩,fun ⟨r,aj,al⟩=>⟨r,aC.mem_iff.1 aj,al⟩⟩
theorem rh.closed (h:rh b S out) {q:List Int} (a4:q∈out) {x:Int} (al:x∈q) {f g:Int} (aQ:qJ b x f) (ao:q8 b S f g):∀ z∈S,qJ b z g→z∈q:=by
 induction ao with
 | refl =>
   intro z bo Si;obtain ⟨r,aj,fJ⟩:=(h.mem z).1 bo;rw [h.sep q a4 r aj x al z fJ f aQ Si];exact fJ
 | step i _ hi aB aH a' =>
   intro z bo Si;have lX:=a' i hi aB;obtain ⟨r,aj,fJ⟩:=(h.mem z).1 bo;rw [h.sep q a4 r aj i lX z fJ _ aH Si];exact fJ
theorem rh.same {P Q:List (List Int)} (B':rh b S P) (bn:rh b S Q) (ad:P.Pairwise fun x y=>ix x 0<ix y 0) (af:Q.Pairwise fun x y=>ix x 0<ix y 0):P=Q:=by
 have key:∀ {P Q:List (List Int)},rh b S P→rh b S Q→∀ r∈P,r∈Q:=fun {P Q} B' bn r aj=>by
  obtain ⟨x,al⟩:=uU r (B'.ne r aj);have ae9:=(B'.mem x).2 ⟨r,aj,al⟩;obtain ⟨q,a4,MK⟩:=(bn.mem x).1 ae9;have e:r=q:=Ue (B'.so r aj) (bn.so q a4) fun y=>by
   constructor
   ·intro a1;exact bn.closed a4 MK (.inl rfl) (B'.IY r aj x al y a1 _ _ (.inl rfl) (.inl rfl)) y ((B'.mem y).2 ⟨r,aj,a1⟩) (.inl rfl)
   ·intro a1;exact B'.closed aj al (.inl rfl) (bn.IY q a4 x MK y a1 _ _ (.inl rfl) (.inl rfl)) y ((bn.mem y).2 ⟨q,a4,a1⟩) (.inl rfl)
  rw [e];exact a4
 exact YE ad af fun r=>⟨key B' bn r,key bn B' r⟩
end
end Go.Proofs.YtfakoboiahbhaaaGreat.Ab


namespace Go.Proofs.YtfakoboiahbhaaaGreat.Ab
open Go
def rN (b:p3) (l:List Int):Prop:=∀ x∈l,0≤x∧x<(b.2.length:Int)
section
variable {b:p3} {S:List Int} {out:List (List Int)} {s:Int}
theorem aaY {r:List Int} (ag:b.2.length≤1000) (aj:rN b r) (ai:0≤s∧s<(b.2.length:Int)) (ak:r.length≤1000):Mn r b s=some (H_ b s r):=by
 rw [Mn,UU (p:=Qn b s) (fun k av=>by
  rw [QH,Uv,qb ai,qb (aj k av)];rfl) (by omega),rW];rfl
theorem LJ {l:List Int} (aN:l.Nodup) (ak:rN b l):l.length≤b.2.length:=LM aN ak
theorem RW (ag:b.2.length≤1000) (ai:0≤s∧s<(b.2.length:Int)):∀ (out:List (List Int)) (acc:List Int),(∀ r∈out,rN b r∧r.length≤1000)→(acc++(out.filter (H_ b s)).flatten).length≤1000 →
  H8 (Pl b s) out acc=some (acc++(out.filter (H_ b s)).flatten)
 | [],acc,_,_=>by simp [H8]
 | r::out,acc,h,ak=>by
   have aj:=h r (by simp);rw [H8,Pl,aaY ag aj.1 ai aj.2,rW];rw [tH] at ak ⊢;cases bK:H_ b s r with
   | true =>
     rw [bK,if_pos rfl,tR,←sy] at ak;have e':acc.length+r.length≤1000:=by
      rw [sj,sj] at ak;omega
     rw [if_pos rfl,qb (by omega),rW,RW ag ai out _ (fun q a4=>h q (by simp [a4])) ak,if_pos rfl,tR,sy]
   | false =>
     rw [bK] at ak;rw [if_neg (by decide),rW,RW ag ai out _ (fun q a4=>h q (by simp [a4])) (by simpa using ak),if_neg (by decide)]
theorem Wg {f:List Int→Option Bool} {p:List Int→Bool}:∀ (l:List (List Int)),(∀ r∈l,f r=some (p r))→Lr f l=some (l.filter fun r=>!p r)
 | [],_=>rfl
 | r::l,h=>by
   rw [Lr,h r (by simp),rW,Wg l fun q a4=>h q (by simp [a4]),rW,tH];cases p r <;> rfl
theorem XO:∀ (l:List (List Int)),(∀ r∈l,r≠[])→l.length≤l.flatten.length
 | [],_=>rX _
 | r::l,h=>by
   have:=XO l fun q a4=>h q (by simp [a4]);have:=uG.2 (h r (by simp));simp only [tR,sj,sD];omega
theorem rh.aej (h:rh b S out):out.flatten.Nodup :=
 List.pairwise_flatten.2 ⟨fun r aj=>(h.so r aj).imp fun Ib e=>by omega,h.qA.imp fun LG x al y a1 e=>LG x al (by rw [e];exact a1)⟩
theorem rh.PB (h:rh b S out) (cp:rN b S):∀ r∈out,rN b r:=fun r aj x al=>cp x ((h.mem x).2 ⟨r,aj,al⟩)
theorem rh.few (h:rh b S out) (cp:rN b S):out.length≤b.2.length:=by
 refine sJ (XO out h.ne) (LJ h.aej fun x al=>?_);obtain ⟨r,aj,al⟩:=vl.1 al;exact h.PB cp r aj x al
theorem agJ (ag:b.2.length≤10) (cp:rN b S) (h:rh b S out) (ai:s ∉ S) (dN:0≤s∧s<(b.2.length:Int)):NZ b out s=some (zD b out s):=by
 have g0:=h.PB cp;have C4:∀ r∈out,r.length≤10:=fun r aj=>by
  have:=LJ ((h.so r aj).imp fun Ib e=>by omega:r.Nodup) (g0 r aj);omega
 have fH:(own b out s).length≤10:=by
  have R':rN b (own b out s):=fun x al=>by
   rcases Xu.1 al with e | ⟨r,aj,_,Jr⟩
   ·rw [e];exact dN
   ·exact g0 r aj x Jr
  have:=LJ (h.XG ai) R';omega
 have aQ:=h.few cp;have WV:=RW (by omega) dN out [s] (fun r aj=>⟨g0 r aj,by have:=C4 r aj;omega⟩) (by have:[s]++(out.filter (H_ b s)).flatten=own b out s:=rfl;rw [this];omega);rw [show [s]++(out.filter (H_ b s)).flatten=own b out s from rfl] at WV;rw [NZ,WV,rW,qb ⟨by omega,by unfold own;simp,by omega⟩,Wg (p:=H_ b s) out (fun r aj=>aaY (by omega) (g0 r aj) dN (by have:=C4 r aj;omega)),rW];rfl
theorem XP (ag:b.2.length≤10):∀ (R S:List Int) (out:List (List Int)),(S++R).Nodup→rN b (S++R)→rh b S out→∃ HD,H8 (NZ b) R out=some HD∧rh b (S++R) HD
 | [],S,out,_,_,h=>⟨out,rfl,by simpa using h⟩
 | s::R,S,out,aN,g0,h=>by
   have ai:s ∉ S:=fun ai=>by
    have:=(uj.1 aN).2.2 s ai s (by simp);exact this rfl
   (have e:S++s::R=(S++[s])++R:=by simp);obtain ⟨HD,ad,af⟩:=XP ag R (S++[s]) (zD b out s) (by rw [←e];exact aN) (by rw [←e];exact g0) (h.step ai);refine ⟨HD,?_,by rw [e];exact af⟩;rw [H8,agJ ag (fun x al=>g0 x (by simp [al])) h ai (g0 s (by simp)),rW,ad]
theorem rh.nil:rh b [] []:=⟨fun r aj=>absurd aj (by simp),fun r aj=>absurd aj (by simp),fun x=>by simp,.nil,fun r aj=>absurd aj (by simp),fun r aj=>absurd aj (by simp)⟩
theorem head_mem {r:List Int} (h:r≠[]):ix r 0∈r:=by
 cases r with
 | nil=>exact absurd rfl h
 | cons a r=>simp [ix]
theorem aaK (ag:b.2.length≤10) (aN:S.Nodup) (g0:rN b S):∃ out,Kh b S=some out∧rh b S out∧out.Pairwise fun x y=>ix x 0<ix y 0:=by
 obtain ⟨out,ad,af⟩:=XP ag S [] [] (by simpa using aN) (by simpa using g0) rh.nil;rw [uc] at af;have aC:=af.perm (ait out);have ak:=LJ aN g0;refine ⟨Iu out,?_,aC,aiu (af.qA.imp_of_mem fun {r q} aj a4 LG e=>LG _ (head_mem (af.ne r aj)) (by rw [e];exact head_mem (af.ne q a4)))⟩;have aQ:=af.few g0;have c':out.all MP=true:=ss.2 fun r aj=>by
  have hm:=head_mem (af.ne r aj);have hi:=af.PB g0 r aj _ hm;have he:(!r.isEmpty)=true:=by
   cases r with
   | nil=>exact absurd rfl (af.ne [] aj)
   | cons a r=>rfl
  rw [MP,he,decide_eq_true hi.1,decide_eq_true (by omega)];rfl
 rw [Kh,qb (by omega),ad,rW,qb ⟨by omega,c'⟩]
end
end Go.Proofs.YtfakoboiahbhaaaGreat.Ab


namespace Go.Proofs.YtfakoboiahbhaaaGreat.Ab
open Go
set_option maxRecDepth 20000
set_option maxHeartbeats 4000000
noncomputable def Q4:ez :=
 .loop (some (EA false [3,1,6,2,8])) (GC [gO 12 [.sl 11,.sl 10] (.bin .lss)] (.seq (.cond (.sl 12) .skip (.exit 0)) (.seq (.block 1 (GC [Gp 13 11,Gq 4 13] (Gt [Gq 14 3,Gq 15 4,gO 16 [.hM 15] (.ya 1 1 [.int .i64 0] [0]),gO 17 [.hJ 14,.hJ 16] (.app 1 8),Gq 3 17]))) (Gt [F0 18 11 1,Gq 11 18]))))
noncomputable def abz:ez :=
 GC [gO 2 [.iD (.ay [] 0 .full)] (.nil 1)] (GC [gO 3 [.iD (.ay [] 0 .full)] (.nil 1)] (.seq (GC [Gq 5 0,gO 6 [.hM 5] .zC,F7 7 6 0,F7 8 7 1,Gm 9 8,Gl 10 9,Gn 11 0] (.block 0 Q4)) (GC [Gq 19 3,Gq 2 19] .ret)))
theorem agb:zg Tryz.prog Rp 77=some (abz,20,[.tmp 2]):=by kernel_rfl
def Mf (t:p8) (p4:p0→Option p0):Nat→p0→Int→Option p0
 | 0,_,_=>none
 | m+1,s1,s2 =>
   if (decide (s2<(t.2.length:Int)))=true then
    p2 ((s1.length+1)*8≤140737488355328) <|
    Mf t p4 m (s1++[s2]) (w (s2+(1:Int)))
   else
    p4 s1
def M7 (t:p8):Option p0 :=
 Mf t (fun x0 =>
   some x0) p6 ([]:List Int) (0:Int)
theorem ak0 {t:p8} {p4:p0→Option p0} {s1:p0} {s2:Int} {v:p0} {Q:rm}   (qY:∀ (x0:p0) (p9:List I),p4 x0=some v→qV 20 [(3,(qj x0 (.uniq 1)))] p9→Q (.exit 0) p9 []) {T:List I} (bZ:eS (EA false [3,1,6,2,8]) T=GH 20 [(3,(qj s1 (.uniq 1))),(10,(hS (t.2.length:Int))),(11,(hS s2))]) (h:Mf t p4 p6 s1 s2=some v) :
  dC Tryz.prog Rp 77 0 none Q4 T [] Q:=by
 unfold Q4;refine wp_loop bZ ?_;refine .intro (fun m T H=>∃ (s1:p0) (s2:Int),T=GH 20 [(3,(qj s1 (.uniq 1))),(10,(hS (t.2.length:Int))),(11,(hS s2))]∧H=[]∧Mf t p4 m s1 s2=some v) p6 ⟨s1,s2,rfl,rfl,h⟩ ?_;clear h bZ;rintro m T H ⟨s1,s2,rfl,rfl,h⟩;cases m
 ·exact q4 h
 rename_i m;rw [Mf.eq_2] at h;conv=>whnf
 refine bs h (fun eV h=>?_) fun eV h=>?_
 ·rw [eV];conv=>whnf
  obtain ⟨fl,h⟩:=qw h;refine ⟨by first | rfl | simp,by have:=fl;omega,rfl,fl,?_⟩
  erw [JB hS s1 s2];conv=>whnf
  exact ⟨m,su m,(s1++[s2]),(w (s2+(1:Int))),rfl,rfl,h⟩
 ·rw [eV];conv=>whnf
  exact qY _ _ h ⟨rfl,rfl⟩
theorem aaJ {t:p8} {v:p0} (h:M7 t=some v):qt 77 [(.bW [(hS t.1),(.ay (t.2.flatMap p7) t.2.length .shared)])] (.ay (v.map hS) v.length .shared):=by
 refine qN dI agb rfl (rz (fun _=>rfl) _ _ _) fun Q bn=>?_;have jz:qD [.tmp 2] Q (fun v=>(qj v .shared)) v:=fun T H bK=>bn _ T H bK;unfold M7 at h;unfold abz;obtain ⟨Hy,qB⟩:∃ c,Q4=c:=⟨_,rfl⟩;rw [qB];conv=>whnf
 subst qB;refine ak0 ?_ (by exact rfl) h;intro x0 p9 h qs;obtain ⟨ru,rfl⟩:=qs.ex;conv=>whnf
 exact qd h jz rfl rfl

noncomputable def abe:ez :=
 GC [gO 1 [.hJ 0] .box,gO 2 [.iD (.ay [] 0 .full)] (.nil 1),Gn 3 0] (GC [gO 7 [.hM 1] (.w8 (.str 2)),gO 8 [.iD (.func 64 [] []),.sl 7] (.call 3),Gq 6 8,GK 9 6 0,gO 10 [.hM 6] (.ext 1),Gq 4 9,Gq 5 10] (.seq (GC [Gp 11 5,F1 12 11 0 .neq] (.cond (.sl 12) (GC [Gq 13 5,gO 2 [.iD (.ay [] 0 .full)] (.nil 1),Gq 3 13] .ret) .skip)) (GC [Gp 14 4,Gq 15 4,gO 16 [.iD (.func 77 [] []),.sl 15] (.call 3),gO 17 [.iD (.func 79 [] []),.sl 14,.sl 16] (.call 3),Gq 2 17,Gn 3 0] .ret)))
theorem afS:zg Tryz.prog VC 29=some (abe,18,[.tmp 2,.tmp 3]):=by kernel_rfl
def Oy (b:p8):Option (q6×Int) :=
 (Ih b).bind fun aS =>
 match aS with
 | (none,q1) =>
   if (decide (q1≠(0:Int)))=true then
    some ([],q1)
   else
    none
 | (some bT,q1) =>
   if (decide (q1≠(0:Int)))=true then
    some ([],q1)
   else
    (M7 bT).bind fun bk =>
    (Kh bT bk).bind fun eE =>
    some (eE,(0:Int))
theorem akn {b:p8} {v:(q6×Int)} (h:Oy b=some v):qt 29 [(.agg [(hS b.1),(.ay (b.2.flatMap p7) b.2.length .shared)])] (.tuple [(.ay (v.1.map jk) v.1.length .shared),(hS v.2)]):=by
 refine qN dI afS rfl (I8 (p5 (rz (fun _=>(rz (fun _=>rfl) _ _ _)) _ _ _) (p5 rfl rfl))) fun Q bn=>?_;have jz:qD [.tmp 2,.tmp 3] Q (fun v=>(.tuple [(.ay (v.1.map jk) v.1.length .shared),(hS v.2)])) v:=fun T H bK=>bn _ T H bK;unfold Oy at h;unfold abe;conv=>whnf
 obtain ⟨aS,eV,h⟩:=qi h;rcases aS with ⟨_ | bT,q1⟩
 ·refine ⟨qh.pl,_,Lk eV,?_⟩;conv=>whnf
  refine bs h (fun fl h=>?_) fun fl h=>?_
  ·rw [fl];(conv=>whnf);exact qd h jz rfl rfl
  ·rw [fl];(conv=>whnf);exact q4 h
 ·refine ⟨qh.pl,_,Lk eV,?_⟩;conv=>whnf
  refine bs h (fun qo h=>?_) fun qo h=>?_
  ·rw [qo];(conv=>whnf);exact qd h jz rfl rfl
  ·rw [qo];(conv=>whnf);obtain ⟨bk,qC,h⟩:=qi h;refine ⟨qh.pl,_,aaJ qC,?_⟩;(conv=>whnf);obtain ⟨eE,qG,h⟩:=qi h;refine ⟨qh.pl,_,ak4 qG,?_⟩;(conv=>whnf);exact qd h jz rfl rfl

def O4:c9:={ ops:=[[{ takes:=[true] }],[{},{ mode:=3 },{ takes:=[true] }],[],[],[],[{},{},{ takes:=[true] },{ takes:=[true] },{ takes:=[true,true] }],[{ takes:=[true] },{ takes:=[true] },{ takes:=[true] }],[],[],[{},{},{ takes:=[true] },{ takes:=[true,true] }],[{ takes:=[true] },{ takes:=[true] },{ takes:=[true] }],[{},{},{ takes:=[true,true] },{ takes:=[true] },{},{},{ takes:=[true] },{},{ takes:=[true,true] },{ takes:=[true] },{ takes:=[true] },{ takes:=[true,true] },{ takes:=[true] },{ takes:=[true,true] }],[{},{ takes:=[true] }],[{},{ takes:=[true] }],[{ takes:=[true] },{},{},{ takes:=[true] },{},{ takes:=[true,true] },{ takes:=[true] },{ takes:=[true] },{ takes:=[true,true] },{ takes:=[true] },{ takes:=[true] },{ takes:=[true,true] },{ takes:=[true] }],[{ takes:=[true] },{},{ takes:=[true],mode:=1 },{ takes:=[true] },{ takes:=[true,true],mode:=1 },{ takes:=[true] }],[{},{},{},{ takes:=[true] },{ takes:=[true,true] },{ takes:=[true],mode:=1 },{},{ takes:=[true] },{ takes:=[true,true] },{ takes:=[true,true] },{ takes:=[true,true] }],[{ takes:=[true],mode:=2 },{ takes:=[true] }]],h_:=[(0,(EA false [1,1,1,4,62])),(2,(EA false [1,1,1,6,60]))] }
noncomputable def Mp:ez :=
 .loop (some (EA false [1,1,1,6,60])) (.seq (GC [Gp 18 8,Gp 19 5,Gl 20 19,F2 21 18 20 .lss] (.cond (.sl 21) .skip (.exit 2))) (.seq (.block 3 (.seq (Gu [Gp 24 5,Gp 25 8,Gi 26 24 25 1,Gm 27 26,Gp 28 3,gO 29 [.sl 1] (.oT 1),Gm 30 29,Gp 31 6,Gi 32 30 31 2,F7 33 32 0,Gm 34 33,Gi 35 28 34 1,Gm 36 35,F2 37 27 36 .eql]) (.cond (.sl 37) (Gt [Gp 38 8,Gq 7 38]) .skip))) (Gt [Gq 22 8,F0 23 22 1,Gq 8 23])))
noncomputable def Q6:ez :=
 .loop (some (EA false [1,1,1,4,62])) (.seq (GC [Gp 11 6,gO 12 [.sl 1] (.oT 1),Gm 13 12,Gl 14 13,F2 15 11 14 .lss] (.cond (.sl 15) .skip (.exit 0))) (.seq (.block 1 (GC [Gn 7 (-1)] (.seq (GC [Gn 8 0] (.block 2 Mp)) (.seq (GC [Gp 39 7,F1 40 39 0 .lss] (.cond (.sl 40) (GC [Gq 41 5,Gp 42 3,gO 43 [.sl 1] (.oT 1),Gm 44 43,Gp 45 6,Gi 46 44 45 2,F7 47 46 0,Gm 48 47,Gi 49 42 48 1,Gm 50 49,gO 51 [.hM 50] (.ya 1 1 [.int .i64 0] [0]),gO 52 [.hJ 41,.hJ 51] (.app 1 8),Gq 5 52] (GC [Gq 53 4,Gp 54 6,gO 55 [.hM 54] (.x' 1 1 [.int .i64 0] [0]),gO 56 [.hM 55] (.ya 1 1 [.ay [] 0 .full] [0]),gO 57 [.hJ 53,.hJ 56] (.x4 1 24),Gq 4 57] (.exit 1))) .skip)) (Gt [Gp 58 4,Gp 59 7,Gp 60 4,Gq 61 7,Gi 62 60 61 1,gO 63 [.hM 62] .take,Gp 64 6,gO 65 [.hM 64] (.ya 1 1 [.int .i64 0] [0]),gO 66 [.hJ 63,.hJ 65] (.app 1 8),Gi 67 58 59 1,⟨none,[.hJ 67,.hJ 66],none,none,.st 1⟩]))))) (Gt [Gq 16 6,F0 17 16 1,Gq 6 17])))
noncomputable def abB:ez :=
 GC [gO 1 [.hJ 0] .box, gO 2 [.iD (.ay [] 0 .full)] (.nil 1)] (GC [gO 9 [.sl 1] (.w8 (.str 2)), gO 10 [.iD (.func 56 [] []), .sl 9, .iD (.int .i64 (-1))] (.call 3), Gq 3 10] (GC [gO 4 [.iD (.ay [] 0 .full)] (.nil 1)] (GC [gO 5 [.iD (.ay [] 0 .full)] (.nil 1)] (.seq (GC [Gn 6 0] (.block 0 Q6)) (GC [⟨some 68, [.hJ 4], none, some 4, .other (Oper.mk (some 68) (Op.move (Operand.tmp 4)) 41 "ref.go:180" (Array.mk []) none) 2⟩, Gq 2 68] .ret)))))
theorem agd:zg Tryz.prog O4 80=some (abB,69,[.tmp 2]):=by kernel_rfl
def OH (p4:Unit→Option q6):Nat→Option q6
 | 0=>none
 | m+1 =>
   if (decide ((0:Int)<((0:Nat):Int)))=true then
    none
   else
    p4 ()
def Ln (b:p8) (aS s1:p0) (s2:Int) (ra:Int→Option q6):Nat→Int→Int→Option q6
 | 0,_,_=>none
 | m+1,Gz,p_ =>
   if (decide (p_<(s1.length:Int)))=true then
    p2 (0≤p_∧p_<(s1.length:Int)) <|
    p2 (0≤s2∧s2<(b.2.length:Int)) <|
    p2 (0≤(ix b.2 s2).1∧(ix b.2 s2).1<(aS.length:Int)) <|
    if (decide ((ix s1 p_)=(ix aS ((ix b.2 s2).1))))=true then
     Ln b aS s1 s2 ra m p_ (w (p_+(1:Int)))
    else
     Ln b aS s1 s2 ra m Gz (w (p_+(1:Int)))
   else
    ra Gz
def Jj (b:p8) (aS:p0) (qn:q6→Option q6):Nat→p0→Int→q6→Option q6
 | 0,_,_,_=>none
 | m+1,s1,s2,s3 =>
   if (decide (s2<(b.2.length:Int)))=true then
    Ln b aS s1 s2 (fun x0 =>
      if (decide (x0<(0:Int)))=true then
       p2 (0≤s2∧s2<(b.2.length:Int)) <|
       p2 (0≤(ix b.2 s2).1∧(ix b.2 s2).1<(aS.length:Int)) <|
       p2 ((s1.length+1)*8≤140737488355328) <|
       p2 ((s3.length+1)*24≤140737488355328) <|
       Jj b aS qn m (s1++[(ix aS ((ix b.2 s2).1))]) (w (s2+(1:Int))) (s3++[[s2]])
      else
       p2 (0≤x0∧x0<(s3.length:Int)) <|
       if (decide ((ix s3 x0).length=1))=true then
        p2 (((ix s3 x0).length+1)*8≤140737488355328) <|
        p2 (0≤x0∧x0<(s3.length:Int)) <|
        Jj b aS qn m s1 (w (s2+(1:Int))) (s3.set x0.toNat ((ix s3 x0)++[s2]))
       else
        p2 ((ix s3 x0).length≠0) <|
        p2 (((ix s3 x0).length+1)*8≤140737488355328) <|
        p2 (0≤x0∧x0<(s3.length:Int)) <|
        Jj b aS qn m s1 (w (s2+(1:Int))) (s3.set x0.toNat ((ix s3 x0)++[s2]))) p6 (-1:Int) (0:Int)
   else
    qn s3
def Mg (b:p8):Option q6 :=
 (M3 b (-1:Int)).bind fun aS =>
 if (decide ((0:Int)<(b.2.length:Int)))=true then
  OH (fun _ =>
    p2 (0≤(0:Int)∧(0:Int)<(b.2.length:Int)) <|
    p2 (0≤(ix b.2 (0:Int)).1∧(ix b.2 (0:Int)).1<(aS.length:Int)) <|
    p2 ((([]:List Int).length+1)*8≤140737488355328) <|
    Jj b aS (fun oq =>
      some oq) p6 ([]++[(ix aS ((ix b.2 (0:Int)).1))]) (w ((0:Int)+(1:Int))) ([[(0:Int)]])) p6
 else
  some []
theorem ak6 {p4:Unit→Option q6} {b:p8} {aS:p0} {v:q6} {Q:rm}   (qY:∀ (p9:List I),p4 ()=some v→qV 69 [(1,(.ptr 0 0)),(3,(qj aS .shared)),(4,(.ay [] 0 (.uniq 1))),(5,(.ay [] 0 (.own 1))),(6,(hS (0:Int))),(7,(hS (-1:Int)))] p9→Q (.exit 2) p9 [qg b]) {T:List I} (bZ:eS (EA false [1,1,1,6,60]) T=GH 69 [(1,(.ptr 0 0)),(3,(qj aS .shared)),(4,(.ay [] 0 (.uniq 1))),(5,(.ay [] 0 (.uniq 1))),(6,(hS (0:Int))),(7,(hS (-1:Int))),(8,(hS (0:Int)))]) (h:OH p4 p6  = some v) :
  dC Tryz.prog O4 80 0 none Mp T [qg b] Q:=by
 unfold Mp;refine wp_loop bZ ?_;refine .intro (fun m T H=>T=GH 69 [(1,(.ptr 0 0)),(3,(qj aS .shared)),(4,(.ay [] 0 (.uniq 1))),(5,(.ay [] 0 (.uniq 1))),(6,(hS (0:Int))),(7,(hS (-1:Int))),(8,(hS (0:Int)))]∧H=[qg b]∧OH p4 m  = some v) p6 ⟨rfl,rfl,h⟩ ?_;clear h bZ;rintro m T H ⟨rfl,rfl,h⟩;cases m
 ·exact q4 h
 rename_i m;rw [OH.eq_2] at h;conv=>whnf
 refine bs h (fun qo h=>?_) fun qo h=>?_
 ·rw [qo];conv=>whnf
  exact q4 h
 ·rw [qo];conv=>whnf
  exact qY  _ h ⟨rfl,rfl⟩
theorem ak8 {b:p8} {aS:p0} {s1:p0} {s2:Int} {ra:Int→Option q6} {Gz:Int} {p_:Int} {s3:q6} {v:q6} {Q:rm}  {Hc:List au} (LD:∀ (x0:Int) (p9:List I),ra x0=some v→qV 69 [(1,(.ptr 0 0)),(3,(qj aS .shared)),(4,(.cn (qg b::Hc).length ((qg b::Hc).length+1) s3.length 1)),(5,(qj s1 (.own 1))),(6,(hS s2)),(7,(hS x0))] p9→Q (.exit 2) p9 ((qg b::Hc)++[au.grow (s3.map HY) ((qg b::Hc).length+1) 1,au.dead])) {T:List I} (bZ:eS (EA false [1,1,1,6,60]) T=GH 69 [(1,(.ptr 0 0)),(3,(qj aS .shared)),(4,(.cn (qg b::Hc).length ((qg b::Hc).length+1) s3.length 1)),(5,(qj s1 (.own 1))),(6,(hS s2)),(7,(hS Gz)),(8,(hS p_))]) (h:Ln b aS s1 s2 ra p6 Gz p_=some v) :
  dC Tryz.prog O4 80 0 none Mp T ((qg b::Hc)++[au.grow (s3.map HY) ((qg b::Hc).length+1) 1,au.dead]) Q:=by
 unfold Mp;refine wp_loop bZ ?_;refine .intro (fun m T H=>∃ (Gz p_:Int),T=GH 69 [(1,(.ptr 0 0)),(3,(qj aS .shared)),(4,(.cn (qg b::Hc).length ((qg b::Hc).length+1) s3.length 1)),(5,(qj s1 (.own 1))),(6,(hS s2)),(7,(hS Gz)),(8,(hS p_))]∧H=((qg b::Hc)++[au.grow (s3.map HY) ((qg b::Hc).length+1) 1,au.dead])∧Ln b aS s1 s2 ra m Gz p_=some v) p6 ⟨Gz,p_,rfl,rfl,h⟩ ?_;clear h bZ;rintro m T H ⟨Gz,p_,rfl,rfl,h⟩;cases m
 ·exact q4 h
 rename_i m;rw [Ln.eq_2] at h;conv=>whnf
 refine bs h (fun qO h=>?_) fun qO h=>?_
 ·rw [qO];conv=>whnf
  refine qy h id fun q5 h=>?_;rw [Ht hS s1 p_ q5];conv=>whnf
  refine qy h id fun q2 h=>?_;rw [qR p7 2 qK b.2 s2 q2];conv=>whnf
  refine qy h id fun rM h=>?_;rw [Ht hS aS ((ix b.2 s2).1) rM];conv=>whnf
  refine bs h (fun ry h=>?_) fun ry h=>?_
  ·rw [ry];(conv=>whnf);exact ⟨m,su m,p_,(w (p_+(1:Int))),rfl,rfl,h⟩
  ·rw [ry];(conv=>whnf);exact ⟨m,su m,Gz,(w (p_+(1:Int))),rfl,rfl,h⟩
 ·rw [qO];conv=>whnf
  exact LD _ _ h ⟨rfl,rfl⟩
theorem ak7 {b:p8} {aS:p0} {qn:q6→Option q6} {s1:p0} {s2:Int} {s3:q6} {v:q6} {Q:rm}   (HT:∀ (oq:q6) (bC:au) (Mw:List au) (p9:List I),qn oq=some v→qV 69 [(4,(.cn (bC::Mw).length ((bC::Mw).length+1) oq.length 1))] p9→Q (.exit 0) p9 ((bC::Mw)++[au.grow (oq.map HY) ((bC::Mw).length+1) 1,au.dead])) {T:List I} (bZ:T=GH 69 [(1,(.ptr 0 0)),(3,(qj aS .shared)),(4,(.cn ([qg b]).length (([qg b]).length+1) s3.length 1)),(5,(qj s1 (.own 1))),(6,(hS s2))]) (h:Jj b aS qn p6 s1 s2 s3=some v) :
  Nc Tryz.prog O4 80 0 none Q6 T ((qg b::([]:List au))++[au.grow (s3.map HY) ((qg b::([]:List au)).length+1) 1,au.dead]) Q:=by
 subst bZ;refine .mk _ _ rfl (fun m T H=>∃ (s1:p0) (s2:Int) (s3:q6) (Hc:List au),T=GH 69 [(1,(.ptr 0 0)),(3,(qj aS .shared)),(4,(.cn (qg b::Hc).length ((qg b::Hc).length+1) s3.length 1)),(5,(qj s1 (.own 1))),(6,(hS s2))]∧H=((qg b::Hc)++[au.grow (s3.map HY) ((qg b::Hc).length+1) 1,au.dead])∧Jj b aS qn m s1 s2 s3=some v) p6 (rX _) ⟨s1,s2,s3,_,rfl,rfl,h⟩ ?_;obtain ⟨Ko,rT⟩:∃ c,Mp=c:=⟨_,rfl⟩;rw [rT];clear h;rintro abX m T H ⟨s1,s2,s3,Hc,rfl,rfl,h⟩ NH;cases m
 ·exact q4 h
 rename_i m;rw [Jj.eq_2] at h;conv=>whnf
 refine bs h (fun qT h=>?_) fun qT h=>?_
 ·rw [qT];conv=>whnf
  subst rT;refine ak8 ?_ (by exact rfl) h;intro x0 p9 h qs;obtain ⟨ru,rfl⟩:=qs.ex;conv=>whnf
  refine bs h (fun rB h=>?_) fun rB h=>?_
  ·rw [rB];(conv=>whnf);refine qy h id fun Hk h=>?_;rw [qR p7 2 qK b.2 s2 Hk];(conv=>whnf);refine qy h id fun JJ h=>?_;rw [Ht hS aS ((ix b.2 s2).1) JJ];(conv=>whnf);obtain ⟨HI,h⟩:=qw h;refine ⟨by first | rfl | simp,by have:=HI;omega,rfl,HI,?_⟩
   erw [JB hS s1 (ix aS ((ix b.2 s2).1))];(conv=>whnf);obtain ⟨I2,h⟩:=qw h;refine ⟨⟨rfl,by decide⟩,?_⟩;(conv=>whnf);refine DX (HH (qg b::Hc) _) ?_;(conv=>whnf);refine .inl ⟨⟨rfl,rfl,rfl,by simp,by decide,I2⟩,?_⟩;rw [Jw,VW];erw [VY HY s3 [s2],VX s3 [s2]];(conv=>whnf);exact NH m _ _ (su m) ⟨(s1++[(ix aS ((ix b.2 s2).1))]),(w (s2+(1:Int))),(s3++[[s2]]),_,rfl,rfl,h⟩
  ·rw [rB];(conv=>whnf);obtain ⟨rS,h⟩:=qw h;refine ⟨rS,?_⟩;(conv=>whnf);rcases Kn (decide ((ix s3 x0).length=1)) with HB | HB
   ·replace h:=Hv HB h;have HB:=of_decide_eq_true HB;refine DX (HH (qg b::Hc) _) ?_;(conv=>whnf);refine DX (x:=.ay ((ix s3 x0).map hS) (ix s3 x0).length .full) (by rw [show 0+x0.toNat*1=x0.toNat by simp];exact YB s3 rS (ahW HB)) ?_;(conv=>whnf);obtain ⟨Ia,h⟩:=qw h;refine ⟨by first | rfl | simp,by have:=Ia;omega,by decide,Ia,by first | rfl | simp,?_⟩
    erw [JB hS (ix s3 x0) s2];(conv=>whnf);obtain ⟨Ly,h⟩:=qw h;refine ⟨Ly,?_⟩;(conv=>whnf);refine DX (HH (qg b::Hc) _) ?_;(conv=>whnf);refine A' (by simp;omega) ?_;(conv=>whnf);rw [Jw,show 0+x0.toNat*1=x0.toNat by simp];erw [YC s3 x0.toNat ((ix s3 x0)++[s2]) (by rw [sj,tF];omega)];rw [show s3.length=(s3.set x0.toNat ((ix s3 x0)++[s2])).length from (tz ..).symm];(conv=>whnf);exact NH m _ _ (su m) ⟨s1,(w (s2+(1:Int))),(s3.set x0.toNat ((ix s3 x0)++[s2])),_,rfl,rfl,h⟩
   ·replace h:=Hu HB h;have HB:=of_decide_eq_false HB;obtain ⟨Pn,h⟩:=qw h;refine DX (HH (qg b::Hc) _) ?_;(conv=>whnf);refine DX (x:=.ay ((ix s3 x0).map hS) (ix s3 x0).length (.own 1)) (by rw [show 0+x0.toNat*1=x0.toNat by simp];exact YB s3 rS (YA HB)) ?_;(conv=>whnf);rw [Jw,show 0+x0.toNat*1=x0.toNat by simp];(conv=>whnf);obtain ⟨JK,h⟩:=qw h;refine ⟨by first | rfl | simp,by have:=JK;omega,rfl,JK,?_⟩
    erw [JB hS (ix s3 x0) s2];(conv=>whnf);obtain ⟨NM,h⟩:=qw h;refine ⟨NM,?_⟩;(conv=>whnf);refine DX (HH (qg b::Hc) _) ?_;(conv=>whnf);refine A' (by simp;omega) ?_;(conv=>whnf);rw [Jw,show 0+x0.toNat*1=x0.toNat by simp];erw [ahX s3 x0.toNat _ ((ix s3 x0)++[s2]) (by rw [sj,tF];omega)];rw [show s3.length=(s3.set x0.toNat ((ix s3 x0)++[s2])).length from (tz ..).symm];(conv=>whnf);exact NH m _ _ (su m) ⟨s1,(w (s2+(1:Int))),(s3.set x0.toNat ((ix s3 x0)++[s2])),_,rfl,rfl,h⟩
 ·rw [qT];conv=>whnf
  exact HT _ _ _ _ h ⟨rfl,rfl⟩
theorem ak9 {b:p8} {v:q6} (h:Mg b=some v):qt 80 [(.agg [(hS b.1),(.ay (b.2.flatMap p7) b.2.length .shared)])] (.ay (v.map jk) v.length .shared):=by
 refine lk.ah4 ?_;refine qN dI agd rfl (rz (fun _=>(rz (fun _=>rfl) _ _ _)) _ _ _) fun Q bn=>?_;have jz:qD [.tmp 2] Q (fun v=>(.ay (v.map J9) v.length .shared)) v:=fun T H bK=>bn _ T H bK;unfold Mg at h;unfold abB;obtain ⟨Hy,qB⟩:∃ c,Q6=c:=⟨_,rfl⟩;rw [qB];conv=>whnf
 obtain ⟨aS,eV,h⟩:=qi h;refine ⟨qh.pl,_,aaw eV,?_⟩;conv=>whnf
 subst qB;refine ZV (rc:=Q6) rfl (by exact rfl) ?_;obtain ⟨Ko,rT⟩:∃ c,Mp=c:=⟨_,rfl⟩;rw [rT];intro abW RP;conv=>whnf
 refine bs h (fun fl h=>?_) fun fl h=>?_
 ·rw [fl];conv=>whnf
  subst rT;refine ak6 ?_ (by exact rfl) h;intro  p9 h qs;obtain ⟨ru,rfl⟩:=qs.ex;conv=>whnf
  refine qy h id fun qC h=>?_;rw [qR p7 2 qK b.2 (0:Int) qC];conv=>whnf
  refine qy h id fun qG h=>?_;rw [Ht hS aS ((ix b.2 (0:Int)).1) qG];conv=>whnf
  obtain ⟨qZ,h⟩:=qw h;refine ⟨by first | rfl | simp,by have:=qZ;omega,rfl,qZ,?_⟩
  conv=>whnf
  refine ⟨⟨rfl,by decide⟩,?_⟩;conv=>whnf
  refine ⟨⟨rfl,by decide,by decide⟩,?_⟩;conv=>whnf
  refine RP _ _ ?_;refine ak7 ?_ (by exact rfl) h;intro oq bC Mw p9 h qs;obtain ⟨ru,rfl⟩:=qs.ex;conv=>whnf
  refine ⟨_,_,fun C=>RH rfl (si _) (HH (bC::Mw) _) (by simp),?_⟩;rw [ahY,Jw];conv=>whnf
  exact qd h jz rfl rfl
 ·rw [fl];conv=>whnf
  refine ⟨_,_,fun C=>rfl,?_⟩;conv=>whnf
  exact qd h jz rfl rfl

noncomputable def abf:ez :=
 GC [gO 1 [.hJ 0] .box,gO 2 [.iD (.ay [] 0 .full)] (.nil 1),Gn 3 0] (.seq (GC [gO 4 [.sl 1] (.w8 (.str 2)),gO 5 [.iD (.func 21 [] []),.sl 4] (.call 3),F1 6 5 0 .neq] (.cond (.sl 6) (GC [gO 7 [.hM 1] (.w8 (.str 2)),gO 8 [.iD (.func 21 [] []),.sl 7] (.call 3),gO 2 [.iD (.ay [] 0 .full)] (.nil 1),Gq 3 8] .ret) .skip)) (GC [gO 9 [.hM 1] (.w8 (.str 2)),gO 10 [.iD (.func 80 [] []),.sl 9] (.call 3),Gq 2 10,Gn 3 0] .ret))
theorem afT:zg Tryz.prog VD 30=some (abf,11,[.tmp 2,.tmp 3]):=by kernel_rfl
def Oz (b:p8):Option (q6×Int) :=
 (Hi b).bind fun aS =>
 if (decide (aS≠(0:Int)))=true then
  (Hi b).bind fun bk =>
  some ([],bk)
 else
  (Mg b).bind fun eE =>
  some (eE,(0:Int))
theorem akp {b:p8} {v:(q6×Int)} (h:Oz b=some v):qt 30 [(.agg [(hS b.1),(.ay (b.2.flatMap p7) b.2.length .shared)])] (.tuple [(.ay (v.1.map jk) v.1.length .shared),(hS v.2)]):=by
 refine qN dI afT rfl (I8 (p5 (rz (fun _=>(rz (fun _=>rfl) _ _ _)) _ _ _) (p5 rfl rfl))) fun Q bn=>?_;have jz:qD [.tmp 2,.tmp 3] Q (fun v=>(.tuple [(.ay (v.1.map jk) v.1.length .shared),(hS v.2)])) v:=fun T H bK=>bn _ T H bK;unfold Oz at h;unfold abf;conv=>whnf
 obtain ⟨aS,eV,h⟩:=qi h;refine ⟨qh.pl,_,JS eV,?_⟩;conv=>whnf
 refine bs h (fun fl h=>?_) fun fl h=>?_
 ·rw [fl];conv=>whnf
  obtain ⟨bk,qo,h⟩:=qi h;refine ⟨qh.pl,_,JS qo,?_⟩;conv=>whnf
  exact qd h jz rfl rfl
 ·rw [fl];conv=>whnf
  obtain ⟨eE,qC,h⟩:=qi h;refine ⟨qh.pl,_,ak9 qC,?_⟩;conv=>whnf
  exact qd h jz rfl rfl
end Go.Proofs.YtfakoboiahbhaaaGreat.Ab


namespace Go.Proofs.YtfakoboiahbhaaaGreat.Ab
open Go
theorem Hl {n:Nat} {x:Int}:x∈upto n↔0≤x∧x<(n:Int):=by
 unfold upto;rw [sq];constructor
 ·rintro ⟨j,aw,rfl⟩;have:=sx.1 aw;omega
 ·rintro ⟨ad,af⟩;exact ⟨x.toNat,sx.2 (by omega),by omega⟩
theorem MS (n:Nat):(upto n).Nodup:=by
 unfold upto;exact uB.2 (List.nodup_range.imp fun h e=>h (by omega))
section
variable {b:p3}
theorem GM.adU {f g:Int} (h:GM b (-1) f g):q8 b (upto b.2.length) f g:=by
 obtain ⟨n,h⟩:=h
 induction n generalizing g with
 | zero=>rw [show f=g from h];exact .refl
 | succ n a' =>
   obtain ⟨c,ad,af⟩:=h;obtain ⟨i,hi,_,aG⟩:=af.qW;refine .step (i:Int) (a' ad) (Hl.2 ⟨by omega,by omega⟩) ?_ ?_
   ·rcases aG with ⟨aG,_⟩ | ⟨aG,_⟩
    ·exact .inl aG
    ·exact .inr aG
   ·rcases aG with ⟨_,aG⟩ | ⟨_,aG⟩
    ·exact .inr aG
    ·exact .inl aG
theorem RD {i f g:Int} (hi:i∈upto b.2.length) (ad:qJ b i f) (af:qJ b i g):GM b (-1) f g:=by
 have hi:=Hl.1 hi;obtain ⟨j,rfl⟩:∃ j:Nat,i=(j:Int):=⟨i.toNat,by omega⟩;have he:=Hm.of (b:=b) (wo := -1) (i:=j) (by omega) (by omega);rcases ad with rfl | rfl <;> rcases af with rfl | rfl
 ·exact GM.refl _
 ·exact he.Nk
 ·exact he.symm.Nk
 ·exact GM.refl _
theorem q8.Nk {f g:Int} (h:q8 b (upto b.2.length) f g):GM b (-1) f g:=by
 induction h with
 | refl=>exact GM.refl _
 | step i _ hi aB aH a'=>exact a'.trans (RD hi aB aH)
theorem Nq (p1:qH b) {i f:Int} (hi:i∈upto b.2.length) (h:qJ b i f):0≤f∧f<b.1:=by
 have hi:=Hl.1 hi;obtain ⟨j,rfl⟩:∃ j:Nat,i=(j:Int):=⟨i.toNat,by omega⟩;have:=Ka p1 (i:=j) (by omega);rcases h with rfl | rfl <;> omega
structure HO (key:Int→Int) (i:Nat) (seen:List Int) (out:List (List Int)):Prop where
 len:out.length=seen.length
 Hr:seen.Nodup
 par:∀ (j:Nat) (h:j<out.length) (aY:j<seen.length) (x:Int),x∈out[j]↔0≤x∧x<(i:Int)∧key x=seen[j]
 so:∀ r∈out,r.Pairwise (·<·)
 ne:∀ r∈out,r≠[]
 all:∀ x:Int,0≤x→x<(i:Int)→key x∈seen
 a0:out.Pairwise fun x y=>ix x 0<ix y 0
theorem HO.new {key:Int→Int} {i:Nat} {seen:List Int} {out:List (List Int)} (h:HO key i seen out) (aN:key i ∉ seen):HO key (i+1) (seen++[key i]) (out++[[(i:Int)]]):=by
 have ak:=h.len;refine ⟨by simp [ak],?_,fun j aw ee x=>?_,fun r aj=>?_,fun r aj=>?_,fun x ad af=>?_,?_⟩
 ·rw [uj];exact ⟨h.Hr,by simp,fun a cg c ao e=>by simp only [sI] at ao;subst ao;subst e;exact aN cg⟩
 ·by_cases lY:j<out.length
  ·rw [vU lY,vU (by omega),h.par j lY (by omega) x];constructor
   ·rintro ⟨aB,aH,aR⟩;exact ⟨aB,by omega,aR⟩
   ·rintro ⟨aB,aH,aR⟩;refine ⟨aB,?_,aR⟩
    have:x≠(i:Int):=fun e=>aN (by rw [←e,aR];exact sH _)
    omega
  ·(have e:j=out.length:=by simp at aw;omega);subst e;rw [vV (by omega),vV (by omega)];simp only [Nat.sub_self,ak,List.getElem_cons_zero,sI];constructor
   ·rintro rfl;exact ⟨by omega,by omega,rfl⟩
   ·rintro ⟨aB,aH,aR⟩;refine Classical.byContradiction fun al=>aN ?_;rw [←aR];exact h.all x aB (by omega)
 ·rcases sQ.1 aj with aj | aj
  ·exact h.so r aj
  ·simp only [sI] at aj;subst aj;simp
 ·rcases sQ.1 aj with aj | aj
  ·exact h.ne r aj
  ·simp only [sI] at aj;subst aj;simp
 ·by_cases al:x=(i:Int)
  ·subst al;simp
  ·exact uR _ (h.all x ad (by omega))
 ·refine uM.2 ⟨h.a0,by simp,fun r aj q a4=>?_⟩;simp only [sI] at a4;subst a4;obtain ⟨j,aw,rfl⟩:=tS aj;have:=((h.par j aw (by omega) _).1 (head_mem (h.ne _ aj))).2.1;show ix out[j] 0<(i:Int);exact this
theorem HO.fL {key:Int→Int} {i k:Nat} {seen:List Int} {out:List (List Int)} (h:HO key i seen out) (av:k<seen.length) (pr:seen[k]=key i):HO key (i+1) seen (out.set k (out[k]'(by have:=h.len;omega)++[(i:Int)])):=by
 have ak:=h.len;have Pw:k<out.length:=by omega
 have bO:=h.ne _ (sH Pw);have aeQ:ix (out[k]++[(i:Int)]) 0=ix out[k] 0:=by
  cases e:out[k] with
  | nil=>exact absurd e bO
  | cons a r=>rfl
 refine ⟨by simpa using ak,h.Hr,fun j aw ee x=>?_,fun r aj=>?_,fun r aj=>?_,fun x ad af=>?_,?_⟩
 ·rw [List.getElem_set];split
  ·rename_i e;subst e;rw [sQ,h.par k Pw ee x,sI];constructor
   ·rintro (⟨aB,aH,aR⟩ | rfl)
    ·exact ⟨aB,by omega,aR⟩
    ·exact ⟨by omega,by omega,pr.symm⟩
   ·rintro ⟨aB,aH,aR⟩;by_cases al:x=(i:Int)
    ·exact .inr al
    ·exact .inl ⟨aB,by omega,aR⟩
  ·rename_i e;rw [h.par j (by simpa using aw) ee x];constructor
   ·rintro ⟨aB,aH,aR⟩;exact ⟨aB,by omega,aR⟩
   ·rintro ⟨aB,aH,aR⟩;refine ⟨aB,?_,aR⟩
    have:x≠(i:Int):=fun ex=>by
     subst ex;exact tc.1 h.Hr |> fun aC=>by
      rcases Nat.lt_or_gt_of_ne e with aV | aV
      ·exact aC k j av ee aV (by rw [pr,aR])
      ·exact aC j k ee av aV (by rw [pr,aR])
    omega
 ·rcases List.mem_or_eq_of_mem_set aj with aj | rfl
  ·exact h.so r aj
  ·refine uM.2 ⟨h.so _ (sH Pw),by simp,fun x al y a1=>?_⟩;simp only [sI] at a1;subst a1;exact ((h.par k Pw av x).1 al).2.1
 ·rcases List.mem_or_eq_of_mem_set aj with aj | rfl
  ·exact h.ne r aj
  ·simp
 ·by_cases al:x=(i:Int)
  ·subst al;rw [←pr];exact sH _
  ·exact h.all x ad (by omega)
 ·refine tc.2 fun a c cg ao aeD=>?_;have a4:∀ (a:Nat) (cg:a<out.length),ix ((out.set k (out[k]++[(i:Int)]))[a]'(by simpa using cg)) 0=ix out[a] 0:=fun a cg=>by
   rw [List.getElem_set];split
   ·rename_i e;subst e;exact aeQ
   ·rfl
  rw [a4 a (by simpa using cg),a4 c (by simpa using ao)];exact tc.1 h.a0 a c (by simpa using cg) (by simpa using ao) aeD
theorem HO.parts (p1:qH b) {N:List Int} (B_:OX b (-1) N) {seen:List Int} {out:List (List Int)} (h:HO (fun s=>ix N (ix b.2 s).1) b.2.length seen out):rh b (upto b.2.length) out:=by
 have ak:=h.len;have Px:∀ x∈upto b.2.length,0≤(ix b.2 x).1∧(ix b.2 x).1<b.1:=fun x al=>Nq p1 al (.inl rfl);have JO:∀ (j:Nat) (aw:j<out.length) (x:Int),x∈out[j]→x∈upto b.2.length:=fun j aw x al=>by
  have:=(h.par j aw (by omega) x).1 al;exact Hl.2 ⟨this.1,this.2.1⟩
 refine ⟨h.ne,h.so,fun x=>?_,tc.2 fun i j hi aw gZ x al iQ=>?_,fun r aj x al y a1 f g aQ aO=>?_,fun r aj q a4 x al y a1 f aQ aO=>?_⟩
 ·constructor
  ·intro al;have nA:=Hl.1 al;obtain ⟨j,aw,e⟩:=tS (h.all x nA.1 nA.2);exact ⟨_,sH (show j<out.length by omega),(h.par j (by omega) aw x).2 ⟨nA.1,nA.2,e.symm⟩⟩
  ·rintro ⟨r,aj,al⟩;obtain ⟨j,aw,rfl⟩:=tS aj;exact JO j aw x al
 ·have ad:=(h.par i hi (by omega) x).1 al;have af:=(h.par j aw (by omega) x).1 iQ;exact tc.1 h.Hr i j (by omega) (by omega) gZ (by rw [←ad.2.2,←af.2.2])
 ·obtain ⟨j,aw,rfl⟩:=tS aj;have ad:=(h.par j aw (by omega) x).1 al;have af:=(h.par j aw (by omega) y).1 a1;have NS:=JO j aw x al;have NT:=JO j aw y a1;have ao:=(B_.iff (Px x NS) (Px y NT)).1 (by rw [ad.2.2,af.2.2]);exact ((q8.one NS aQ (.inl rfl)).trans ao.adU).trans (q8.one NT (.inl rfl) aO)
 ·obtain ⟨i,hi,rfl⟩:=tS aj;obtain ⟨j,aw,rfl⟩:=tS a4;have ad:=(h.par i hi (by omega) x).1 al;have af:=(h.par j aw (by omega) y).1 a1;have NS:=JO i hi x al;have NT:=JO j aw y a1;have ao:GM b (-1) (ix b.2 x).1 (ix b.2 y).1:=(RD NS (.inl rfl) aQ).trans (RD NT aO (.inl rfl));have e:=(B_.iff (Px x NS) (Px y NT)).2 ao;have cm:seen[i]'(by omega)=seen[j]'(by omega):=by rw [←ad.2.2,←af.2.2];exact e
  have gZ:i=j:=by
   refine Classical.byContradiction fun bO=>?_;rcases Nat.lt_or_gt_of_ne bO with aV | aV
   ·exact tc.1 h.Hr i j (by omega) (by omega) aV cm
   ·exact tc.1 h.Hr j i (by omega) (by omega) aV cm.symm
  subst gZ;rfl
end
end Go.Proofs.YtfakoboiahbhaaaGreat.Ab


namespace Go.Proofs.YtfakoboiahbhaaaGreat.Ab
open Go
section
variable {b:p3}
theorem UM {N seen:List Int} {i:Nat} (hi:i<b.2.length) (B_:0≤(ix b.2 (i:Int)).1∧(ix b.2 (i:Int)).1<(N.length:Int)) (ai:seen.length≤1000) {k:Int→Option (List (List Int))}:∀ (m j:Nat) (z a:Int),z=j→j≤seen.length→seen.length-j<m→(∀ c:Nat,c<j→(ix seen (c:Int)=ix N (ix b.2 (i:Int)).1→0≤a))→(a=-1∨∃ c:Nat,a=c∧∃ h:c<seen.length,seen[c]=ix N (ix b.2 (i:Int)).1) →
  ∃ aM:Int,Ln b N seen (i:Int) k m a z=k aM∧((aM=-1∧ix N (ix b.2 (i:Int)).1 ∉ seen)∨∃ c:Nat,aM=c∧∃ h:c<seen.length,seen[c]=ix N (ix b.2 (i:Int)).1)
 | 0,_,_,_,_,_,h,_,_=>absurd h (by omega)
 | m+1,j,_,a,rfl,aw,hm,ad,af=>by
   rw [Ln];by_cases h:(j:Int)<(seen.length:Int)
   ·rw [if_pos (decide_eq_true h),qb ⟨vW j,h⟩,qb ⟨vW i,vX.2 hi⟩,qb B_];have lY:j<seen.length:=vX.1 h;by_cases he:ix seen (j:Int)=ix N (ix b.2 (i:Int)).1
    ·rw [if_pos (decide_eq_true he),re j (by omega)];(have e1:j+1≤seen.length∧seen.length-(j+1)<m:=by clear af;omega);exact UM hi B_ ai m (j+1) _ (j:Int) rfl e1.1 e1.2 (fun c ao _=>vW j) (.inr ⟨j,rfl,lY,by rw [←q_ lY];exact he⟩)
    ·rw [if_neg (by simpa using he),re j (by omega)];(have e1:j+1≤seen.length∧seen.length-(j+1)<m:=by clear af;omega);refine UM hi B_ ai m (j+1) _ a rfl e1.1 e1.2 (fun c ao WS=>?_) af;by_cases c7:c=j
     ·subst c7;exact absurd WS he
     ·exact ad c (by omega) WS
   ·rw [if_neg (by simpa using h)];refine ⟨a,rfl,?_⟩;rcases af with rfl | af
    ·refine .inl ⟨rfl,fun ky=>?_⟩;obtain ⟨c,ao,e⟩:=tS ky;have:=ad c (by omega) (by rw [q_ ao];exact e);omega
    ·exact .inr af
theorem HO.few {key:Int→Int} {i:Nat} {seen:List Int} {out:List (List Int)} (h:HO key i seen out):out.length≤i:=by
 have hm:=LM (l:=out.map fun r=>ix r 0) (n:=i) (by
  refine uB.2 (h.a0.imp fun Ib e=>by omega)) fun x al=>by
  obtain ⟨r,aj,rfl⟩:=sq.1 al;obtain ⟨j,aw,rfl⟩:=tS aj;have:=(h.par j aw (by have:=h.len;omega) _).1 (head_mem (h.ne _ aj));exact ⟨this.1,this.2.1⟩
 simpa using hm
theorem HO.ah3 {key:Int→Int} {i:Nat} {seen:List Int} {out:List (List Int)} (h:HO key i seen out) (j:Nat) (aw:j<out.length):out[j].length≤i:=by
 refine LM ((h.so _ (sH aw)).imp fun Ib e=>by omega) fun x al=>?_;have:=(h.par j aw (by have:=h.len;omega) x).1 al;exact ⟨this.1,this.2.1⟩
theorem UL (p1:qH b) {N:List Int} (B_:N.length=b.1.toNat) {k:List (List Int)→Option (List (List Int))}:∀ (m i:Nat) (z:Int) (seen:List Int) (out:List (List Int)),z=i→i≤b.2.length→b.2.length-i<m→HO (fun s=>ix N (ix b.2 s).1) i seen out →
  ∃ seen' HD,HO (fun s=>ix N (ix b.2 s).1) b.2.length seen' HD∧Jj b N k m seen z out=k HD
 | 0,_,_,_,_,_,_,h,_=>absurd h (by omega)
 | m+1,i,_,seen,out,rfl,hi,hm,fE=>by
   rw [Jj];have dz:=p1.len;have aeO:=fE.few;have hlen:=fE.len;by_cases h:(i:Int)<(b.2.length:Int)
   ·rw [if_pos (decide_eq_true h)];(have rR:i<b.2.length:=by omega);have ai:=Ka p1 rR;have WN:0≤(ix b.2 (i:Int)).1∧(ix b.2 (i:Int)).1<(N.length:Int):=by omega
    obtain ⟨a,cg,af⟩:=UM (b:=b) (N:=N) (seen:=seen) rR WN (by omega) (k:=fun x0 =>
      if (decide (x0<(0:Int)))=true then
       p2 (0≤(i:Int)∧(i:Int)<(b.2.length:Int)) <|
       p2 (0≤(ix b.2 (i:Int)).1∧(ix b.2 (i:Int)).1<(N.length:Int)) <|
       p2 ((seen.length+1)*8≤140737488355328) <|
       p2 ((out.length+1)*24≤140737488355328) <|
       Jj b N k m (seen++[(ix N ((ix b.2 (i:Int)).1))]) (w ((i:Int)+(1:Int))) (out++[[(i:Int)]])
      else
       p2 (0≤x0∧x0<(out.length:Int)) <|
       if (decide ((ix out x0).length=1))=true then
        p2 (((ix out x0).length+1)*8≤140737488355328) <|
        p2 (0≤x0∧x0<(out.length:Int)) <|
        Jj b N k m seen (w ((i:Int)+(1:Int))) (out.set x0.toNat ((ix out x0)++[(i:Int)]))
       else
        p2 ((ix out x0).length≠0) <|
        p2 (((ix out x0).length+1)*8≤140737488355328) <|
        p2 (0≤x0∧x0<(out.length:Int)) <|
        Jj b N k m seen (w ((i:Int)+(1:Int))) (out.set x0.toNat ((ix out x0)++[(i:Int)]))) p6 0 0 (-1) rfl (by omega) (rq (by omega)) (fun c ao=>by omega) (.inl rfl)
    rw [cg];rcases af with ⟨rfl,aN⟩ | ⟨c,rfl,ao,he⟩
    ·rw [if_pos (by decide),qb ⟨by omega,by omega⟩,qb WN,qb (by omega),qb (by omega),re i (by omega)];exact UL p1 B_ m (i+1) _ _ _ rfl (by omega) (by omega) (fE.new aN)
    ·(have gz:c<out.length:=by omega);have bO:=fE.ne _ (sH gz);have C4:=fE.ah3 c gz;have aj:=UL (k:=k) p1 B_ m (i+1) _ _ _ rfl (by omega) (by omega) (fE.fL ao he);rw [if_neg (by simp),qb ⟨by omega,by omega⟩,q_ gz,ti,re i (by omega)];split
     ·rw [qb (by omega),qb ⟨by omega,by omega⟩];exact aj
     ·rw [qb (show out[c].length≠0 from fun e=>bO (tn.1 e)),qb (by omega),qb ⟨by omega,by omega⟩];exact aj
   ·rw [if_neg (by simpa using h)]
    have:i=b.2.length:=by omega
    subst this;exact ⟨seen,out,fE,rfl⟩
theorem HO.zero {key:Int→Int}:HO key 0 [] []:=⟨rfl,by simp,fun j h=>absurd h (by simp),fun r aj=>absurd aj (by simp),fun r aj=>absurd aj (by simp),fun x ad af=>by omega,by simp⟩
def parts (b:p3):List (List Int):=(Kh b (upto b.2.length)).getD []
theorem On:rN b (upto b.2.length):=fun x al=>Hl.1 al
theorem QE (p1:qH b):Kh b (upto b.2.length)=some (parts b)∧rh b (upto b.2.length) (parts b)∧(parts b).Pairwise fun x y=>ix x 0<ix y 0:=by
 obtain ⟨out,ad,af,aG⟩:=aaK (b:=b) (S:=upto b.2.length) p1.len (MS _) On
 have:parts b=out:=by unfold parts;rw [ad];rfl
 rw [this];exact ⟨ad,af,aG⟩
theorem ak5 (p1:qH b):Mg b=some (parts b):=by
 obtain ⟨N,B_,rb⟩:=aat p1 (-1);have aC:=QE p1;rw [Mg,B_,rW];have dz:=p1.len;by_cases aT:b.2.length=0
 ·rw [if_neg (by simp [aT])]
  have:parts b=[]:=by
   cases e:parts b with
   | nil=>rfl
   | cons r q =>
     have bO:=aC.2.1.ne r (by simp [e]);obtain ⟨x,al⟩:=uU r bO;have:=Hl.1 ((aC.2.1.mem x).2 ⟨r,by simp [e],al⟩);omega
  rw [this]
 ·have ai:=Ka p1 (i:=0) (by omega);rw [if_pos (by simp;omega),show p6=18446744073709551615+1 from rfl,OH,←show p6=18446744073709551615+1 from rfl,if_neg (by simp),qb ⟨by omega,by omega⟩,qb ⟨ai.1,by have ad:=rb.len;have af:(ix b.2 (0:Int)).1<b.1:=ai.2.1;have aG:0≤(ix b.2 (0:Int)).1:=ai.1;omega⟩,qb (by simp)];obtain ⟨seen,out,fE,aj⟩:=UL p1 rb.len (k:=fun oq=>some oq) p6 1 1 [ix N (ix b.2 (0:Int)).1] [[0]] rfl (by omega) (rq (by omega)) (HO.zero.new (i:=0) (by simp));have al:out=parts b:=(fE.parts p1 rb).same aC.2.1 fE.a0 aC.2.2;rw [←al];exact aj
end
end Go.Proofs.YtfakoboiahbhaaaGreat.Ab


namespace Go.Proofs.YtfakoboiahbhaaaGreat.Ab
open Go
end Go.Proofs.YtfakoboiahbhaaaGreat.Ab


namespace Go.Proofs.YtfakoboiahbhaaaGreat.Ab
open Go
def Wo (L:List Nat):List (Nat×I×I):=L.map fun r=>(r,.agg (p7 (rF r)),hS 1)
end Go.Proofs.YtfakoboiahbhaaaGreat.Ab


namespace Go.Proofs.YtfakoboiahbhaaaGreat.Ab
open Go
set_option maxRecDepth 20000
set_option maxHeartbeats 4000000
theorem PQ (l:List (Int×Int)):(l.flatMap p7).length=l.length*2:=Ww p7 2 qK l

def HL (p:Int×Int):Nat:=(2*p.1+p.2).toNat
def PA (L:List Nat) (p:Int×Int):Bool:=decide (HL p∈L)
def JE (L:List Nat) (p:Int×Int):List Nat:=L.filter fun x=>decide (x≠HL p)
def Lt (L:List Nat) (p:Int×Int):List Nat:=JE (JE L p) (p.1,1-p.2)
structure Ij (t:p3) (L:List Nat) (way out:List (Int×Int)) (a:Int) (H0 v5:I) (x y:Nat) (H:List au):Prop where
 Hr:L.Nodup
 aT:H[0]?=some (MQ t)
 ad:∃ JD,H[1]?=some (.map (Wo L) JD)
 af:H[2]?=some (.cells [.map 1])
 aG:H[3]?=some (.cells [H0])
 a7:H[4]?=some (.cells [hS a])
 hw:(way=[]∧H0=.ay [] 0 .full)∨(H0=.cn x (x+1) way.length 2∧4<x∧∃ cs,H[x]?=some (.grow cs (x+1) 2)∧way.length*2≤cs.length∧cs.take (way.length*2)=way.flatMap p7)
 aq:(out=[]∧v5=.ay [] 0 .full)∨(v5=.cn y (y+1) out.length 2∧4<y∧H[y]?=some (.grow (out.flatMap p7) (y+1) 2))
 ne:x≠y
 NV:x<H.length
 NW:y<H.length
 Lu:x=0∨4<x
 Lv:y=2∨4<y
theorem Ij.len {t:p3} {L:List Nat} {way out:List (Int×Int)} {a:Int} {H0 v5:I} {x y:Nat} {H:List au} (h:Ij t L way out a H0 v5 x y H):4<H.length:=(List.getElem?_eq_some_iff.1 h.a7).1
theorem Ij.more {t:p3} {L:List Nat} {way out:List (Int×Int)} {a:Int} {H0 v5:I} {x y:Nat} {H:List au} (h:Ij t L way out a H0 v5 x y H) (Z:List au):Ij t L way out a H0 v5 x y (H++Z):=by
 obtain ⟨Hr,aT,⟨JD,ad⟩,af,aG,a7,hw,aq,ne,NV,NW,Lu,Lv⟩:=h;refine ⟨Hr,rD aT,⟨JD,rD ad⟩,rD af,rD aG,rD a7,?_,?_,ne,by simp;omega,by simp;omega,Lu,Lv⟩
 ·rcases hw with hw | ⟨bE,bV,cs,rv,Jy⟩
  ·exact .inl hw
  ·exact .inr ⟨bE,bV,cs,rD rv,Jy⟩
 ·rcases aq with aq | ⟨bE,bV,rv⟩
  ·exact .inl aq
  ·exact .inr ⟨bE,bV,rD rv⟩
theorem NA {H:List au} {j:Nat} {c:au} (h:j<H.length):(H.set j c)[j]?=some c:=List.getElem?_set_self h
theorem Ij.map {t:p3} {L iu:List Nat} {way out:List (Int×Int)} {a:Int} {H0 v5:I} {x y JD:Nat} {H:List au} (h:Ij t L way out a H0 v5 x y H) (aN:iu.Nodup):Ij t iu way out a H0 v5 x y (H.set 1 (.map (Wo iu) JD)):=by
 have ak:=h.len;obtain ⟨Hr,aT,_,af,aG,a7,hw,aq,ne,NV,NW,Lu,Lv⟩:=h;refine ⟨aN,rp aT (by omega),⟨JD,NA (by omega)⟩,rp af (by omega),rp aG (by omega),rp a7 (by omega),?_,?_,ne,by simpa using NV,by simpa using NW,Lu,Lv⟩
 ·rcases hw with hw | ⟨bE,bV,cs,rv,Jy⟩
  ·exact .inl hw
  ·exact .inr ⟨bE,bV,cs,rp rv (by omega),Jy⟩
 ·rcases aq with aq | ⟨bE,bV,rv⟩
  ·exact .inl aq
  ·exact .inr ⟨bE,bV,rp rv (by omega)⟩

section
variable {t:p3} {L:List Nat} {way out:List (Int×Int)} {a:Int} {H0 v5:I} {x y:Nat} {H:List au} {p:Int×Int}
theorem Ij.push {G:List au} {cells:List I} (cp:Ij t L way out a H0 v5 x y G) (ao:cells=(way++[p]).flatMap p7) {b:Int} {D:List au} (rb:D=G∨(D=G.set x .dead∧4<x)) :
  Ij t L (way++[p]) out b (.cn G.length (G.length+1) (way.length+1) 2) v5 G.length y (((D++[au.grow cells (G.length+1) 2,au.dead]).set 3 (au.cells [.cn G.length (G.length+1) (way.length+1) 2])).set 4 (au.cells [hS b])):=by
 subst ao;have ak:=cp.len;have RN:D.length=G.length:=by rcases rb with rfl | ⟨rfl,_⟩ <;> simp
 obtain ⟨Hr,aT,⟨JD,ad⟩,af,aG,a7,hw,aq,ne,NV,NW,Lu,Lv⟩:=cp;have NF:∀ (j:Nat) (o:au),j≠x∨D=G→G[j]?=some o→D[j]?=some o:=fun j o aw h=>by
  rcases rb with rfl | ⟨rfl,_⟩
  ·exact h
  ·rcases aw with aw | aw
   ·exact rp h (Ne.symm aw)
   ·rw [aw];exact h
 have RO:∀ j:Nat,j≤4→j≠x∨D=G:=fun j aw=>by
  rcases rb with h | ⟨_,h⟩
  ·exact .inr h
  ·exact .inl (by omega)
 refine ⟨Hr,?_,⟨JD,?_⟩,?_,?_,?_,?_,?_,?_,?_,?_,.inr (by omega),Lv⟩
 ·exact rp (rp (rD (NF 0 _ (RO 0 (by omega)) aT)) (by omega)) (by omega)
 ·exact rp (rp (rD (NF 1 _ (RO 1 (by omega)) ad)) (by omega)) (by omega)
 ·exact rp (rp (rD (NF 2 _ (RO 2 (by omega)) af)) (by omega)) (by omega)
 ·exact rp (NA (by simp;omega)) (by omega)
 ·exact NA (by simp;omega)
 ·refine .inr ⟨by simp,by omega,(way++[p]).flatMap p7,?_,by rw [PQ];exact rX _,tN (by rw [PQ];exact rX _)⟩;rw [←RN];exact rp (rp (HH _ _) (by omega)) (by omega)
 ·rcases aq with aq | ⟨bE,bV,rv⟩
  ·exact .inl aq
  ·exact .inr ⟨bE,bV,rp (rp (rD (NF y _ (.inl (Ne.symm ne)) rv)) (by omega)) (by omega)⟩
 ·omega
 ·simp;omega
 ·simp;omega
end

theorem aij {α:Type} (l:List α):l=[]∨∃ (l':List α) (p:α),l=l'++[p]:=by
 rcases l.eq_nil_or_concat with h | ⟨l',p,h⟩
 ·exact .inl h
 ·exact .inr ⟨l',p,by rw [h,List.concat_eq_append]⟩
def ML (t:p3):Nat→List Nat→List (Int×Int)→List (Int×Int)→Int→Option (List (Int×Int))
 | 0,_,_,_,_=>none
 | m+1,L,way,out,a=>p2 (way.length≤1000∧out.length≤1000) <|
   match (places t a).find? (PA L) with
   | some p=>p2 (HL (p.1,1-p.2)∈JE L p) (ML t m (Lt L p) (way++[p]) out (fin t p))
   | none=>match way.getLast? with
     | none=>some out
     | some p=>p2 (0≤p.1∧p.1<(t.2.length:Int)) (ML t m L way.dropLast (out++[p]) (qz t p))
def Qq (t:p3):Option (List (Int×Int)) :=
 p2 (0<t.2.length∧t.2.length≤1000) ((ML t p6 (List.range (2*t.2.length)) [] [] (ix t.2 0).1).bind fun out=>p2 (out.length≠0∧out.length≤1000) (some out.reverse))
section
variable {t:p3} {L:List Nat} {way out:List (Int×Int)} {a:Int} {H0 v5:I} {x y:Nat} {H:List au} {p:Int×Int}
theorem Ij.pop {b:Int} (cp:Ij t L (way++[p]) out a H0 v5 x y H) (hw:H0=.cn x (x+1) (way.length+1) 2) {cells:List I} (ao:cells=(out++[p]).flatMap p7) {D:List au} {G:List au} (NG:G=H.set 3 (.cells [.cn x (x+1) way.length 2])) (rb:D=G∨(D=G.set y .dead∧4<y)) :
  Ij t L way (out++[p]) b (.cn x (x+1) way.length 2) (.cn G.length (G.length+1) (out.length+1) 2) x G.length ((D++[au.grow cells (G.length+1) 2,au.dead]).set 4 (au.cells [hS b])):=by
 subst ao;have ak:=cp.len;have alM:G.length=H.length:=by rw [NG];simp
 have RN:D.length=G.length:=by rcases rb with rfl | ⟨rfl,_⟩ <;> simp
 obtain ⟨Hr,aT,⟨JD,ad⟩,af,aG,a7,me,aq,ne,NV,NW,Lu,Lv⟩:=cp;have Pj:∀ (j:Nat) (o:au),j≠3→H[j]?=some o→G[j]?=some o:=fun j o aw h=>by rw [NG];exact rp h (Ne.symm aw)
 have aew:∀ (j:Nat) (o:au),j≠y→G[j]?=some o→D[j]?=some o:=fun j o aw h=>by
  rcases rb with rfl | ⟨rfl,_⟩
  ·exact h
  ·exact rp h (Ne.symm aw)
 have Pg:∀ (j:Nat) (o:au),j≤4→G[j]?=some o→D[j]?=some o:=fun j o aw h=>by
  rcases rb with rfl | ⟨rfl,aY⟩
  ·exact h
  ·exact rp h (by omega)
 refine ⟨Hr,?_,⟨JD,?_⟩,?_,?_,NA (by simp;omega),.inr ?_,.inr ⟨by simp,by omega,?_⟩,by omega,by simp;omega,by simp;omega,Lu,.inr (by omega)⟩
 ·exact rp (rD (Pg 0 _ (by omega) (Pj 0 _ (by omega) aT))) (by omega)
 ·exact rp (rD (Pg 1 _ (by omega) (Pj 1 _ (by omega) ad))) (by omega)
 ·exact rp (rD (Pg 2 _ (by omega) (Pj 2 _ (by omega) af))) (by omega)
 ·refine rp (rD (Pg 3 _ (by omega) ?_)) (by omega);rw [NG];exact NA (by omega)
 ·rcases me with ⟨bE,_⟩ | ⟨bE,bV,cs,rv,Jy,MV⟩
  ·exact absurd bE (by simp)
  ·refine ⟨rfl,bV,cs,rp (rD (aew x _ ne (Pj x _ (by omega) rv))) (by omega),?_,?_⟩
   ·rw [sj] at Jy;omega
   ·have:=congrArg (List.take (way.length*2)) MV;rw [List.take_take,List.flatMap_append] at this;rw [sj,Nat.min_eq_left (by omega)] at this;rw [this,List.take_append_of_le_length (by rw [PQ];exact rX _),tN (by rw [PQ];exact rX _)]
 ·rw [←RN];exact rp (HH _ _) (by omega)
end

end Go.Proofs.YtfakoboiahbhaaaGreat.Ab


namespace Go.Proofs.YtfakoboiahbhaaaGreat.Ab
open Go
def IZ (e:Int×Int) (v:Int):Nat:=(if e.1=v then 1 else 0)+(if e.2=v then 1 else 0)
def qI (b:p3) (S:List Int) (v:Int):Nat:=(S.map fun i=>IZ (ix b.2 i) v).sum
section
variable {b t:p3}
theorem ad2 (p:Int×Int) (v:Int):IZ (ix b.2 p.1) v=(if qz b p=v then 1 else 0)+(if fin b p=v then 1 else 0):=by
 unfold IZ qz fin;by_cases h:0<p.2
 ·rw [if_pos h,if_pos h,Nat.add_comm]
 ·rw [if_neg h,if_neg h]
theorem Ls (v:Int):qI b [] v=0:=rfl
theorem Nl (i:Int) (S:List Int) (v:Int):qI b (i::S) v=IZ (ix b.2 i) v+qI b S v:=by simp [qI]
theorem O_ (S S':List Int) (v:Int):qI b (S++S') v=qI b S v+qI b S' v:=by simp [qI]
theorem O' {S S':List Int} (h:S.Perm S') (v:Int):qI b S v=qI b S' v:=by
 unfold qI;exact (h.map _).sum_nat
theorem Pa {S:List Int} {v:Int}:qI b S v=0↔∀ i∈S,¬ qJ b i v:=by
 induction S with
 | nil=>simp [Ls]
 | cons i S a' =>
   rw [Nl,Nat.add_eq_zero_iff,a'];simp only [sf,forall_eq_or_imp];refine and_congr ?_ Iff.rfl;unfold IZ qJ;split <;> split <;> simp [*]
theorem Jt:∀ (l l':Row) (a:Int),qE b a (l++l')=(qE b a l).bind fun c=>qE b c l'
 | [],_,_=>rfl
 | p::l,l',a=>by
   rw [vk,qE,qE];split
   ·exact Jt l l' _
   ·rfl
theorem J_ {a c:Int} {p:Int×Int}:qE b a [p]=some c↔qz b p=a∧fin b p=c:=by
 rw [qE,qE];split
 ·rename_i h;simp [h]
 ·rename_i h;simp [h]
theorem Ju {a c:Int} {p:Int×Int} {l:Row}:qE b a (p::l)=some c↔qz b p=a∧qE b (fin b p) l=some c:=by
 rw [qE];split
 ·rename_i h;simp [h]
 ·rename_i h;simp [h]
theorem Oe:∀ (l:Row) (a c v:Int),qE b a l=some c→(qI b (l.map (·.1)) v+(if a=v then 1 else 0)+(if c=v then 1 else 0)) % 2=0
 | [],a,c,v,h=>by
   have:a=c:=by simpa [qE] using h
   subst this;rw [uh,Ls];split <;> rfl
 | p::l,a,c,v,h=>by
   obtain ⟨ad,af⟩:=Ju.1 h;have a':=Oe l _ c v af;rw [sE,Nl,ad2,ad];omega
def IQ (t:p3) (p:Int×Int):Prop:=0≤p.1∧p.1<(t.2.length:Int)∧0≤p.2∧p.2≤1
theorem J1 (p:Int×Int) (v:Int):qJ b p.1 v↔qz b p=v∨fin b p=v:=by
 unfold qJ qz fin;split
 ·exact Or.comm
 ·exact Iff.rfl
theorem aef {i:Nat} (hi:i<t.2.length) {v:Int} (h:qJ t i v):∃ p∈places t v,p.1=(i:Int):=by
 rcases h with h | h
 ·exact ⟨((i:Int),0),Kx.2 ⟨by simp only;omega,by simp only;omega,by simp only;omega,by simp only;omega,h⟩,rfl⟩
 ·exact ⟨((i:Int),1),Kx.2 ⟨by simp only;omega,by simp only;omega,by simp only;omega,by simp only;omega,h⟩,rfl⟩
structure HP (t:p3) (s:Int) (L:List Nat) (way out:Row) (a h:Int):Prop where
 iv:∀ x∈L,x<2*t.2.length
 sym:∀ i:Nat,2*i∈L↔2*i+1∈L
 ok:∀ p∈way++out,IQ t p
 Qg:((way++out).map (·.1)).Nodup
 LK:∀ i:Nat,i<t.2.length→(2*i∈L↔(i:Int) ∉ (way++out).map (·.1))
 go:qE t s way=some a
 back:qE t h out.reverse=some s
 PI:∀ p∈out,∀ i:Nat,i<t.2.length→2*i∈L→¬ qJ t i (fin t p)
theorem W_ {p:Int×Int} (h:IQ t p):∃ i:Nat,p.1=(i:Int)∧i<t.2.length∧((p.2=0∧HL p=2*i∧HL (p.1,1-p.2)=2*i+1)∨(p.2=1∧HL p=2*i+1∧HL (p.1,1-p.2)=2*i)):=by
 obtain ⟨ad,af,aG,a7⟩:=h;refine ⟨p.1.toNat,by omega,by omega,?_⟩;unfold HL;simp only;rcases show p.2=0∨p.2=1 by omega with h | h
 ·left;omega
 ·right;omega
theorem ags {L:List Nat} {p:Int×Int} {x:Nat}:x∈Lt L p↔x∈L∧x≠HL p∧x≠HL (p.1,1-p.2):=by
 unfold Lt JE;simp only [sK,decide_eq_true_eq,and_assoc]
theorem Sn {α:Type} (q:α→Bool):∀ (l:List α) (x:α),x∈l→q x=false→(l.filter q).length<l.length
 | [],_,h,_=>by simp at h
 | y::l,x,h,a4=>by
   have hle:=tD q l;rw [tH];rcases sf.1 h with rfl | h
   ·rw [a4];simp only [tA,if_false,sD];omega
   ·have a':=Sn q l x h a4;split <;> simp only [sD] <;> omega
theorem ad_ {L:List Nat} {p:Int×Int} (h:HL p∈L) (af:HL (p.1,1-p.2)∈JE L p):(Lt L p).length+2≤L.length:=by
 have aB:=Sn (fun x=>decide (x≠HL p)) L _ h (by simp);have aH:=Sn (fun x=>decide (x≠HL (p.1,1-p.2))) (JE L p) _ af (by simp);unfold Lt;unfold JE at aB aH ⊢;omega
theorem HP.step {s a h:Int} {L:List Nat} {way out:Row} {p:Int×Int} (ko:HP t s L way out a h) (aC:p∈places t a) (fk:HL p∈L):HP t s (Lt L p) (way++[p]) out (fin t p) h∧HL (p.1,1-p.2)∈JE L p:=by
 have a4:=Kx.1 aC;have bQ:IQ t p:=⟨a4.1,a4.2.1,a4.2.2.1,a4.2.2.2.1⟩;obtain ⟨i,hi,rR,al⟩:=W_ bQ;have RL:2*i∈L:=by
  rcases al with al | al
  ·rw [←al.2.1];exact fk
  ·rw [ko.sym,←al.2.1];exact fk
 have aet:=(ko.sym i).1 RL;have a0:∀ x,x∈Lt L p↔x∈L∧x≠2*i∧x≠2*i+1:=fun x=>by
  rw [ags];rcases al with al | al <;> rw [al.2.1,al.2.2] <;> constructor <;> rintro ⟨ad,af,aG⟩ <;> exact ⟨ad,by omega,by omega⟩
 have aeZ:=(ko.LK i rR).1 RL;have IM:((way++[p]++out).map (·.1)).Perm (p.1::(way++out).map (·.1)):=by
  rw [←sE];refine List.Perm.map _ ?_;rw [sy];exact List.perm_middle
 refine ⟨⟨fun x al=>ko.iv x ((a0 x).1 al).1,fun j=>?_,fun q a4=>?_,?_,fun j aw=>?_,?_,ko.back,fun q a4 j aw aeT=>ko.PI q a4 j aw ((a0 _).1 aeT).1⟩,?_⟩
 ·rw [a0,a0,ko.sym j];constructor <;> rintro ⟨ad,af,aG⟩ <;> exact ⟨ad,by omega,by omega⟩
 ·rcases sQ.1 a4 with a4 | a4
  ·rcases sQ.1 a4 with a4 | a4
   ·exact ko.ok q (uR _ a4)
   ·rw [sI.1 a4];exact bQ
  ·exact ko.ok q (List.mem_append_right _ a4)
 ·rw [IM.nodup_iff,tY];exact ⟨by rw [hi];exact aeZ,ko.Qg⟩
 ·rw [a0,ko.LK j aw,IM.mem_iff,sf,hi];constructor
  ·rintro ⟨ad,af,_⟩ (aG | aG)
   ·omega
   ·exact ad aG
  ·intro ad;refine ⟨fun af=>ad (.inr af),fun e=>ad (.inl (by omega)),by omega⟩
 ·rw [Jt,ko.go];exact J_.2 ⟨a4.2.2.2.2,rfl⟩
 ·unfold JE;rw [sK];rcases al with al | al <;> rw [al.2.1,al.2.2]
  ·exact ⟨aet,by simp⟩
  ·exact ⟨RL,by simp⟩
def PG (t:p3) (L:List Nat):List Int:=(upto t.2.length).filter fun i=>decide (2*i.toNat∈L)
theorem SB {L:List Nat} {x:Int}:x∈PG t L↔∃ i:Nat,i<t.2.length∧x=(i:Int)∧2*i∈L:=by
 unfold PG;rw [sK,Hl,decide_eq_true_eq];constructor
 ·rintro ⟨⟨ad,af⟩,aG⟩;exact ⟨x.toNat,by omega,by omega,aG⟩
 ·rintro ⟨i,ad,rfl,aG⟩;exact ⟨⟨by omega,by omega⟩,by simpa using aG⟩
theorem HP.perm {s a h:Int} {L:List Nat} {way out:Row} (ko:HP t s L way out a h):(upto t.2.length).Perm (PG t L++(way++out).map (·.1)):=by
 refine (uV (MS _) ?_).2 fun x=>?_
 ·rw [uj];refine ⟨(MS _).filter _,ko.Qg,fun x al y a1 e=>?_⟩;subst e;obtain ⟨i,hi,rfl,fk⟩:=SB.1 al;exact (ko.LK i hi).1 fk a1
 ·rw [sQ,SB,Hl];constructor
  ·rintro ⟨ad,af⟩;obtain ⟨i,rfl⟩:∃ i:Nat,x=(i:Int):=⟨x.toNat,by omega⟩;by_cases hm:(i:Int)∈(way++out).map (·.1)
   ·exact .inr hm
   ·exact .inl ⟨i,by omega,rfl,(ko.LK i (by omega)).2 hm⟩
  ·rintro (⟨i,hi,rfl,_⟩ | hm)
   ·omega
   ·obtain ⟨p,aC,rfl⟩:=sq.1 hm;have:=ko.ok p aC;exact ⟨this.1,this.2.1⟩
theorem HP.len {s a h:Int} {L:List Nat} {way out:Row} (ko:HP t s L way out a h):way.length+out.length≤t.2.length:=by
 have:=ko.perm.length_eq;rw [Hw] at this;simp at this;omega
theorem HP.stuck {s a h:Int} {L:List Nat} {way out:Row} (ko:HP t s L way out a h) (aA:∀ v,qI t (upto t.2.length) v % 2=0) (ai:∀ i:Nat,i<t.2.length→2*i∈L→¬ qJ t i a):h=a:=by
 have aT:qI t (PG t L) a=0:=Pa.2 fun x al=>by
  obtain ⟨i,hi,rfl,fk⟩:=SB.1 al;exact ai i hi fk
 have ad:=aA a;rw [O' ko.perm,O_,aT,th,O_] at ad;have af:=Oe _ _ _ a ko.go;have aG:=Oe _ _ _ a ko.back;have a7:qI t (out.reverse.map (·.1)) a=qI t (out.map (·.1)) a:=O' ((vm out).map _) a;rw [a7] at aG;rw [if_pos rfl] at af;by_cases e:h=a
 ·exact e
 ·rw [if_neg e] at aG;omega
theorem HP.pop {s a:Int} {L:List Nat} {way out:Row} {p:Int×Int} (ko:HP t s L (way++[p]) out a a) (ai:∀ i:Nat,i<t.2.length→2*i∈L→¬ qJ t i a):HP t s L way (out++[p]) (qz t p) (qz t p):=by
 have IM:(way++(out++[p])).Perm (way++[p]++out):=by
  rw [sy];exact List.Perm.append_left way vY
 have HJ:=ko.go;rw [Jt] at HJ;obtain ⟨c,ad,af⟩:=qi HJ;obtain ⟨aG,a7⟩:=J_.1 af;refine ⟨ko.iv,ko.sym,fun q a4=>ko.ok q (IM.mem_iff.1 a4),(IM.map _).nodup_iff.2 ko.Qg,fun i hi=>?_,by rw [aG];exact ad,?_,fun q a4 i hi fk=>?_⟩
 ·rw [ko.LK i hi,(IM.map (·.1)).mem_iff]
 ·rw [List.reverse_append];exact Ju.2 ⟨rfl,by rw [a7];exact ko.back⟩
 ·rcases sQ.1 a4 with a4 | a4
  ·exact ko.PI q a4 i hi fk
  ·rw [sI.1 a4,a7];exact ai i hi fk
theorem St (aA:∀ v,qI t (upto t.2.length) v % 2=0) (aN:t.2.length≤1000) {s:Int}:∀ (m:Nat) (L:List Nat) (way out:Row) (a h:Int),HP t s L way out a h→L.length+way.length<m →
  ∃ iu HD,ML t m L way out a=some HD∧HP t s iu [] HD s s∧∀ i:Nat,i<t.2.length→2*i∈iu→¬ qJ t i s
 | 0,_,_,_,_,_,_,hm=>absurd hm (by omega)
 | m+1,L,way,out,a,h,ko,hm=>by
   have hlen:=ko.len;rw [ML,qb ⟨by omega,by omega⟩];cases aQ:(places t a).find? (PA L) with
   | some p =>
     have aC:=List.mem_of_find?_eq_some aQ;(have fk:HL p∈L:=by simpa [PA] using List.find?_some aQ);obtain ⟨ad,af⟩:=ko.step aC fk;have aG:=ad_ fk af;show ∃ iu HD,p2 (HL (p.1,1-p.2)∈JE L p) _=some HD∧_;rw [qb af];exact St aA aN m _ _ _ _ _ ad (by simp only [sj,tF];omega)
   | none =>
     have ai:∀ i:Nat,i<t.2.length→2*i∈L→¬ qJ t i a:=fun i hi fk kt=>by
      obtain ⟨p,aC,e⟩:=aef hi kt;have a4:=Kx.1 aC;obtain ⟨j,aw,_,al⟩:=W_ (t:=t) (p:=p) ⟨a4.1,a4.2.1,a4.2.2.1,a4.2.2.2.1⟩;(have gZ:i=j:=by omega);subst gZ;have fX:=List.find?_eq_none.1 aQ p aC;refine fX ?_;simp only [PA,decide_eq_true_eq];rcases al with al | al
      ·rw [al.2.1];exact fk
      ·rw [al.2.1];exact (ko.sym i).1 fk
     have aeE:=ko.stuck aA ai;subst aeE;rcases aij way with rfl | ⟨ajG,p,rfl⟩
     ·show ∃ iu HD,some out=some HD∧_;(have e:s=h:=by simpa [qE] using ko.go);subst e;exact ⟨L,out,rfl,ko,ai⟩
     ·rw [List.getLast?_concat];have bQ:=ko.ok p (by simp);show ∃ iu HD,p2 (0≤p.1∧p.1<(t.2.length:Int)) (ML t m L (ajG++[p]).dropLast (out++[p]) (qz t p))=some HD∧_;rw [qb ⟨bQ.1,bQ.2.1⟩,List.dropLast_concat];exact St aA aN m _ _ _ _ _ (ko.pop ai) (by simp only [sj,tF] at hm;omega)
structure Full (t:p3) (l:Row):Prop where
 ok:∀ p∈l,IQ t p
 Hr:(l.map (·.1)).Nodup
 all:∀ i:Nat,i<t.2.length→(i:Int)∈l.map (·.1)
theorem HP.all {s:Int} {L:List Nat} {out:Row} (ko:HP t s L [] out s s) (ai:∀ i:Nat,i<t.2.length→2*i∈L→¬ qJ t i s) (ao:∀ i:Nat,i<t.2.length→∃ v,qJ t i v∧q8 t (upto t.2.length) s v):∀ i:Nat,i<t.2.length→(i:Int)∈out.map (·.1):=by
 have aeJ:∀ (l:Row) (a c:Int),qE t a l=some c→∀ p∈l,qz t p=a∨∃ q∈l,fin t q=qz t p:=by
  intro l
  induction l with
  | nil=>intro a c _ p aC;simp at aC
  | cons q l a' =>
    intro a c h p aC;obtain ⟨ad,af⟩:=Ju.1 h;rcases sf.1 aC with rfl | aC
    ·exact .inl ad
    ·rcases a' _ c af p aC with aG | ⟨fO,CW,aG⟩
     ·exact .inr ⟨q,by simp,aG.symm⟩
     ·exact .inr ⟨fO,by simp [CW],aG⟩
 have key:∀ v,q8 t (upto t.2.length) s v→∀ i:Nat,i<t.2.length→2*i∈L→¬ qJ t i v:=fun v ae=>by
  induction ae with
  | refl=>exact ai
  | step j _ aw aB aH a' =>
    rename_i g F9;have ee:=Hl.1 aw;obtain ⟨k,rfl⟩:∃ k:Nat,j=(k:Int):=⟨j.toNat,by omega⟩;(have av:k<t.2.length:=by omega);have l0:2*k ∉ L:=fun h=>a' k av h aB;have hm:(k:Int)∈out.map (·.1):=Classical.byContradiction fun aN=>l0 ((ko.LK k av).2 (by simpa using aN));obtain ⟨p,aC,e⟩:=sq.1 hm;rw [←e] at aH;rcases (J1 p _).1 aH with h | h
    ·rcases aeJ _ _ _ ko.back p (v9.2 aC) with aY | ⟨q,a4,aY⟩
     ·rw [←h,aY];exact ai
     ·intro i hi fk;rw [←h,←aY];exact ko.PI q (v9.1 a4) i hi fk
    ·intro i hi fk;rw [←h];exact ko.PI p aC i hi fk
 intro i hi;refine Classical.byContradiction fun aN=>?_;obtain ⟨v,ad,af⟩:=ao i hi;exact key v af i hi ((ko.LK i hi).2 (by simpa using aN)) ad
theorem ajP (aA:∀ v,qI t (upto t.2.length) v % 2=0) (aN:t.2.length≤1000) (aT:0<t.2.length) (ao:∀ i:Nat,i<t.2.length→∃ v,qJ t i v∧q8 t (upto t.2.length) (ix t.2 0).1 v) :
  ∃ l,Qq t=some l∧Full t l∧qE t (ix t.2 0).1 l=some (ix t.2 0).1:=by
 have ko:HP t (ix t.2 0).1 (List.range (2*t.2.length)) [] [] (ix t.2 0).1 (ix t.2 0).1:=by
  refine ⟨fun x al=>sx.1 al,fun i=>?_,fun p aC=>absurd aC (by simp),by simp,fun i hi=>?_,rfl,rfl,fun p aC=>absurd aC (by simp)⟩
  ·rw [sx,sx];omega
  ·rw [sx];simp;omega
 obtain ⟨L,out,ad,af,aG⟩:=St aA aN p6 _ _ _ _ _ ko (rq (by simp;omega));have c':=af.all aG ao;have hlen:=af.len;have bO:out.length≠0:=fun e=>by
  have:=c' 0 aT;rw [tn.1 e] at this;simp at this
 refine ⟨out.reverse,?_,⟨fun p aC=>af.ok p (by simpa using aC),?_,fun i hi=>?_⟩,af.back⟩
 ·rw [Qq,qb ⟨aT,aN⟩,ad,rW,qb ⟨bO,by omega⟩]
 ·exact ((vm out).map _).nodup_iff.2 (by simpa using af.Qg)
 ·exact ((vm out).map (·.1)).mem_iff.2 (c' i hi)
end
end Go.Proofs.YtfakoboiahbhaaaGreat.Ab


namespace Go.Proofs.YtfakoboiahbhaaaGreat.Ab
open Go
set_option maxRecDepth 20000
set_option maxHeartbeats 4000000
noncomputable def Q2:ez :=
 .loop (some (EA false [0,1,4,1,5,3,52])) (GC [gO 14 [.sl 13,.sl 12] (.bin .lss)] (.seq (.cond (.sl 14) .skip (.exit 0)) (.seq (.block 1 (GC [gO 15 [.sl 11,.sl 13] (.pQ 1),Gm 16 15,Gq 7 16] (GC [Gp 17 0,gO 18 [.hM 17] .zC,F7 19 18 0,F7 20 19 1,Gm 21 20,Gp 22 7,Gi 23 21 22 2,F7 24 23 0,Gm 25 24,gO 26 [.sl 5,.sl 25] (.y4 6 1),Gm 27 26,F0 28 27 1,gO 29 [.sl 5,.hM 25] (.y4 6 1),⟨none,[.hJ 29,.hJ 28],none,none,.st 1⟩] (Gt [Gp 30 0,gO 31 [.hM 30] .zC,F7 32 31 0,F7 33 32 1,Gm 34 33,Gq 35 7,Gi 36 34 35 2,F7 37 36 1,Gm 38 37,gO 39 [.sl 5,.sl 38] (.y4 6 1),Gm 40 39,F0 41 40 1,gO 42 [.sl 5,.hM 38] (.y4 6 1),⟨none,[.hJ 42,.hJ 41],none,none,.st 1⟩])))) (Gt [F0 43 13 1,Gq 13 43]))))
noncomputable def Q3:ez :=
 .loop (some (EA false [8, 1, 38, 2, 17])) (GC [gO 49 [.sl 48, .iD (.int .i64 6)] (.bin .lss)] (.seq (.cond (.sl 49) .skip (.exit 2)) (.seq (.block 3 (GC [Gp 50 48, gO 51 [.sl 47, .sl 48] (.other (Oper.mk (some 51) (Op.index 101 (Operand.tmp 47) (Operand.tmp 48)) 3 "table.go:64" (Array.mk []) none) 0), Gq 9 50, Gq 10 51] (GC [Gq 52 10, F1 53 52 2 .rem, F1 54 53 1 .eql] (.cond (.sl 54) (Gt [Gp 55 8, Gp 56 8, Gl 57 56, Gq 58 8, Gl 59 58, gO 60 [.hJ 55, .hJ 57, .hJ 59] (.AY 1 false true true), Gq 61 9, gO 62 [.hM 61] (.ya 1 1 [.int .i64 0] [0]), gO 63 [.hJ 60, .hJ 62] (.app 1 8), Gq 8 63]) .skip)))) (Gt [F0 64 48 1, Gq 48 64]))))
noncomputable def aby:ez :=
 GC [gO 4 [.iD (.ay [] 0 .full)] (.nil 1)] (GC [gO 5 [] (.alloc [.int .i64 0, .int .i64 0, .int .i64 0, .int .i64 0, .int .i64 0, .int .i64 0])] (.seq (GC [Gq 11 1, gO 12 [.sl 11] .w_, Gn 13 0] (.block 0 Q2)) (.seq (GC [gO 44 [.sl 5] (.w8 (.arr 6)), gO 45 [] (.build [.int .i64 0, .int .i64 0, .int .i64 0, .int .i64 0, .int .i64 0, .int .i64 0] []), gO 46 [.hM 44, .hM 45] (.other (Oper.mk (some 46) (Op.binOp .eql 101 (Operand.tmp 44) (Operand.tmp 45) 101) 4 "table.go:60" (Array.mk [Edge.mk 0 Ground.data, Edge.mk 1 Ground.data]) none) 0)] (.cond (.sl 46) (GC [gO 4 [.iD (.ay [] 0 .full)] (.nil 1)] .ret) .skip)) (GC [gO 8 [.iD (.ay [] 0 .full)] (.nil 1)] (.seq (GC [gO 47 [.hM 5] (.w8 (.arr 6)), Gn 48 0] (.block 2 Q3)) (GC [Gq 65 8, Gq 4 65] .ret))))))
theorem aga:zg Tryz.prog O3 76=some (aby,66,[.tmp 4]):=by kernel_rfl
def Me (t:p8) (p':p0) (p4:p0→Option p0):Nat→Int→p0→Option p0
 | 0,_,_=>none
 | m+1,s1,s2 =>
   if (decide (s1<(p'.length:Int)))=true then
    p2 (0≤s1∧s1<(p'.length:Int)) <|
    p2 (0≤(ix p' s1)∧(ix p' s1)<(t.2.length:Int)) <|
    p2 (0≤(ix t.2 (ix p' s1)).1∧(ix t.2 (ix p' s1)).1<(6:Int)∧6=s2.length) <|
    p2 (0≤(ix t.2 (ix p' s1)).1∧(ix t.2 (ix p' s1)).1<(6:Int)∧6=s2.length) <|
    p2 (0≤(ix p' s1)∧(ix p' s1)<(t.2.length:Int)) <|
    p2 (0≤(ix t.2 (ix p' s1)).2∧(ix t.2 (ix p' s1)).2<(6:Int)∧6=(s2.set ((ix t.2 (ix p' s1)).1).toNat (w ((ix s2 ((ix t.2 (ix p' s1)).1))+(1:Int)))).length) <|
    p2 (0≤(ix t.2 (ix p' s1)).2∧(ix t.2 (ix p' s1)).2<(6:Int)∧6=(s2.set ((ix t.2 (ix p' s1)).1).toNat (w ((ix s2 ((ix t.2 (ix p' s1)).1))+(1:Int)))).length) <|
    Me t p' p4 m (w (s1+(1:Int))) ((s2.set ((ix t.2 (ix p' s1)).1).toNat (w ((ix s2 ((ix t.2 (ix p' s1)).1))+(1:Int)))).set ((ix t.2 (ix p' s1)).2).toNat (w ((ix (s2.set ((ix t.2 (ix p' s1)).1).toNat (w ((ix s2 ((ix t.2 (ix p' s1)).1))+(1:Int)))) ((ix t.2 (ix p' s1)).2))+(1:Int))))
   else
    p4 s2
def Kg (x0:p0) (qn:p0→Option p0):Nat→p0→Int→Option p0
 | 0,_,_=>none
 | m+1,s3,Gz =>
   if (decide (Gz<(6:Int)))=true then
    p2 (0≤Gz∧Gz<(6:Int)∧x0.length=6) <|
    p2 ((2:Int)≠0) <|
    if (decide (((ix x0 Gz).tmod (2:Int))=(1:Int)))=true then
     p2 ((s3.length:Int)=(s3.length:Int)∧0≤(s3.length:Int)∧(s3.length:Int)≤(s3.length:Int)) <|
     p2 (((s3.take (s3.length:Int).toNat).length+1)*8≤140737488355328) <|
     Kg x0 qn m ((s3.take (s3.length:Int).toNat)++[Gz]) (w (Gz+(1:Int)))
    else
     Kg x0 qn m s3 (w (Gz+(1:Int)))
   else
    qn s3
def Md (t:p8) (p':p0):Option p0 :=
 Me t p' (fun x0 =>
   p2 (x0.length=6) <|
   p2 (x0.length=6) <|
   if (decide (x0=[(0:Int),(0:Int),(0:Int),(0:Int),(0:Int),(0:Int)]))=true then
    some []
   else
    p2 (x0.length=6) <|
    Kg x0 (fun oq =>
      some oq) p6 ([]:List Int) (0:Int)) p6 (0:Int) (List.replicate 6 (0:Int))
theorem akX {t:p8} {p':p0} {p4:p0→Option p0} {s1:Int} {s2:p0} {v:p0} {Q:rm}   (qY:∀ (x0:p0) (p9:List I),p4 x0=some v→qV 66 [(5,(.ptr 0 0))] p9→Q (.exit 0) p9 [au.cells (x0.map hS)]) {T:List I} (bZ:eS (EA false [0,1,4,1,5,3,52]) T=GH 66 [(0,(.bW [(hS t.1),(qf t.2 .shared)])),(5,(.ptr 0 0)),(11,(qj p' .shared)),(12,(hS (p'.length:Int))),(13,(hS s1))]) (h:Me t p' p4 p6 s1 s2=some v) :
  dC Tryz.prog O3 76 0 none Q2 T [au.cells (s2.map hS)] Q:=by
 unfold Q2;refine wp_loop bZ ?_;refine .intro (fun m T H=>∃ (s1:Int) (s2:p0),T=GH 66 [(0,(.bW [(hS t.1),(qf t.2 .shared)])),(5,(.ptr 0 0)),(11,(qj p' .shared)),(12,(hS (p'.length:Int))),(13,(hS s1))]∧H=[au.cells (s2.map hS)]∧Me t p' p4 m s1 s2=some v) p6 ⟨s1,s2,rfl,rfl,h⟩ ?_;clear h bZ;rintro m T H ⟨s1,s2,rfl,rfl,h⟩;cases m
 ·exact q4 h
 rename_i m;rw [Me.eq_2] at h;conv=>whnf
 refine bs h (fun eV h=>?_) fun eV h=>?_
 ·rw [eV];conv=>whnf
  refine qy h id fun fl h=>?_;rw [Ht hS p' s1 fl];conv=>whnf
  refine qy h id fun qo h=>?_;rw [qR p7 2 qK t.2 (ix p' s1) qo];conv=>whnf
  obtain ⟨qC,h⟩:=qw h;refine ⟨⟨qC.1,qC.2.1⟩,?_⟩;replace qC:0≤(ix t.2 (ix p' s1)).1∧(ix t.2 (ix p' s1)).1<(s2.length:Int):=⟨qC.1,by have:=qC.2;omega⟩;conv=>whnf
  refine Js hS s2 ((ix t.2 (ix p' s1)).1) qC ?_;conv=>whnf
  obtain ⟨qG,h⟩:=qw h;refine ⟨⟨qG.1,qG.2.1⟩,?_⟩;replace qG:0≤(ix t.2 (ix p' s1)).1∧(ix t.2 (ix p' s1)).1<(s2.length:Int):=⟨qG.1,by have:=qG.2;omega⟩;conv=>whnf
  refine Jx hS s2 ((ix t.2 (ix p' s1)).1) (w ((ix s2 ((ix t.2 (ix p' s1)).1))+(1:Int))) qG ?_;conv=>whnf
  refine qy h id fun qZ h=>?_;rw [qR p7 2 qK t.2 (ix p' s1) qZ];conv=>whnf
  obtain ⟨qT,h⟩:=qw h;refine ⟨⟨qT.1,qT.2.1⟩,?_⟩;replace qT:0≤(ix t.2 (ix p' s1)).2∧(ix t.2 (ix p' s1)).2<((s2.set ((ix t.2 (ix p' s1)).1).toNat (w ((ix s2 ((ix t.2 (ix p' s1)).1))+(1:Int)))).length:Int):=⟨qT.1,by have:=qT.2;omega⟩;conv=>whnf
  refine Js hS (s2.set ((ix t.2 (ix p' s1)).1).toNat (w ((ix s2 ((ix t.2 (ix p' s1)).1))+(1:Int)))) ((ix t.2 (ix p' s1)).2) qT ?_;conv=>whnf
  obtain ⟨qO,h⟩:=qw h;refine ⟨⟨qO.1,qO.2.1⟩,?_⟩;replace qO:0≤(ix t.2 (ix p' s1)).2∧(ix t.2 (ix p' s1)).2<((s2.set ((ix t.2 (ix p' s1)).1).toNat (w ((ix s2 ((ix t.2 (ix p' s1)).1))+(1:Int)))).length:Int):=⟨qO.1,by have:=qO.2;omega⟩;conv=>whnf
  refine Jx hS (s2.set ((ix t.2 (ix p' s1)).1).toNat (w ((ix s2 ((ix t.2 (ix p' s1)).1))+(1:Int)))) ((ix t.2 (ix p' s1)).2) (w ((ix (s2.set ((ix t.2 (ix p' s1)).1).toNat (w ((ix s2 ((ix t.2 (ix p' s1)).1))+(1:Int)))) ((ix t.2 (ix p' s1)).2))+(1:Int))) qO ?_;conv=>whnf
  exact ⟨m,su m,(w (s1+(1:Int))),((s2.set ((ix t.2 (ix p' s1)).1).toNat (w ((ix s2 ((ix t.2 (ix p' s1)).1))+(1:Int)))).set ((ix t.2 (ix p' s1)).2).toNat (w ((ix (s2.set ((ix t.2 (ix p' s1)).1).toNat (w ((ix s2 ((ix t.2 (ix p' s1)).1))+(1:Int)))) ((ix t.2 (ix p' s1)).2))+(1:Int)))),rfl,rfl,h⟩
 ·rw [eV];conv=>whnf
  exact qY _ _ h ⟨rfl,rfl⟩
theorem akY {x0:p0} {qn:p0→Option p0} {s3:p0} {Gz:Int} {v:p0} {Q:rm} {bC:au}  (HT:∀ (oq:p0) (p9:List I),qn oq=some v→qV 66 [(8,(qj oq (.uniq 1)))] p9→Q (.exit 2) p9 [bC]) {T:List I} (bZ:eS (EA false [8,1,38,2,17]) T=GH 66 [(8,(qj s3 (.uniq 1))),(47,(.agg ((x0.map hS)))),(48,(hS Gz))]) (h:Kg x0 qn p6 s3 Gz=some v) :
  dC Tryz.prog O3 76 0 none Q3 T [bC] Q:=by
 unfold Q3;refine wp_loop bZ ?_;refine .intro (fun m T H=>∃ (s3:p0) (Gz:Int),T=GH 66 [(8,(qj s3 (.uniq 1))),(47,(.agg ((x0.map hS)))),(48,(hS Gz))]∧H=[bC]∧Kg x0 qn m s3 Gz=some v) p6 ⟨s3,Gz,rfl,rfl,h⟩ ?_;clear h bZ;rintro m T H ⟨s3,Gz,rfl,rfl,h⟩;cases m
 ·exact q4 h
 rename_i m;rw [Kg.eq_2] at h;conv=>whnf
 refine bs h (fun rB h=>?_) fun rB h=>?_
 ·rw [rB];conv=>whnf
  obtain ⟨Hk,h⟩:=qw h;refine ⟨_,_,fun C=>agF rfl (ab2 (e:=3) (len:=6) (kd:=.i64) (by kernel_rfl) (by kernel_rfl) (by kernel_rfl) (by kernel_rfl) Hk.2.2 ⟨Hk.1,Hk.2.1⟩),?_⟩;conv=>whnf
  refine qy h id fun JJ h=>?_;conv=>whnf
  refine bs h (fun HI h=>?_) fun HI h=>?_
  ·rw [HI];(conv=>whnf);refine qy h id fun I2 h=>?_;erw [YQ hS s3 (s3.length:Int) I2.2];(conv=>whnf);obtain ⟨rS,h⟩:=qw h;refine ⟨by first | rfl | simp,by have:=rS;omega,by decide,rS,by first | rfl | simp,?_⟩
   erw [JB hS (s3.take (s3.length:Int).toNat) Gz];(conv=>whnf);exact ⟨m,su m,((s3.take (s3.length:Int).toNat)++[Gz]),(w (Gz+(1:Int))),rfl,rfl,h⟩
  ·rw [HI];(conv=>whnf);exact ⟨m,su m,s3,(w (Gz+(1:Int))),rfl,rfl,h⟩
 ·rw [rB];conv=>whnf
  exact HT _ _ h ⟨rfl,rfl⟩
theorem akZ {t:p8} {p':p0} {v:p0} (h:Md t p'=some v):qt 76 [(.bW [(hS t.1),(.ay (t.2.flatMap p7) t.2.length .shared)]),(.ay (p'.map hS) p'.length .shared)] (.ay (v.map hS) v.length .shared):=by
 refine qN dI aga rfl (rz (fun _=>rfl) _ _ _) fun Q bn=>?_;have jz:qD [.tmp 4] Q (fun v=>(qj v .shared)) v:=fun T H bK=>bn _ T H bK;unfold Md at h;unfold aby;obtain ⟨Hy,qB⟩:∃ c,Q2=c:=⟨_,rfl⟩;rw [qB];obtain ⟨Ko,rT⟩:∃ c,Q3=c:=⟨_,rfl⟩;rw [rT];conv=>whnf
 subst qB;refine akX ?_ (by exact rfl) h;intro x0 p9 h qs;obtain ⟨ru,rfl⟩:=qs.ex;conv=>whnf
 obtain ⟨q5,h⟩:=qw h;refine ⟨by simp [q5],?_⟩;rw [Sm hS x0 (fun _=>rfl) q5];conv=>whnf
 obtain ⟨q2,h⟩:=qw h;refine ⟨_,_,fun C=>agD rfl rfl (ab1 .i64 (e:=3) (len:=6) (kd:=.i64) (xs:=x0) (ys:=[(0:Int),(0:Int),(0:Int),(0:Int),(0:Int),(0:Int)]) (by kernel_rfl) (by kernel_rfl) (by kernel_rfl) (by kernel_rfl) q2 rfl),?_⟩;conv=>whnf
 refine bs h (fun rM h=>?_) fun rM h=>?_
 ·rw [rM];conv=>whnf
  exact qd h jz rfl rfl
 ·rw [rM];conv=>whnf
  obtain ⟨ry,h⟩:=qw h;refine ⟨by simp [ry],?_⟩;rw [Sm hS x0 (fun _=>rfl) ry];conv=>whnf
  subst rT;refine akY ?_ (by exact rfl) h;intro oq p9 h qs;obtain ⟨ru,rfl⟩:=qs.ex;conv=>whnf
  exact qd h jz rfl rfl

noncomputable def QW:ez :=
 .loop (some (EA false [1,1,1,2,33])) (.seq (GC [Gp 8 4,gO 9 [.sl 1] (.oT 1),Gm 10 9,Gl 11 10,F2 12 8 11 .lss] (.cond (.sl 12) .skip (.exit 0))) (.seq (.block 1 (GC [Gp 15 3,gO 16 [.sl 1] (.oT 1),Gm 17 16,Gp 18 4,Gi 19 17 18 2,F7 20 19 0,Gm 21 20,gO 22 [.sl 15,.sl 21] (.pQ 1),Gm 23 22,F0 24 23 1,Gi 25 15 21 1,⟨none,[.hJ 25,.hJ 24],none,none,.st 1⟩] (Gt [Gp 26 3,gO 27 [.sl 1] (.oT 1),Gm 28 27,Gp 29 4,Gi 30 28 29 2,F7 31 30 1,Gm 32 31,gO 33 [.sl 26,.sl 32] (.pQ 1),Gm 34 33,F0 35 34 1,Gi 36 26 32 1,⟨none,[.hJ 36,.hJ 35],none,none,.st 1⟩]))) (Gt [Gq 13 4,F0 14 13 1,Gq 4 14])))
noncomputable def abl:ez :=
 GC [gO 1 [.hJ 0] .box,gO 2 [.iD (.ay [] 0 .full)] (.nil 1)] (GC [gO 5 [.sl 1] (.oT 0),Gm 6 5,gO 7 [.sl 6,.hM 6] (.zz [.int .i64 0] 1 8),Gq 3 7] (.seq (GC [Gn 4 0] (.block 0 QW)) (GC [Gq 37 3,Gq 2 37] .ret)))
theorem afZ:zg Tryz.prog Rm 55=some (abl,38,[.tmp 2]):=by kernel_rfl
def L' (b:p8) (p4:p0→Option p0):Nat→Int→p0→Option p0
 | 0,_,_=>none
 | m+1,s1,s2 =>
   if (decide (s1<(b.2.length:Int)))=true then
    p2 (0≤s1∧s1<(b.2.length:Int)) <|
    p2 (0≤(ix b.2 s1).1∧(ix b.2 s1).1<((b.1.toNat:Nat):Int)∧b.1.toNat=s2.length) <|
    p2 (0≤(ix b.2 s1).1∧(ix b.2 s1).1<((b.1.toNat:Nat):Int)∧b.1.toNat=s2.length) <|
    p2 (0≤s1∧s1<(b.2.length:Int)) <|
    p2 (0≤(ix b.2 s1).2∧(ix b.2 s1).2<((b.1.toNat:Nat):Int)∧b.1.toNat=(s2.set ((ix b.2 s1).1).toNat (w ((ix s2 ((ix b.2 s1).1))+(1:Int)))).length) <|
    p2 (0≤(ix b.2 s1).2∧(ix b.2 s1).2<((b.1.toNat:Nat):Int)∧b.1.toNat=(s2.set ((ix b.2 s1).1).toNat (w ((ix s2 ((ix b.2 s1).1))+(1:Int)))).length) <|
    L' b p4 m (w (s1+(1:Int))) ((s2.set ((ix b.2 s1).1).toNat (w ((ix s2 ((ix b.2 s1).1))+(1:Int)))).set ((ix b.2 s1).2).toNat (w ((ix (s2.set ((ix b.2 s1).1).toNat (w ((ix s2 ((ix b.2 s1).1))+(1:Int)))) ((ix b.2 s1).2))+(1:Int))))
   else
    p4 s2
def M1 (b:p8):Option p0 :=
 p2 (0≤b.1∧b.1≤b.1∧b.1.toNat*8≤140737488355328) <|
 L' b (fun x0 =>
   p2 (b.1.toNat=x0.length) <|
   some x0) p6 (0:Int) (List.replicate b.1.toNat (0:Int))
theorem akM {b:p8} {p4:p0→Option p0} {s1:Int} {s2:p0} {v:p0} {Q:rm}   (qY:∀ (x0:p0) (bC:au) (p9:List I),p4 x0=some v→qV 38 [(3,(.ref 1 0 b.1.toNat (some b.1.toNat) 1))] p9→Q (.exit 0) p9 [bC,au.cells (x0.map hS)]) {T:List I} (bZ:eS (EA false [1,1,1,2,33]) T=GH 38 [(1,(.ptr 0 0)),(3,(.ref 1 0 b.1.toNat (some b.1.toNat) 1)),(4,(hS s1))]) (h:L' b p4 p6 s1 s2=some v) :
  dC Tryz.prog Rm 55 0 none QW T [qg b,au.cells (s2.map hS)] Q:=by
 unfold QW;refine wp_loop bZ ?_;refine .intro (fun m T H=>∃ (s1:Int) (s2:p0),T=GH 38 [(1,(.ptr 0 0)),(3,(.ref 1 0 b.1.toNat (some b.1.toNat) 1)),(4,(hS s1))]∧H=[qg b,au.cells (s2.map hS)]∧L' b p4 m s1 s2=some v) p6 ⟨s1,s2,rfl,rfl,h⟩ ?_;clear h bZ;rintro m T H ⟨s1,s2,rfl,rfl,h⟩;cases m
 ·exact q4 h
 rename_i m;rw [L'.eq_2] at h;conv=>whnf
 refine bs h (fun fl h=>?_) fun fl h=>?_
 ·rw [fl];conv=>whnf
  refine qy h id fun qo h=>?_;rw [qR p7 2 qK b.2 s1 qo];conv=>whnf
  obtain ⟨qC,h⟩:=qw h;refine ⟨⟨qC.1,qC.2.1⟩,?_⟩;replace qC:0≤(ix b.2 s1).1∧(ix b.2 s1).1<(s2.length:Int):=⟨qC.1,by have:=qC.2;omega⟩;conv=>whnf
  refine Js hS s2 ((ix b.2 s1).1) qC ?_;conv=>whnf
  obtain ⟨qG,h⟩:=qw h;refine ⟨⟨qG.1,qG.2.1⟩,?_⟩;replace qG:0≤(ix b.2 s1).1∧(ix b.2 s1).1<(s2.length:Int):=⟨qG.1,by have:=qG.2;omega⟩;conv=>whnf
  refine Jx hS s2 ((ix b.2 s1).1) (w ((ix s2 ((ix b.2 s1).1))+(1:Int))) qG ?_;conv=>whnf
  refine qy h id fun qZ h=>?_;rw [qR p7 2 qK b.2 s1 qZ];conv=>whnf
  obtain ⟨qT,h⟩:=qw h;refine ⟨⟨qT.1,qT.2.1⟩,?_⟩;replace qT:0≤(ix b.2 s1).2∧(ix b.2 s1).2<((s2.set ((ix b.2 s1).1).toNat (w ((ix s2 ((ix b.2 s1).1))+(1:Int)))).length:Int):=⟨qT.1,by have:=qT.2;omega⟩;conv=>whnf
  refine Js hS (s2.set ((ix b.2 s1).1).toNat (w ((ix s2 ((ix b.2 s1).1))+(1:Int)))) ((ix b.2 s1).2) qT ?_;conv=>whnf
  obtain ⟨qO,h⟩:=qw h;refine ⟨⟨qO.1,qO.2.1⟩,?_⟩;replace qO:0≤(ix b.2 s1).2∧(ix b.2 s1).2<((s2.set ((ix b.2 s1).1).toNat (w ((ix s2 ((ix b.2 s1).1))+(1:Int)))).length:Int):=⟨qO.1,by have:=qO.2;omega⟩;conv=>whnf
  refine Jx hS (s2.set ((ix b.2 s1).1).toNat (w ((ix s2 ((ix b.2 s1).1))+(1:Int)))) ((ix b.2 s1).2) (w ((ix (s2.set ((ix b.2 s1).1).toNat (w ((ix s2 ((ix b.2 s1).1))+(1:Int)))) ((ix b.2 s1).2))+(1:Int))) qO ?_;conv=>whnf
  exact ⟨m,su m,(w (s1+(1:Int))),((s2.set ((ix b.2 s1).1).toNat (w ((ix s2 ((ix b.2 s1).1))+(1:Int)))).set ((ix b.2 s1).2).toNat (w ((ix (s2.set ((ix b.2 s1).1).toNat (w ((ix s2 ((ix b.2 s1).1))+(1:Int)))) ((ix b.2 s1).2))+(1:Int)))),rfl,rfl,h⟩
 ·rw [fl];conv=>whnf
  exact qY _ _ _ h ⟨rfl,rfl⟩
theorem akN {b:p8} {v:p0} (h:M1 b=some v):qt 55 [(.agg [(hS b.1),(.ay (b.2.flatMap p7) b.2.length .shared)])] (.ay (v.map hS) v.length .shared):=by
 refine qN dI afZ rfl (rz (fun _=>rfl) _ _ _) fun Q bn=>?_;have jz:qD [.tmp 2] Q (fun v=>(qj v .shared)) v:=fun T H bK=>bn _ T H bK;unfold M1 at h;unfold abl;obtain ⟨Hy,qB⟩:∃ c,QW=c:=⟨_,rfl⟩;rw [qB];conv=>whnf
 obtain ⟨eV,h⟩:=qw h;refine ⟨eV.1,eV.2.1,eV.2.2,?_⟩;rw [Ud hS (0:Int)];conv=>whnf
 subst qB;refine akM ?_ (by exact rfl) h;intro x0 bC p9 h qs;obtain ⟨ru,rfl⟩:=qs.ex;conv=>whnf
 obtain ⟨q5,h⟩:=qw h;obtain rfl:=Option.some.inj h;exact jz _ _ ⟨.inr rfl,_,rfl,_,(WD (f:=hS) (l:=x0) (by first | exact qL.h | rfl | (simp [List.getElem?_append,I.settle];done)) q5 (fun _=>rfl) (fun _=>rfl)),by rw [ajH,q5]⟩

noncomputable def Q5:ez :=
 .loop (some (EA false [3,3,19])) (.seq (GC [Gp 8 5,Gp 9 4,Gl 10 9,F2 11 8 10 .lss] (.cond (.sl 11) .skip (.exit 0))) (.seq (.block 1 (GC [Gp 14 4,Gp 15 5,Gi 16 14 15 1,Gm 17 16,F1 18 17 2 .rem,F1 19 18 1 .eql] (.cond (.sl 19) (Gt [Gq 20 3,Gp 21 5,gO 22 [.hM 21] (.ya 1 1 [.int .i64 0] [0]),gO 23 [.hJ 20,.hJ 22] (.app 1 8),Gq 3 23]) .skip))) (Gt [Gq 12 5,F0 13 12 1,Gq 5 13])))
noncomputable def abA:ez :=
 GC [gO 1 [.hJ 0] .box,gO 2 [.iD (.ay [] 0 .full)] (.nil 1)] (GC [gO 3 [.iD (.ay [] 0 .full)] (.nil 1)] (GC [gO 6 [.hM 1] (.w8 (.str 2)),gO 7 [.iD (.func 55 [] []),.sl 6] (.call 3),Gq 4 7] (.seq (GC [Gn 5 0] (.block 0 Q5)) (GC [Gq 24 3,Gq 2 24] .ret))))
theorem agc:zg Tryz.prog Rq 78=some (abA,25,[.tmp 2]):=by kernel_rfl
def Lm (aS:p0) (p4:p0→Option p0):Nat→p0→Int→Option p0
 | 0,_,_=>none
 | m+1,s1,s2 =>
   if (decide (s2<(aS.length:Int)))=true then
    p2 (0≤s2∧s2<(aS.length:Int)) <|
    p2 ((2:Int)≠0) <|
    if (decide (((ix aS s2).tmod (2:Int))=(1:Int)))=true then
     p2 ((s1.length+1)*8≤140737488355328) <|
     Lm aS p4 m (s1++[s2]) (w (s2+(1:Int)))
    else
     Lm aS p4 m s1 (w (s2+(1:Int)))
   else
    p4 s1
def Ll (b:p8):Option p0 :=
 (M1 b).bind fun aS =>
 Lm aS (fun x0 =>
   some x0) p6 ([]:List Int) (0:Int)
theorem ak2 {aS:p0} {p4:p0→Option p0} {s1:p0} {s2:Int} {v:p0} {Q:rm} {bC:au}  (qY:∀ (x0:p0) (p9:List I),p4 x0=some v→qV 25 [(3,(qj x0 (.uniq 1)))] p9→Q (.exit 0) p9 [bC]) {T:List I} (bZ:eS (EA false [3,3,19]) T=GH 25 [(3,(qj s1 (.uniq 1))),(4,(qj aS .shared)),(5,(hS s2))]) (h:Lm aS p4 p6 s1 s2=some v) :
  dC Tryz.prog Rq 78 0 none Q5 T [bC] Q:=by
 unfold Q5;refine wp_loop bZ ?_;refine .intro (fun m T H=>∃ (s1:p0) (s2:Int),T=GH 25 [(3,(qj s1 (.uniq 1))),(4,(qj aS .shared)),(5,(hS s2))]∧H=[bC]∧Lm aS p4 m s1 s2=some v) p6 ⟨s1,s2,rfl,rfl,h⟩ ?_;clear h bZ;rintro m T H ⟨s1,s2,rfl,rfl,h⟩;cases m
 ·exact q4 h
 rename_i m;rw [Lm.eq_2] at h;conv=>whnf
 refine bs h (fun fl h=>?_) fun fl h=>?_
 ·rw [fl];conv=>whnf
  refine qy h id fun qo h=>?_;rw [Ht hS aS s2 qo];conv=>whnf
  refine qy h id fun qC h=>?_;conv=>whnf
  refine bs h (fun qG h=>?_) fun qG h=>?_
  ·rw [qG];(conv=>whnf);obtain ⟨qZ,h⟩:=qw h;refine ⟨by first | rfl | simp,by have:=qZ;omega,rfl,qZ,?_⟩
   erw [JB hS s1 s2];(conv=>whnf);exact ⟨m,su m,(s1++[s2]),(w (s2+(1:Int))),rfl,rfl,h⟩
  ·rw [qG];(conv=>whnf);exact ⟨m,su m,s1,(w (s2+(1:Int))),rfl,rfl,h⟩
 ·rw [fl];conv=>whnf
  exact qY _ _ h ⟨rfl,rfl⟩
theorem ak3 {b:p8} {v:p0} (h:Ll b=some v):qt 78 [(.agg [(hS b.1),(.ay (b.2.flatMap p7) b.2.length .shared)])] (.ay (v.map hS) v.length .shared):=by
 refine qN dI agc rfl (rz (fun _=>rfl) _ _ _) fun Q bn=>?_;have jz:qD [.tmp 2] Q (fun v=>(qj v .shared)) v:=fun T H bK=>bn _ T H bK;unfold Ll at h;unfold abA;obtain ⟨Hy,qB⟩:∃ c,Q5=c:=⟨_,rfl⟩;rw [qB];conv=>whnf
 obtain ⟨aS,eV,h⟩:=qi h;refine ⟨qh.pl,_,akN eV,?_⟩;conv=>whnf
 subst qB;refine ak2 ?_ (by exact rfl) h;intro x0 p9 h qs;obtain ⟨ru,rfl⟩:=qs.ex;conv=>whnf
 exact qd h jz rfl rfl
end Go.Proofs.YtfakoboiahbhaaaGreat.Ab


namespace Go.Proofs.YtfakoboiahbhaaaGreat.Ab
open Go
theorem Zy (n:Nat):(upto n).Pairwise (·<·):=by
 unfold upto;exact uB.2 (List.pairwise_lt_range.imp fun h=>vX.2 h)
section
variable {b t:p3}
def rk (b:p3) (S:List Int):List Int:=(upto 6).filter fun f=>decide (qI b S f % 2=1)
theorem LL {S:List Int} {f:Int}:f∈rk b S↔(0≤f∧f<6)∧qI b S f % 2=1:=by
 unfold rk;rw [sK,Hl,decide_eq_true_eq];rfl
theorem PK (S:List Int):(rk b S).Pairwise (·<·):=(Zy 6).filter _
theorem ad3 (e:Int×Int) (v:Int):IZ e v≤2:=by unfold IZ;split <;> split <;> omega
theorem Wk (S:List Int) (v:Int):qI b S v≤2*S.length:=by
 induction S with
 | nil=>simp [Ls]
 | cons i S a'=>rw [Nl,sD];have:=ad3 (ix b.2 i) v;omega
def Lq (S:List Int) (x:Int):List Int:=S.set x.toNat (w (ix S x+1))
theorem O5 (S:List Int) (x:Int):(Lq S x).length=S.length:=by simp [Lq]
theorem Xb {S:List Int} {x f:Int} (al:0≤x∧x<(S.length:Int)) (aQ:0≤f∧f<(S.length:Int)) (ai:0≤ix S x∧ix S x≤100000):ix (Lq S x) f=ix S f+if x=f then 1 else 0:=by
 obtain ⟨a,rfl⟩:∃ a:Nat,x=(a:Int):=⟨x.toNat,by omega⟩;obtain ⟨c,rfl⟩:∃ c:Nat,f=(c:Int):=⟨f.toNat,by omega⟩;unfold Lq;rw [LU (by omega),ti];by_cases h:a=c
 ·subst h;rw [LH (by omega),if_pos rfl]
 ·rw [J4 (Ne.symm h),if_neg (by omega),Int.add_zero]
structure Ii (b:p3) (n:Nat) (Hz S:List Int):Prop where
 len:S.length=n
 val:∀ f:Int,0≤f→f<(n:Int)→ix S f=(qI b Hz f:Int)
theorem Ii.step {n:Nat} {Hz S:List Int} {i:Int} (h:Ii b n Hz S) (a0:Hz.length≤1000) (ad:0≤(ix b.2 i).1∧(ix b.2 i).1<(n:Int)) (af:0≤(ix b.2 i).2∧(ix b.2 i).2<(n:Int)):Ii b n (Hz++[i]) (Lq (Lq S (ix b.2 i).1) (ix b.2 i).2):=by
 have ak:=h.len;have d':=h.val _ ad.1 ad.2;have Kt:=Wk (b:=b) Hz (ix b.2 i).1;have dB:=h.val _ af.1 af.2;have I3:=Wk (b:=b) Hz (ix b.2 i).2;refine ⟨by rw [O5,O5,ak],fun f Ku Cp=>?_⟩;have e1:∀ f:Int,0≤f→f<(n:Int)→ix (Lq S (ix b.2 i).1) f=ix S f+if (ix b.2 i).1=f then 1 else 0:=fun f aB aH=>Xb ⟨ad.1,by omega⟩ ⟨aB,by omega⟩ ⟨by omega,by omega⟩;rw [Xb ⟨af.1,by rw [O5];omega⟩ ⟨Ku,by rw [O5];omega⟩ (by rw [e1 _ af.1 af.2,dB];split <;> omega),e1 f Ku Cp,h.val f Ku Cp,O_,Nl,Ls];unfold IZ;split <;> split <;> omega
theorem Ii.zero (n:Nat):Ii b n [] (List.replicate n 0):=⟨by simp,fun f ad af=>by rw [Sj];rfl⟩
theorem aaG (p1:qH t) {S:List Int} (cp:rN t S) (ak:S.length≤1000) {k:List Int→Option (List Int)}:∀ (m i:Nat) (z:Int) (C:List Int),z=i→i≤S.length→S.length-i<m→Ii t 6 (S.take i) C →
  ∃ M',Ii t 6 S M'∧Me t S k m z C=k M'
 | 0,_,_,_,_,_,h,_=>absurd h (by omega)
 | m+1,i,_,C,rfl,hi,hm,rr=>by
   rw [Me];have bw:=rr.len;have bX:=p1.f6;by_cases h:(i:Int)<(S.length:Int)
   ·(have rR:i<S.length:=by omega);have nr:=cp _ (sH rR);have kt:=PC (l:=t.2) (i:=S[i]) ⟨nr.1,nr.2⟩;have ad:=p1.left _ kt;have af:=p1.right _ kt;have cL:=rr.step (i:=S[i]) (by simp;omega) ⟨ad.1,by omega⟩ ⟨af.1,by omega⟩;rw [←Om rR] at cL;rw [if_pos (decide_eq_true h),qb ⟨by omega,h⟩,q_ rR,qb nr,qb ⟨ad.1,by omega,bw.symm⟩,qb ⟨ad.1,by omega,bw.symm⟩,qb nr,qb ⟨af.1,by omega,by simp [bw]⟩,qb ⟨af.1,by omega,by simp [bw]⟩,re i (by omega)];exact aaG p1 cp ak m (i+1) _ _ rfl (by omega) (by omega) cL
   ·rw [if_neg (by simpa using h)]
    have:i=S.length:=by omega
    subst this;rw [tX] at rr;exact ⟨C,rr,rfl⟩
theorem Qo (n:Nat):((n:Int).tmod 2=1)↔n % 2=1:=by
 rw [Int.tmod_eq_emod_of_nonneg (by omega)];omega
theorem MR (q:Int→Bool) (i:Nat):(upto (i+1)).filter q=(upto i).filter q++if q (i:Int) then [(i:Int)] else []:=by
 rw [Oo,uF,tH,List.filter_nil]
theorem UJ {S C:List Int} (rr:Ii t 6 S C) {k:List Int→Option (List Int)}:∀ (m i:Nat) (z:Int),z=i→i≤6→6-i<m →
  Kg C k m ((upto i).filter fun f=>decide (qI t S f % 2=1)) z=k (rk t S)
 | 0,_,_,_,_,h=>absurd h (by omega)
 | m+1,i,_,rfl,hi,hm=>by
   rw [Kg];have ak:((upto i).filter fun f=>decide (qI t S f % 2=1)).length≤6:=sJ (tD _ _) (by rw [Hw];exact hi);by_cases h:(i:Int)<6
   ·rw [if_pos (decide_eq_true h),qb ⟨by omega,h,rr.len⟩,qb (by decide),rr.val i (by omega) h];by_cases aq:qI t S (i:Int) % 2=1
    ·rw [if_pos (decide_eq_true ((Qo _).2 aq)),qb ⟨rfl,by omega,by omega⟩,ti,tX,qb (by omega),re i (by omega)];have ai:=MR (fun f=>decide (qI t S f % 2=1)) i;rw [if_pos (decide_eq_true aq)] at ai;rw [←ai];exact UJ rr m (i+1) _ rfl (by omega) (by omega)
    ·rw [if_neg (by simpa [Qo] using aq),re i (by omega)];have ai:=MR (fun f=>decide (qI t S f % 2=1)) i;rw [if_neg (by simpa using aq),sV] at ai;rw [←ai];exact UJ rr m (i+1) _ rfl (by omega) (by omega)
   ·rw [if_neg (by simpa using h)]
    have:i=6:=by omega
    subst this;rfl
theorem aaF (p1:qH t) {S:List Int} (cp:rN t S) (ak:S.length≤1000):Md t S=some (rk t S):=by
 rw [Md]
 obtain ⟨C,rr,aj⟩:=aaG p1 cp ak (k:=fun x0 =>
   p2 (x0.length=6) <|
   p2 (x0.length=6) <|
   if (decide (x0=[(0:Int),(0:Int),(0:Int),(0:Int),(0:Int),(0:Int)]))=true then
    some []
   else
    p2 (x0.length=6) <|
    Kg x0 (fun oq =>
      some oq) p6 ([]:List Int) (0:Int)) p6 0 0 _ rfl (by omega) (rq (by omega)) (by rw [List.take_zero];exact Ii.zero 6)
 rw [aj,qb rr.len,qb rr.len];split
 ·rename_i h;have h:=of_decide_eq_true h;congr 1
  symm
  refine List.filter_eq_nil_iff.2 fun f aQ=>?_;have aQ:=Hl.1 aQ;have ae:=rr.val f aQ.1 aQ.2;have e:C=List.replicate 6 (0:Int):=h;rw [e,Sj] at ae
  have:qI t S f=0:=by omega
  simp [this]
 ·rw [qb rr.len];exact UJ rr p6 0 0 rfl (by omega) (rq (by omega))
theorem aaI (ag:t.2.length≤1000) {k:List Int→Option (List Int)}:∀ (m i:Nat) (z:Int),z=i→i≤t.2.length→t.2.length-i<m→Mf t k m (upto i) z=k (upto t.2.length)
 | 0,_,_,_,_,h=>absurd h (by omega)
 | m+1,i,_,rfl,hi,hm=>by
   rw [Mf];by_cases h:(i:Int)<(t.2.length:Int)
   ·rw [if_pos (decide_eq_true h),qb (by rw [Hw];omega),re i (by omega),←Oo];exact aaI ag m (i+1) _ rfl (by omega) (by omega)
   ·rw [if_neg (by simpa using h),show i=t.2.length by omega]
theorem aaH (ag:t.2.length≤1000):M7 t=some (upto t.2.length):=aaI ag p6 0 0 rfl (by omega) (rq (by omega))
def I7 (b:p3):List Int:=rk b (upto b.2.length)
theorem aas (p1:qH b) {k:List Int→Option (List Int)}:∀ (m i:Nat) (z:Int) (C:List Int),z=i→i≤b.2.length→b.2.length-i<m→Ii b b.1.toNat (upto i) C →
  ∃ M',Ii b b.1.toNat (upto b.2.length) M'∧L' b k m z C=k M'
 | 0,_,_,_,_,_,h,_=>absurd h (by omega)
 | m+1,i,_,C,rfl,hi,hm,rr=>by
   rw [L'];have bw:=rr.len;have hlen:=p1.len;by_cases h:(i:Int)<(b.2.length:Int)
   ·(have rR:i<b.2.length:=by omega);have ai:=Ka p1 rR;have cL:=rr.step (i:=(i:Int)) (by rw [Hw];omega) ⟨ai.1,by omega⟩ ⟨ai.2.2.1,by omega⟩;rw [←Oo] at cL;rw [if_pos (decide_eq_true h),qb ⟨by omega,h⟩,qb ⟨ai.1,by omega,bw.symm⟩,qb ⟨ai.1,by omega,bw.symm⟩,qb ⟨by omega,h⟩,qb ⟨ai.2.2.1,by omega,by simp [bw]⟩,qb ⟨ai.2.2.1,by omega,by simp [bw]⟩,re i (by omega)];exact aas p1 m (i+1) _ _ rfl (by omega) (by omega) cL
   ·rw [if_neg (by simpa using h)]
    have:i=b.2.length:=by omega
    subst this;exact ⟨C,rr,rfl⟩
theorem akL (p1:qH b):∃ C,Ii b b.1.toNat (upto b.2.length) C∧M1 b=some C:=by
 have bX:=p1.f6;have ad:=p1.f1;have hlen:=p1.len;rw [M1,qb ⟨by omega,by omega,by omega⟩];obtain ⟨C,rr,aj⟩:=aas p1 (k:=fun x0=>p2 (b.1.toNat=x0.length) <| some x0) p6 0 0 _ rfl (by omega) (rq (by omega)) (Ii.zero _);exact ⟨C,rr,by rw [aj,qb rr.len.symm]⟩
theorem UK {n:Nat} (aN:n≤6) {S C:List Int} (rr:Ii b n S C) {k:List Int→Option (List Int)}:∀ (m i:Nat) (z:Int),z=i→i≤n→n-i<m →
  Lm C k m ((upto i).filter fun f=>decide (qI b S f % 2=1)) z=k ((upto n).filter fun f=>decide (qI b S f % 2=1))
 | 0,_,_,_,_,h=>absurd h (by omega)
 | m+1,i,_,rfl,hi,hm=>by
   rw [Lm];have ak:((upto i).filter fun f=>decide (qI b S f % 2=1)).length≤6:=sJ (tD _ _) (by rw [Hw];omega);have bw:=rr.len;by_cases h:(i:Int)<(C.length:Int)
   ·rw [if_pos (decide_eq_true h),qb ⟨by omega,h⟩,qb (by decide),rr.val i (by omega) (by omega)];by_cases aq:qI b S (i:Int) % 2=1
    ·rw [if_pos (decide_eq_true ((Qo _).2 aq)),qb (by omega),re i (by omega)];have ai:=MR (fun f=>decide (qI b S f % 2=1)) i;rw [if_pos (decide_eq_true aq)] at ai;rw [←ai];exact UK aN rr m (i+1) _ rfl (by omega) (by omega)
    ·rw [if_neg (by simpa [Qo] using aq),re i (by omega)];have ai:=MR (fun f=>decide (qI b S f % 2=1)) i;rw [if_neg (by simpa using aq),sV] at ai;rw [←ai];exact UK aN rr m (i+1) _ rfl (by omega) (by omega)
   ·rw [if_neg (by simpa using h)]
    have:i=n:=by omega
    subst this;rfl
theorem ad7 (p1:qH b) {S:List Int} (cp:rN b S) {f:Int} (aQ:b.1≤f):qI b S f=0:=Pa.2 fun i hi kt=>by
 have:=Nq p1 (Hl.2 (cp i hi)) kt;omega
theorem agA (p1:qH b) {S:List Int} (cp:rN b S):rk b S=(upto b.1.toNat).filter fun f=>decide (qI b S f % 2=1):=by
 have bX:=p1.f6;have ad:=p1.f1;refine Ue (PK S) ((Zy _).filter _) fun f=>?_;rw [LL,sK,Hl,decide_eq_true_eq];constructor
 ·rintro ⟨⟨aB,aH⟩,aR⟩;refine ⟨⟨aB,?_⟩,aR⟩;refine Classical.byContradiction fun aN=>?_;rw [ad7 p1 cp (by omega)] at aR;simp at aR
 ·rintro ⟨⟨aB,aH⟩,aR⟩;exact ⟨⟨aB,by omega⟩,aR⟩
theorem ak1 (p1:qH b):Ll b=some (I7 b):=by
 obtain ⟨C,rr,aj⟩:=akL p1;have bX:=p1.f6;rw [Ll,aj,rW];unfold I7;rw [agA p1 On];exact UK (by omega) rr p6 0 0 rfl (by omega) (rq (by omega))
end
end Go.Proofs.YtfakoboiahbhaaaGreat.Ab


namespace Go.Proofs.YtfakoboiahbhaaaGreat.Ab
open Go
theorem YW {α:Type} [BEq α] [LawfulBEq α]:∀ (a b:List α),a.Nodup→(∀ x∈a,x∈b)→a.length≤b.length
 | [],_,_,_=>si _
 | x::a,b,aN,h=>by
   obtain ⟨ad,af⟩:=tY.1 aN;have al:=h x (by simp);have:=YW a (b.erase x) af fun y a1=>by
    have bO:y≠x:=fun e=>ad (e ▸ a1);exact (List.mem_erase_of_ne bO).2 (h y (by simp [a1]))
   rw [List.length_erase_of_mem al] at this;have:=List.length_pos_of_mem al;simp only [sD];omega
section
variable {b t:p3}
structure RowsOf (b:p3) (S:List Int) (R:List Row):Prop where
 ok:∀ r∈R,∀ p∈r,IQ b p
 go:∀ r∈R,∃ a c,qE b a r=some c
 all:((R.flatten).map (·.1)).Perm S
theorem RowsOf.app {S S':List Int} {R U5:List Row} (h:RowsOf b S R) (aY:RowsOf b S' U5):RowsOf b (S++S') (R++U5):=by
 refine ⟨fun r aj=>?_,fun r aj=>?_,?_⟩
 ·rcases sQ.1 aj with aj | aj
  ·exact h.ok r aj
  ·exact aY.ok r aj
 ·rcases sQ.1 aj with aj | aj
  ·exact h.go r aj
  ·exact aY.go r aj
 ·rw [List.flatten_append,th];exact h.all.append aY.all
theorem RowsOf.nil:RowsOf b [] []:=⟨fun r aj=>absurd aj (by simp),fun r aj=>absurd aj (by simp),by simp⟩
def Nm (b:p3):Row→List Int
 | []=>[]
 | p::r=>[qz b p,(qE b (qz b p) (p::r)).getD 0]
theorem aea {r:Row} {a c v:Int} (h:qE b a r=some c) (aq:qI b (r.map (·.1)) v % 2=1):v∈Nm b r:=by
 cases r with
 | nil=>simp [Ls] at aq
 | cons p r =>
   have ag:=(Ju.1 h).1;have aC:=Oe _ _ _ v h;show v∈[qz b p,(qE b (qz b p) (p::r)).getD 0];rw [ag,h];simp only [Option.getD_some,sf,ub,or_false];by_cases ad:a=v
   ·exact .inl ad.symm
   ·by_cases af:c=v
    ·exact .inr af.symm
    ·rw [if_neg ad,if_neg af] at aC;omega
theorem Wj (v:Int):∀ (R:List Row),qI b ((R.flatten).map (·.1)) v % 2=1→∃ r∈R,qI b (r.map (·.1)) v % 2=1
 | [],h=>by simp [Ls] at h
 | r::R,h=>by
   rw [tR,th,O_] at h;by_cases ad:qI b (r.map (·.1)) v % 2=1
   ·exact ⟨r,by simp,ad⟩
   ·obtain ⟨q,a4,af⟩:=Wj v R (by omega);exact ⟨q,by simp [a4],af⟩
theorem Wn:∀ (R:List Row),(R.flatMap (Nm b)).length≤2*(R.filter fun r=>!r.isEmpty).length
 | []=>by simp
 | r::R=>by
   have a':=Wn R;rw [List.flatMap_cons,sj,tH];cases r with
   | nil=>simpa [Nm] using a'
   | cons p r =>
     rw [if_pos (by simp)];simp only [Nm,sD,uC] at *;omega
theorem RowsOf.few {S:List Int} {R:List Row} (h:RowsOf b S R):(rk b S).length≤2*(R.filter fun r=>!r.isEmpty).length:=by
 refine sJ (YW _ (R.flatMap (Nm b)) ((PK S).imp fun h e=>by omega) fun v ae=>?_) (Wn R);have ae:=(LL.1 ae).2;rw [←O' h.all] at ae;obtain ⟨r,aj,ad⟩:=Wj v R ae;obtain ⟨a,c,HJ⟩:=h.go r aj;exact uQ.2 ⟨r,aj,aea HJ ad⟩
def II (l:List (Int×Int)) (v:Int):Nat:=(l.map fun e=>IZ e v).sum
theorem ad5 (e:Int×Int) (l:List (Int×Int)) (v:Int):II (e::l) v=IZ e v+II l v:=by simp [II]
theorem ad4 (l l':List (Int×Int)) (v:Int):II (l++l') v=II l v+II l' v:=by simp [II]
theorem Wi (S:List Int) (v:Int):qI b S v=II (S.map (ix b.2)) v:=by
 unfold qI II;rw [tq];rfl
theorem Xt {α:Type} [Inhabited α] (l:List α):(upto l.length).map (ix l)=l:=by
 refine List.ext_getElem (by simp [Hw]) fun i ad af=>?_;simp only [upto,vM,List.getElem_range];exact q_ af
theorem ad6 (v:Int):qI b (upto b.2.length) v=II b.2 v:=by rw [Wi,Xt]
def HN:List Int→List (Int×Int)
 | x::y::r=>(x,y)::HN r
 | _=>[]
theorem Zt:∀ (l:List Int),(HN l).length=l.length / 2
 | []=>rfl
 | [_]=>by simp [HN]
 | x::y::r=>by simp only [HN,sD,Zt r];omega
theorem Zs:∀ (l:List Int) (v:Int),l.Nodup→l.length % 2=0→II (HN l) v=if v∈l then 1 else 0
 | [],v,_,_=>by simp [HN,II]
 | [_],_,_,h=>by simp at h
 | x::y::r,v,aN,h=>by
   obtain ⟨ad,af⟩:=tY.1 aN;obtain ⟨aG,a7⟩:=tY.1 af;have a':=Zs r v a7 (by simp only [sD] at h;omega);rw [HN,ad5,a'];unfold IZ;have Ib:x≠y:=fun e=>ad (by simp [e]);by_cases e1:v=x
   ·subst e1
    have:v ∉ r:=fun hm=>ad (by simp [hm])
    simp [this,Ne.symm Ib]
   ·by_cases cm:v=y
    ·subst cm;simp [aG,Ib]
    ·simp [e1,cm,Ne.symm e1,Ne.symm cm]
theorem Zu:∀ (l:List Int) (e:Int×Int),e∈HN l→e.1∈l∧e.2∈l
 | [],e,h=>by simp [HN] at h
 | [_],e,h=>by simp [HN] at h
 | x::y::r,e,h=>by
   rw [HN] at h;rcases sf.1 h with rfl | h
   ·simp
   ·have:=Zu r e h;exact ⟨by simp [this.1],by simp [this.2]⟩
theorem aiy:∀ (n:Nat) (S:List Int),(∀ i∈S,0≤(ix b.2 i).1∧(ix b.2 i).1<(n:Int)∧0≤(ix b.2 i).2∧(ix b.2 i).2<(n:Int))→((upto n).map fun v=>qI b S v).sum=2*S.length:=by
 have one:∀ (x:Int) (n:Nat),((upto n).map fun v=>if x=v then 1 else 0).sum=if 0≤x∧x<(n:Int) then 1 else 0:=by
  intro x n
  induction n with
  | zero=>rw [if_neg (by omega)];rfl
  | succ n a' =>
    rw [Oo,th,List.sum_append,a'];simp only [sE,uh,vn,List.sum_nil];split <;> split <;> split <;> omega
 have add:∀ (l:List Int) (f g:Int→Nat),(l.map fun v=>f v+g v).sum=(l.map f).sum+(l.map g).sum:=by
  intro l f g
  induction l with
  | nil=>rfl
  | cons x l a'=>simp only [sE,vn,a'];omega
 intro n S h
 induction S with
 | nil =>
   have:∀ l:List Int,(l.map fun v=>qI b [] v).sum=0:=fun l=>by
    induction l with
    | nil=>rfl
    | cons x l a'=>rw [sE,vn,a',Ls]
   exact this _
 | cons i S a' =>
   have hi:=h i (by simp);simp only [Nl];rw [add,a' fun j aw=>h j (by simp [aw])];unfold IZ;rw [add,one,one,if_pos ⟨hi.1,hi.2.1⟩,if_pos ⟨hi.2.2.1,hi.2.2.2⟩,sD];omega
theorem SD (p1:qH b) {S:List Int} (cp:rN b S):(rk b S).length % 2=0:=by
 have bX:=p1.f6;have ai:=aiy (b:=b) 6 S fun i hi=>by
  have hm:=PC (l:=b.2) (i:=i) (cp i hi);have ad:=p1.left _ hm;have af:=p1.right _ hm;exact ⟨ad.1,by omega,af.1,by omega⟩
 have key:∀ l:List Int,(l.filter fun f=>decide (qI b S f % 2=1)).length % 2=(l.map fun v=>qI b S v).sum % 2:=by
  intro l
  induction l with
  | nil=>rfl
  | cons x l a' =>
    rw [tH,sE,vn];split
    ·rename_i h;have h:=of_decide_eq_true h;rw [sD];omega
    ·rename_i h;(have h:¬ qI b S x % 2=1:=by simpa using h);omega
 unfold rk;rw [key,ai];omega
def rO (b:p3) (S:List Int):p3:=(b.1,S.map (ix b.2)++HN (rk b S))
theorem Oj (S:List Int):(rO b S).2.length=S.length+(rk b S).length / 2:=by
 unfold rO;simp [Zt]
theorem Ol {S:List Int} {i:Nat} (h:i<S.length):ix (rO b S).2 (i:Int)=ix b.2 S[i]:=by
 have aG:i<(S.map (ix b.2)++HN (rk b S)).length:=by simp;omega
 show ix (S.map (ix b.2)++HN (rk b S)) (i:Int)=_;rw [q_ aG,vU (by simpa using h),vM]
theorem aiS {S:List Int} {i:Nat} (h:S.length≤i) (af:i<(rO b S).2.length):ix (rO b S).2 (i:Int)∈HN (rk b S):=by
 have aG:i<(S.map (ix b.2)++HN (rk b S)).length:=af;show ix (S.map (ix b.2)++HN (rk b S)) (i:Int)∈_;rw [q_ aG,vV (by simpa using h)];exact sH _
theorem aiR (p1:qH b) {S:List Int} (cp:rN b S) (v:Int):qI (rO b S) (upto (rO b S).2.length) v % 2=0:=by
 rw [ad6];show II (S.map (ix b.2)++HN (rk b S)) v % 2=0;rw [ad4,←Wi,Zs _ _ ((PK S).imp fun h e=>by omega) (SD p1 cp)];split
 ·rename_i h;have:=(LL.1 h).2;omega
 ·rename_i h;have bX:=p1.f6;refine Classical.byContradiction fun aN=>h (LL.2 ⟨?_,by omega⟩)
  have:qI b S v≠0:=fun e=>by rw [e] at aN;exact aN rfl
  refine Classical.byContradiction fun ae=>this (Pa.2 fun i hi kt=>?_);have:=Nq p1 (Hl.2 (cp i hi)) kt;omega
theorem Zd {S:List Int} {f g:Int} (h:q8 b S f g):q8 (rO b S) (upto (rO b S).2.length) f g:=by
 induction h with
 | refl=>exact .refl
 | step i _ hi aB aH a' =>
   obtain ⟨k,av,e⟩:=tS hi;have ak:=Oj (b:=b) S;refine .step (k:Int) a' (Hl.2 ⟨by omega,by omega⟩) ?_ ?_
   ·unfold qJ at aB ⊢;rw [Ol av,e];exact aB
   ·unfold qJ at aH ⊢;rw [Ol av,e];exact aH
theorem round_part (p1:qH b) {S:List Int} (cp:rN b S) (ak:S.length≤990) (aT:S≠[]) (ao:∀ x∈S,∀ y∈S,∀ f g,qJ b x f→qJ b y g→q8 b S f g) :
  ∃ l a,Qq (rO b S)=some l∧Full (rO b S) l∧qE (rO b S) a l=some a:=by
 have hlen:=Oj (b:=b) S;have Sa:0<S.length:=uG.2 aT;have aq:(rk b S).length≤6:=sJ (tD _ _) (by rw [Hw];omega);have fT:ix (rO b S).2 0=ix b.2 S[0]:=Ol (i:=0) Sa;obtain ⟨l,ad,af,aG⟩:=ajP (t:=rO b S) (aiR p1 cp) (by omega) (by omega) fun i hi=>by
  by_cases WY:i<S.length
  ·refine ⟨(ix b.2 S[i]).1,.inl (by rw [Ol WY]),?_⟩;rw [fT];exact Zd (ao _ (sH _) _ (sH WY) _ _ (.inl rfl) (.inl rfl))
  ·have hm:=aiS (b:=b) (S:=S) (by omega) hi;refine ⟨(ix (rO b S).2 (i:Int)).1,.inl rfl,?_⟩;have JM:=(LL.1 (Zu _ _ hm).1).2
   have:¬ ∀ x∈S,¬ qJ b x (ix (rO b S).2 (i:Int)).1:=fun aN=>by
    rw [Pa.2 aN] at JM;simp at JM
   have:∃ x∈S,qJ b x (ix (rO b S).2 (i:Int)).1:=Classical.byContradiction fun aN=>this fun x al aQ=>aN ⟨x,al,aQ⟩
   obtain ⟨x,al,aQ⟩:=this;rw [fT];exact Zd (ao _ (sH Sa) x al _ _ (.inl rfl) aQ)
 exact ⟨l,_,ad,af,aG⟩
end
end Go.Proofs.YtfakoboiahbhaaaGreat.Ab


namespace Go.Proofs.YtfakoboiahbhaaaGreat.Ab
open Go
def GQ (S:List Int):Row→Row→List Row
 | own,[]=>if 0<own.length then [own] else []
 | own,p::r=>if p.1<(S.length:Int) then GQ S (own++[(ix S p.1,p.2)]) r else own::GQ S [] r
section
variable {b:p3} {S:List Int}
theorem YT:∀ (m l:Row) (own:Row),(∀ p∈m,p.1<(S.length:Int))→GQ S own (m++l)=GQ S (own++m.map fun p=>(ix S p.1,p.2)) l
 | [],l,own,_=>by simp
 | p::m,l,own,h=>by
   rw [vk,GQ,if_pos (h p (by simp)),YT m l _ fun q a4=>h q (by simp [a4])];simp
theorem ado {p:Int×Int} (ad:0≤p.1) (af:p.1<(S.length:Int)):qz (rO b S) p=qz b (ix S p.1,p.2)∧fin (rO b S) p=fin b (ix S p.1,p.2):=by
 obtain ⟨i,hi⟩:∃ i:Nat,p.1=(i:Int):=⟨p.1.toNat,by omega⟩;unfold qz fin;rw [hi,Ol (by omega),q_ (by omega)];exact ⟨rfl,rfl⟩
theorem Ql (cp:rN b S):∀ (l own:Row),(∀ p∈own,IQ b p)→(∀ p∈l,IQ (rO b S) p)→∀ r∈GQ S own l,∀ p∈r,IQ b p
 | [],own,ad,_=>by
   rw [GQ];split
   ·intro r aj;rw [sI.1 aj];exact ad
   ·intro r aj;simp at aj
 | q::l,own,ad,af=>by
   rw [GQ];have a4:=af q (by simp);split
   ·rename_i aV;refine Ql cp l _ (fun p aC=>?_) fun p aC=>af p (by simp [aC]);rcases sQ.1 aC with aC | aC
    ·exact ad p aC
    ·rw [sI.1 aC];have hm:ix S q.1∈S:=by
      obtain ⟨i,hi⟩:∃ i:Nat,q.1=(i:Int):=⟨q.1.toNat,by have:=a4.1;omega⟩;rw [hi,q_ (by omega)];exact sH _
     exact ⟨(cp _ hm).1,(cp _ hm).2,a4.2.2.1,a4.2.2.2⟩
   ·intro r aj;rcases sf.1 aj with rfl | aj
    ·exact ad
    ·exact Ql cp l [] (fun p aC=>absurd aC (by simp)) (fun p aC=>af p (by simp [aC])) r aj
theorem Qk:∀ (l own:Row) (jo a e:Int),qE b jo own=some a→qE (rO b S) a l=some e→(∀ p∈l,IQ (rO b S) p)→∀ r∈GQ S own l,∃ a c,qE b a r=some c
 | [],own,jo,a,e,ad,_,_=>by
   rw [GQ];split
   ·intro r aj;rw [sI.1 aj];exact ⟨_,_,ad⟩
   ·intro r aj;simp at aj
 | q::l,own,jo,a,e,ad,af,aG=>by
   rw [GQ];obtain ⟨cd,b_⟩:=Ju.1 af;have a4:=aG q (by simp);split
   ·rename_i aV;obtain ⟨bq,cK⟩:=ado (b:=b) a4.1 aV;refine Qk l _ jo (fin (rO b S) q) e ?_ b_ fun p aC=>aG p (by simp [aC]);rw [Jt,ad,rW];exact J_.2 ⟨by rw [←bq];exact cd,cK.symm⟩
   ·intro r aj;rcases sf.1 aj with rfl | aj
    ·exact ⟨_,_,ad⟩
    ·exact Qk l [] _ _ e rfl b_ (fun p aC=>aG p (by simp [aC])) r aj
def Hq (S:List Int) (p:Int×Int):Bool:=decide (p.1<(S.length:Int))
theorem Qj:∀ (l own:Row),(GQ S own l).flatten.map (·.1)=own.map (·.1)++(l.filter (Hq S)).map fun p=>ix S p.1
 | [],own=>by
   rw [GQ];split
   ·simp
   ·have:own=[]:=tn.1 (by omega)
    simp [this]
 | q::l,own=>by
   rw [GQ,tH];split
   ·rename_i h;have aY:Hq S q=true:=decide_eq_true h;rw [Qj l,if_pos aY];simp
   ·rename_i h;(have aY:¬ Hq S q=true:=by simpa [Hq] using h);rw [tR,th,Qj l,if_neg aY];simp
theorem Un {q:Int×Int} (a4:Hq S q=false):∀ (m own:Row),(GQ S own (m++[q])).length=(m.filter fun p=>!Hq S p).length+1
 | [],own=>by
   have:¬ q.1<(S.length:Int):=by simpa [Hq] using a4
   rw [uc,GQ,if_neg this];simp [GQ]
 | p::m,own=>by
   rw [vk,GQ,tH];split
   ·rename_i h;have aY:Hq S p=true:=decide_eq_true h;rw [Un a4 m,aY];simp
   ·rename_i h;(have aY:Hq S p=false:=by simpa [Hq] using h);rw [sD,Un a4 m,aY];simp
theorem XW {α:Type} (p:α→Bool):∀ (l:List α) (i:Nat),(posOf p l i=-1∧∀ x∈l,p x=false)∨∃ dK q kL,l=dK++q::kL∧p q=true∧posOf p l i=((i+dK.length:Nat):Int)
 | [],i=>.inl ⟨rfl,fun x al=>by simp at al⟩
 | x::l,i=>by
   rw [posOf];by_cases h:p x=true
   ·rw [if_pos h];exact .inr ⟨[],x,l,rfl,h,rfl⟩
   ·rw [if_neg h];rcases XW p l (i+1) with ⟨ad,af⟩ | ⟨dK,q,kL,rfl,af,aG⟩
    ·refine .inl ⟨ad,fun y a1=>?_⟩;rcases sf.1 a1 with rfl | a1
     ·simpa using h
     ·exact af y a1
    ·refine .inr ⟨x::dK,q,kL,rfl,af,?_⟩;rw [aG,sD];congr 1;omega
theorem Full.perm {t:p3} {l l':Row} (h:Full t l) (aC:l'.Perm l):Full t l' :=
 ⟨fun p ae0=>h.ok p (aC.mem_iff.1 ae0),(aC.map _).nodup_iff.2 h.Hr,fun i hi=>(aC.map (·.1)).mem_iff.2 (h.all i hi)⟩
theorem Full.upto {t:p3} {l:Row} (h:Full t l):(l.map (·.1)).Perm (upto t.2.length):=by
 refine (uV h.Hr (MS _)).2 fun x=>?_;rw [Hl];constructor
 ·intro al;obtain ⟨p,aC,rfl⟩:=sq.1 al;have:=h.ok p aC;exact ⟨this.1,this.2.1⟩
 ·rintro ⟨ad,af⟩;obtain ⟨i,rfl⟩:∃ i:Nat,x=(i:Int):=⟨x.toNat,by omega⟩;exact h.all i (by omega)
theorem Full.own {l:Row} (h:Full (rO b S) l):((l.filter (Hq S)).map fun p=>ix S p.1).Perm S:=by
 have ad:((l.filter (Hq S)).map (·.1)).Perm (Ab.upto S.length):=by
  refine (uV ((List.filter_sublist.map _).nodup h.Hr) (MS _)).2 fun x=>?_;rw [Hl,sq];constructor
  ·rintro ⟨p,aC,rfl⟩;rw [sK] at aC;exact ⟨(h.ok p aC.1).1,by simpa [Hq] using aC.2⟩
  ·rintro ⟨ad,af⟩;have hm:x∈l.map (·.1):=h.upto.mem_iff.2 (Hl.2 ⟨ad,by rw [Oj];omega⟩);obtain ⟨p,aC,rfl⟩:=sq.1 hm;exact ⟨p,sK.2 ⟨aC,decide_eq_true af⟩,rfl⟩
 have af:=ad.map (ix S);rw [Xt,tq] at af;exact af
theorem Wu {α:Type} (q:α→Bool):∀ l:List α,l.length=(l.filter q).length+(l.filter fun x=>!q x).length
 | []=>rfl
 | x::l=>by
   rw [tH,tH,sD,Wu q l];cases q x <;> simp <;> omega
theorem Full.threads {l:Row} (h:Full (rO b S) l):(l.filter fun p=>!Hq S p).length=(rk b S).length / 2:=by
 have ad:=h.upto.length_eq;have af:=h.own.length_eq;rw [sZ] at ad af;rw [Hw,Oj] at ad;have aG:=Wu (Hq S) l;omega
def Qc (S:List Int) (l:Row):Row:=let c:=posOf (fun p=>!Hq S p) l 0;if 0≤c then l.drop (c+1).toNat++l.take (c+1).toNat else l
theorem ahV (l:Row):(Qc S l=l∧∀ p∈l,Hq S p=true)∨∃ dK q kL,l=dK++q::kL∧Hq S q=false∧Qc S l=(kL++dK)++[q]:=by
 unfold Qc;rcases XW (fun p=>!Hq S p) l 0 with ⟨ad,af⟩ | ⟨dK,q,kL,rfl,af,aG⟩
 ·left;rw [ad];exact ⟨rfl,fun p aC=>by simpa using af p aC⟩
 ·right;refine ⟨dK,q,kL,rfl,by simpa using af,?_⟩;rw [aG];simp only [Nat.zero_add];rw [if_pos (by omega),show ((dK.length:Int)+1).toNat=dK.length+1 by omega];have e:dK++q::kL=(dK++[q])++kL:=by simp
  rw [e,List.drop_left' (by simp),List.take_left' (by simp),sy]
structure U3 (b:p3) (S:List Int) (R:List Row):Prop extends RowsOf b S R where
 ne:∀ r∈R,r≠[]
 len:R.length=max 1 ((rk b S).length / 2)
theorem agK (p1:qH b) (cp:rN b S) (aT:S≠[]) {l:Row} {a:Int} (bD:Full (rO b S) l) (aO:qE (rO b S) a l=some a):U3 b S (GQ S [] (Qc S l)):=by
 have Sa:0<S.length:=uG.2 aT;have Sf:=bD.threads;have lV:=SD p1 cp;rcases ahV (S:=S) l with ⟨ad,af⟩ | ⟨dK,q,kL,rfl,af,aG⟩
 ·rw [ad];have jz:RowsOf b S (GQ S [] l):=⟨Ql cp l [] (fun p aC=>absurd aC (by simp)) bD.ok,Qk l [] a a a rfl aO bD.ok,by rw [Qj];simpa using bD.own⟩;have e:(l.filter fun p=>!Hq S p)=[]:=List.filter_eq_nil_iff.2 fun p aC=>by simp [af p aC]
  rw [e] at Sf;simp only [uC] at Sf;have ak:0<l.length:=by
   have:=bD.upto.length_eq;rw [sZ,Hw,Oj] at this;omega
  have ai:GQ S [] l=[l.map fun p=>(ix S p.1,p.2)]:=by
   have:=YT (S:=S) l [] [] fun p aC=>of_decide_eq_true (af p aC);rw [sV,uc] at this;rw [this,GQ,if_pos (by simpa using ak)]
  refine ⟨jz,fun r aj=>?_,?_⟩
  ·rw [ai] at aj;rw [sI.1 aj];intro e;have:=congrArg List.length e;simp at this;rw [this] at ak;simp at ak
  ·rw [ai,←Sf];rfl
 ·rw [aG];have IM:(kL++dK++[q]).Perm (dK++q::kL):=by
   rw [show dK++q::kL=(dK++[q])++kL by simp,sy];exact vY
  have Ph:=bD.perm IM;have R6:∃ aM,qE (rO b S) aM (kL++dK++[q])=some aM:=by
   rw [show dK++q::kL=(dK++[q])++kL by simp,Jt] at aO;obtain ⟨c,cd,b_⟩:=qi aO;refine ⟨c,?_⟩;rw [sy,Jt,b_];exact cd
  obtain ⟨aM,R6⟩:=R6;have jz:RowsOf b S (GQ S [] (kL++dK++[q])):=⟨Ql cp _ [] (fun p aC=>absurd aC (by simp)) Ph.ok,Qk _ [] aM aM aM rfl R6 Ph.ok,by rw [Qj];simpa using Ph.own⟩;have ae5:=Ph.threads;rw [uF,sj] at ae5;have Jq:([q].filter fun p=>!Hq S p).length=1:=by simp [af]
  have hlen:=Un af (kL++dK) [];have aeO:=jz.few;have hle:=tD (fun r:Row=>!r.isEmpty) (GQ S [] (kL++dK++[q]));refine ⟨jz,fun r aj=>?_,by omega⟩;have heq:((GQ S [] (kL++dK++[q])).filter fun r=>!r.isEmpty).length=(GQ S [] (kL++dK++[q])).length:=by omega
  have:=List.length_filter_eq_length_iff.1 heq r aj;intro e;rw [e] at this;simp at this
end
end Go.Proofs.YtfakoboiahbhaaaGreat.Ab


namespace Go.Proofs.YtfakoboiahbhaaaGreat.Ab
open Go
set_option maxRecDepth 20000
set_option maxHeartbeats 4000000
def ajW (s:List (Int×Int)) (n:Int):Option (List (Int×Int)):=p2 (s=[]∧0<n∧n≤24) (some s)

def ajQ (p:(Int×Int)) (gR:p0):Option Bool :=
 some (decide ((gR.length:Int)≤p.1))

def ZX (slices:ri) (p4:Int→Option qc):Nat→Int→Int→Option qc
 | 0,_,_=>none
 | m+1,s1,s2 =>
   if (decide (s2<(slices.length:Int)))=true then
    p2 (0≤s2∧s2<(slices.length:Int)) <|
    if (decide ((w (s1+((ix slices s2).length:Int)))<(0:Int)))=true then
     none
    else
     ZX slices p4 m (w (s1+((ix slices s2).length:Int))) (w (s2+(1:Int)))
   else
    p4 s1
def ZY (slices:ri) (qn:qc→Option qc):Nat→qc→Int→Option qc
 | 0,_,_=>none
 | m+1,s3,Gz =>
   if (decide (Gz<(slices.length:Int)))=true then
    p2 (0≤Gz∧Gz<(slices.length:Int)) <|
    p2 ((s3.length+(ix slices Gz).length)*16≤140737488355328) <|
    ZY slices qn m (s3++(ix slices Gz)) (w (Gz+(1:Int)))
   else
    qn s3
def ajR (slices:ri):Option qc :=
 ZX slices (fun x0 =>
   (ajW [] x0).bind fun aS =>
   ZY slices (fun oq =>
     some oq) p6 aS (0:Int)) p6 (0:Int) (0:Int)

def aaP (t:p8) (bk:q6) (s2:Int) (qn:qc→Option ri):Nat→Int→qc→Option ri
 | 0,_,_=>none
 | m+1,s3,Gz =>
   if (decide (s3<((ix bk s2).length:Int)))=true then
    p2 (0≤s3∧s3<((ix bk s2).length:Int)) <|
    p2 (0≤(ix (ix bk s2) s3)∧(ix (ix bk s2) s3)<(t.2.length:Int)) <|
    p2 ((Gz.length+1)*16≤140737488355328) <|
    aaP t bk s2 qn m (w (s3+(1:Int))) (Gz++[(ix t.2 (ix (ix bk s2) s3))])
   else
    qn Gz
def aaQ (eE:p0) (ra:qc→Option ri):Nat→Int→qc→Option ri
 | 0,_,_=>none
 | m+1,p_,ql =>
   if (decide ((w (p_+(1:Int)))<(eE.length:Int)))=true then
    p2 (0≤p_∧p_<(eE.length:Int)) <|
    p2 (0≤(w (p_+(1:Int)))∧(w (p_+(1:Int)))<(eE.length:Int)) <|
    p2 ((ql.length+1)*16≤140737488355328) <|
    aaQ eE ra m (w (p_+(2:Int))) (ql++[((ix eE p_),(ix eE (w (p_+(1:Int)))))])
   else
    ra ql
def UP (bk:q6) (s2:Int) (dt:qc) (Sk:ri→qc→Option ri):Nat→ri→qc→Int→Option ri
 | 0,_,_,_=>none
 | m+1,G_,Ie,Hg =>
   if (decide (Hg<(dt.length:Int)))=true then
    p2 (0≤Hg∧Hg<(dt.length:Int)) <|
    if (decide ((ix dt Hg).1<((ix bk s2).length:Int)))=true then
     p2 (0≤(ix dt Hg).1∧(ix dt Hg).1<((ix bk s2).length:Int)) <|
     p2 ((Ie.length+1)*16≤140737488355328) <|
     UP bk s2 dt Sk m G_ (Ie++[((ix (ix bk s2) ((ix dt Hg).1)),(ix dt Hg).2)]) (w (Hg+(1:Int)))
    else
     p2 ((G_.length+1)*24≤140737488355328) <|
     UP bk s2 dt Sk m (G_++[Ie]) [] (w (Hg+(1:Int)))
   else
    Sk G_ Ie
def aaO (bk:q6) (s1:ri) (s2:Int) (Xg:ri→Option ri) (dt:qc):Option ri :=
 UP bk s2 dt (fun x0 oq =>
   if (decide ((0:Int)<(oq.length:Int)))=true then
    p2 ((x0.length+1)*24≤140737488355328) <|
    Xg (x0++[oq])
   else
    Xg x0) p6 s1 ([]:List (Int×Int)) (0:Int)
def UO (t:p8) (bk:q6) (p4:ri→Option ri):Nat→ri→Int→Option ri
 | 0,_,_=>none
 | m+1,s1,s2 =>
   if (decide (s2<(bk.length:Int)))=true then
    p2 (0≤s2∧s2<(bk.length:Int)) <|
    aaP t bk s2 (fun x0 =>
      (Md t (ix bk s2)).bind fun eE =>
      aaQ eE (fun x0 =>
        (Qq (t.1,x0)).bind fun qp =>
        (OL qp (fun qq=>ajQ qq (ix bk s2))).bind fun rj =>
        if (decide ((0:Int)≤rj))=true then
         p2 (0≤(w (rj+(1:Int)))∧(w (rj+(1:Int)))≤(qp.length:Int)) <|
         p2 (0≤(w (rj+(1:Int)))∧(w (rj+(1:Int)))≤(qp.length:Int)) <|
         (ajR [(qp.drop (w (rj+(1:Int))).toNat),(qp.take (w (rj+(1:Int))).toNat)]).bind fun G9 =>
         aaO bk s1 s2 (fun FX =>
           UO t bk p4 m FX (w (s2+(1:Int)))) G9
        else
         aaO bk s1 s2 (fun FX =>
           UO t bk p4 m FX (w (s2+(1:Int)))) qp) p6 (0:Int) x0) p6 (0:Int) ([]:List (Int×Int))
   else
    p4 s1
def UN (t:p8):Option ri :=
 (M7 t).bind fun aS =>
 (Kh t aS).bind fun bk =>
 UO t bk (fun UZ =>
   some UZ) p6 ([]:List qc) (0:Int)
end Go.Proofs.YtfakoboiahbhaaaGreat.Ab


namespace Go.Proofs.YtfakoboiahbhaaaGreat.Ab
open Go
section
variable {b t:p3} {S:List Int} {bk:List (List Int)} {s2:Int}
def agv (b:p3) (r:List Int):Nat:=max 1 ((rk b r).length / 2)
def aee (b:p3):Nat:=((parts b).map (agv b)).sum
structure U6 (b:p3) (R:List Row):Prop extends RowsOf b (upto b.2.length) R where
 ne:∀ r∈R,r≠[]
 len:R.length=aee b
end
end Go.Proofs.YtfakoboiahbhaaaGreat.Ab


namespace Go.Proofs.YtfakoboiahbhaaaGreat.Ab
open Go
instance {d:Nat} {l:List I} [h:qh d l]:qh d (l.map I.gU):=⟨by
 have h:=h.pl;rw [ss] at h ⊢;intro u hu;obtain ⟨v,ae,rfl⟩:=sq.1 hu;have:=h v ae;cases d with
 | zero=>simp [ct] at this
 | succ d=>cases v with
   | ay cs n c=>cases c <;> exact this
   | _=>exact this⟩
end Go.Proofs.YtfakoboiahbhaaaGreat.Ab


namespace Go.Proofs.YtfakoboiahbhaaaGreat.Ab
open Go
set_option maxRecDepth 20000
set_option maxHeartbeats 4000000
def aar (b:p8) (p':p0) (p4:qc→Option p8):Nat→Int→qc→Option p8
 | 0,_,_=>none
 | m+1,s1,s2 =>
   if (decide (s1<(p'.length:Int)))=true then
    p2 (0≤s1∧s1<(p'.length:Int)) <|
    p2 (0≤(ix p' s1)∧(ix p' s1)<(b.2.length:Int)) <|
    p2 ((s2.length+1)*16≤140737488355328) <|
    aar b p' p4 m (w (s1+(1:Int))) (s2++[(ix b.2 (ix p' s1))])
   else
    p4 s2
def aaq (b:p8) (p':p0):Option p8 :=
 aar b p' (fun x0 =>
   some (b.1,x0)) p6 (0:Int) ([]:List (Int×Int))

def aaR (b:p8) (aS:q6) (p4:Int→Option Int):Nat→Int→Int→Option Int
 | 0,_,_=>none
 | m+1,s1,s2 =>
   if (decide (s2<(aS.length:Int)))=true then
    p2 (0≤s2∧s2<(aS.length:Int)) <|
    (aaq b (ix aS s2)).bind fun bk =>
    (Ll bk).bind fun eE =>
    p2 ((2:Int)≠0) <|
    aaR b aS p4 m (w (s1+(max (1:Int) (w ((eE.length:Int).tdiv (2:Int)))))) (w (s2+(1:Int)))
   else
    p4 s1
def UQ (b:p8):Option Int :=
 (Mg b).bind fun aS =>
 aaR b aS (fun x0 =>
   some x0) p6 (0:Int) (0:Int)

def aag (b:p8):Option (Int×Int) :=
 (Ih b).bind fun aS =>
 match aS with
 | (none,q1) =>
   if (decide (q1≠(0:Int)))=true then
    some ((0:Int),q1)
   else
    none
 | (some bT,q1) =>
   if (decide (q1≠(0:Int)))=true then
    some ((0:Int),q1)
   else
    (UN bT).bind fun bk =>
    some ((bk.length:Int),(0:Int))

def akB (b:p8):Option (Int×Int) :=
 (Hi b).bind fun aS =>
 if (decide (aS≠(0:Int)))=true then
  (Hi b).bind fun bk =>
  some ((0:Int),bk)
 else
  (UQ b).bind fun eE =>
  some (eE,(0:Int))
end Go.Proofs.YtfakoboiahbhaaaGreat.Ab


namespace Go.Proofs.YtfakoboiahbhaaaGreat.Ab
open Go
section
variable {b:p3} {S:List Int}
theorem agQ (p1:qH b):∀ r∈parts b,rN b r∧r.length≤10:=fun r aj=>by
 have h:=(QE p1).2.1;have dz:=p1.len;have ad:=h.PB On r aj;exact ⟨ad,sJ (LJ ((h.so r aj).imp fun h e=>by omega) ad) dz⟩
theorem agP (p1:qH b):(parts b).length≤10:=sJ ((QE p1).2.1.few On) p1.len
theorem UH (p1:qH b):Ih b=some (some b,0):=by
 rw [Ih,Qw b (by have:=p1.len;omega),rW,IG.2 p1];rfl
theorem UG (ag:b.2.length≤1000) (h:q3 b≠0):Ih b=some (none,q3 b):=by
 rw [Ih,Qw b ag,rW,if_pos (by simpa using h)]
def Lo (b:p3) (S:List Int):Prop:=∀ x∈S,∀ y∈S,∀ f g,qJ b x f→qJ b y g→q8 b S f g
theorem rh.one {out:List (List Int)} (h:rh b S out) (aT:S≠[]):out.length=1↔Lo b S:=by
 constructor
 ·intro ad;obtain ⟨r,rfl⟩:∃ r,out=[r]:=List.length_eq_one_iff.1 ad;intro x al y a1 f g aQ aO;have hm:∀ z∈S,z∈r:=fun z bo=>by
   obtain ⟨q,a4,W8⟩:=(h.mem z).1 bo;rw [sI.1 a4] at W8;exact W8
  exact h.IY r (by simp) x (hm x al) y (hm y a1) f g aQ aO
 ·intro bK;obtain ⟨x,al⟩:=uU S aT;obtain ⟨r,aj,Jr⟩:=(h.mem x).1 al;have all:∀ q∈out,q=r:=fun q a4=>by
   obtain ⟨y,a1⟩:=uU q (h.ne q a4);have W7:=(h.mem y).2 ⟨q,a4,a1⟩;have:=h.closed aj Jr (f:=(ix b.2 x).1) (g:=(ix b.2 y).1) (.inl rfl) (bK x al y W7 _ _ (.inl rfl) (.inl rfl)) y W7 (.inl rfl);exact h.uniq a4 aj a1 this
  match out,aj,all,h with
  | [q],_,_,_=>rfl
  | q::fO::l,_,all,h =>
    exfalso;have e1:=all q (by simp);have cm:=all fO (by simp);obtain ⟨y,a1⟩:=uU q (h.ne q (by simp));exact (List.pairwise_cons.1 h.qA).1 fO (by simp) y a1 (by rw [cm,←e1];exact a1)
end
end Go.Proofs.YtfakoboiahbhaaaGreat.Ab


namespace Go.Proofs.YtfakoboiahbhaaaGreat.Ab
open Go
set_option maxRecDepth 20000
set_option maxHeartbeats 4000000
def Qu (i:Int) (gR:p8) (ba:Int):Option Bool :=
 p2 (0≤i∧i<(gR.2.length:Int)) <|
 if (decide ((ix gR.2 i).1=ba))=true then
  some true
 else
  p2 (0≤i∧i<(gR.2.length:Int)) <|
  some (decide ((ix gR.2 i).2=ba))

def Qv (s:p0) (MU:Int) (p4:Unit→Option Int):Nat→Int→Option Int
 | 0,_=>none
 | m+1,s1 =>
   if (decide (s1<(s.length:Int)))=true then
    p2 (0≤s1∧s1<(s.length:Int)) <|
    if (decide (MU=(ix s s1)))=true then
     some s1
    else
     Qv s MU p4 m (w (s1+(1:Int)))
   else
    p4 ()
def Z0 (s:p0) (MU:Int):Option Int :=
 Qv s MU (fun _ =>
   some (-1:Int)) p6 (0:Int)

def Ux (s:p0) (MU:Int):Option Bool :=
 (Z0 s MU).bind fun aS =>
 some (decide ((0:Int)≤aS))

def Qr (t:p8) (p':p0) (figure:Int):Option Bool :=
 (Md t p').bind fun aS =>
 if (decide ((p'.length:Int)=(0:Int)))=true then
  some true
 else
  if (decide ((2:Int)<(aS.length:Int)))=true then
   some false
  else
   if (decide ((aS.length:Int)=(2:Int)))=true then
    (Ux aS figure).bind fun bk =>
    if bk=true then
     (Ki p' (fun qq=>Qu qq t figure)).bind fun eE =>
     if eE=true then
      (Kh t p').bind fun qp =>
      some (decide ((qp.length:Int)=(1:Int)))
     else
      some false
    else
     some false
   else
    (Ki p' (fun qq=>Qu qq t figure)).bind fun rj =>
    if rj=true then
     (Kh t p').bind fun G9 =>
     some (decide ((G9.length:Int)=(1:Int)))
    else
     some false

def aaS (b:p8) (left:p0) (figure:Int):Option Bool :=
 (aaq b left).bind fun aS =>
 if (decide ((left.length:Int)=(0:Int)))=true then
  some true
 else
  (Ll aS).bind fun bk =>
  (Mg aS).bind fun eE =>
  if (decide ((eE.length:Int)=(1:Int)))=true then
   (M1 aS).bind fun qp =>
   p2 (0≤figure∧figure<(qp.length:Int)) <|
   if (decide ((0:Int)<(ix qp figure)))=true then
    if (decide ((bk.length:Int)=(0:Int)))=true then
     some true
    else
     if (decide ((bk.length:Int)=(2:Int)))=true then
      p2 (0≤(0:Int)∧(0:Int)<(bk.length:Int)) <|
      if (decide ((ix bk (0:Int))=figure))=true then
       some true
      else
       p2 (0≤(1:Int)∧(1:Int)<(bk.length:Int)) <|
       some (decide ((ix bk (1:Int))=figure))
     else
      some false
   else
    some false
  else
   some false
end Go.Proofs.YtfakoboiahbhaaaGreat.Ab


namespace Go.Proofs.YtfakoboiahbhaaaGreat.Ab
open Go
def MC (l:Row):Row:=(l.map fun p=>(p.1,1-p.2)).reverse
section
variable {b:p3} {S:List Int}
theorem ai8 {p:Int×Int} (h:0≤p.2∧p.2≤1):qz b (p.1,1-p.2)=fin b p∧fin b (p.1,1-p.2)=qz b p:=by
 unfold qz fin;rcases show p.2=0∨p.2=1 by omega with e | e
 ·simp [e]
 ·simp [e]
theorem YH:∀ (l:Row) (a c:Int),(∀ p∈l,0≤p.2∧p.2≤1)→qE b a l=some c→qE b c (MC l)=some a
 | [],a,c,_,h=>by
   have:a=c:=by simpa [qE] using h
   subst this;rfl
 | p::l,a,c,ad,h=>by
   obtain ⟨cd,b_⟩:=Ju.1 h;have a':=YH l _ c (fun q a4=>ad q (by simp [a4])) b_;have ax:=ai8 (b:=b) (ad p (by simp));unfold MC at a' ⊢;rw [sE,List.reverse_cons,Jt,a',rW];exact J_.2 ⟨ax.1,by rw [ax.2];exact cd⟩
theorem adm (l:Row):((MC l).map (·.1)).Perm (l.map (·.1)):=by
 unfold MC;rw [List.map_reverse,tq];exact vm _
theorem Ug:∀ (l:Row) (a c:Int),qE b a l=some c→∀ p∈l,q8 b (l.map (·.1)) a (qz b p)∧q8 b (l.map (·.1)) a (fin b p)
 | [],_,_,_,p,aC=>by simp at aC
 | q::l,a,c,h,p,aC=>by
   obtain ⟨cd,b_⟩:=Ju.1 h;have a4:q8 b ((q::l).map (·.1)) a (fin b q):=.one (i:=q.1) (by simp) ((J1 q a).2 (.inl cd)) ((J1 q _).2 (.inr rfl));rcases sf.1 aC with rfl | aC
   ·exact ⟨by rw [cd];exact .refl,a4⟩
   ·have a':=Ug l _ c b_ p aC;(have hm:∀ x∈l.map (·.1),x∈(q::l).map (·.1):=fun x al=>by simp only [sE,sf];exact .inr al);exact ⟨a4.trans (a'.1.mono hm),a4.trans (a'.2.mono hm)⟩
theorem ah7 {l:Row} {a c:Int} (h:qE b a l=some c):Lo b (l.map (·.1)):=by
 intro x al y a1 f g aQ aO;obtain ⟨p,aC,rfl⟩:=sq.1 al;obtain ⟨q,a4,rfl⟩:=sq.1 a1;have ao:∀ p∈l,∀ f,qJ b p.1 f→q8 b (l.map (·.1)) a f:=fun p aC f aQ=>by
  rcases (J1 p f).1 aQ with rfl | rfl
  ·exact (Ug l a c h p aC).1
  ·exact (Ug l a c h p aC).2
 exact (ao p aC f aQ).symm.trans (ao q a4 g aO)
theorem Lo.perm {S S':List Int} (h:Lo b S) (aC:S.Perm S'):Lo b S':=fun x al y a1 f g aQ aO=>(h x (aC.mem_iff.2 al) y (aC.mem_iff.2 a1) f g aQ aO).mono fun z bo=>aC.mem_iff.1 bo
def Kj (b:p3) (S:List Int) (f:Int):Prop:=S=[]∨(Lo b S∧(∃ i∈S,qJ b i f)∧(rk b S=[]∨((rk b S).length=2∧f∈rk b S)))
structure IE (b:p3) (S:List Int) (a c:Int) (l:Row):Prop where
 ok:∀ p∈l,IQ b p
 go:qE b a l=some c
 all:(l.map (·.1)).Perm S
theorem V0 (p1:qH b) {p:Int×Int} (aC:IQ b p):(0≤qz b p∧qz b p<b.1)∧0≤fin b p∧fin b p<b.1:=by
 have hm:=Hl.2 ⟨aC.1,aC.2.1⟩;exact ⟨Nq p1 hm ((J1 p _).2 (.inl rfl)),Nq p1 hm ((J1 p _).2 (.inr rfl))⟩
theorem YI:∀ (l:Row) (a c:Int),l≠[]→qE b a l=some c→∃ p∈l,fin b p=c
 | [],_,_,h,_=>absurd rfl h
 | [p],a,c,_,h=>⟨p,by simp,(J_.1 h).2⟩
 | p::q::l,a,c,_,h=>by
   obtain ⟨r,aj,e⟩:=YI (q::l) _ c (by simp) (Ju.1 h).2;exact ⟨r,List.mem_cons_of_mem _ aj,e⟩
theorem IE.ends (p1:qH b) {a c:Int} {l:Row} (h:IE b S a c l) (aT:l≠[]):(0≤a∧a<b.1)∧(0≤c∧c<b.1)∧(∃ i∈S,qJ b i a)∧∃ i∈S,qJ b i c:=by
 obtain ⟨p,aC,e⟩:=YI l a c aT h.go
 match l,aT,h with
 | q::l,_,h =>
   have cm:=(Ju.1 h.go).1;have ad:=V0 p1 (h.ok q (by simp));have af:=V0 p1 (h.ok p aC);rw [cm] at ad;rw [e] at af;exact ⟨ad.1,af.2,⟨q.1,h.all.mem_iff.1 (by simp),(J1 q _).2 (.inl cm)⟩,⟨p.1,h.all.mem_iff.1 (List.mem_map_of_mem aC),(J1 p _).2 (.inr e)⟩⟩
theorem IE.Xw (p1:qH b) {a c:Int} {l:Row} (h:IE b S a c l) (aT:l≠[]):(a=c→rk b S=[])∧(a≠c→(rk b S).Perm [a,c]):=by
 have W4:=fun v=>Oe l a c v h.go;have bX:=p1.f6;obtain ⟨cg,ao,_,_⟩:=h.ends p1 aT;have a0:∀ v,qI b (l.map (·.1)) v=qI b S v:=fun v=>O' h.all v;constructor
 ·rintro rfl;refine List.eq_nil_iff_forall_not_mem.2 fun v ae=>?_;have ad:=(LL.1 ae).2;have af:=W4 v;rw [a0] at af;split at af <;> omega
 ·intro bO;refine (uV ((PK S).imp fun h e=>by omega) (by simp [bO])).2 fun v=>?_;have af:=W4 v;rw [a0] at af;rw [LL];simp only [sf,ub,or_false];constructor
  ·rintro ⟨_,ad⟩;by_cases e1:a=v
   ·exact .inl e1.symm
   ·by_cases cm:c=v
    ·exact .inr cm.symm
    ·rw [if_neg e1,if_neg cm] at af;omega
  ·rintro (rfl | rfl)
   ·rw [if_pos rfl,if_neg (Ne.symm bO)] at af;exact ⟨⟨cg.1,by omega⟩,by omega⟩
   ·rw [if_pos rfl,if_neg bO] at af;exact ⟨⟨ao.1,by omega⟩,by omega⟩
theorem IE.back {a c:Int} {l:Row} (h:IE b S a c l):IE b S c a (MC l):=by
 refine ⟨fun p aC=>?_,YH l a c (fun p aC=>(h.ok p aC).2.2) h.go,(adm l).trans h.all⟩;unfold MC at aC;obtain ⟨q,a4,rfl⟩:=sq.1 (v9.1 aC);have:=h.ok q a4;exact ⟨this.1,this.2.1,by simp only;have:=this.2.2;omega,by simp only;have:=this.2.2;omega⟩
theorem IE.ahU {a f:Int} {l:Row} (h:IE b S a a l) (aQ:∃ i∈S,qJ b i f):∃ l',IE b S f f l':=by
 obtain ⟨i,hi,kt⟩:=aQ;obtain ⟨p,aC,rfl⟩:=sq.1 (h.all.mem_iff.2 hi);obtain ⟨dK,kL,rfl⟩:=List.append_of_mem aC;have HJ:=h.go;rw [Jt] at HJ;obtain ⟨c,cd,b_⟩:=qi HJ;obtain ⟨dZ,hq⟩:=Ju.1 b_;have mk:∀ {x y:Row} {f:Int},x++y=dK++p::kL→qE b a x=some f→qE b f y=some a→IE b S f f (y++x):=fun {x y f} e ad af=>by
  have IM:(y++x).Perm (dK++p::kL):=by rw [←e];exact vY
  exact ⟨fun q a4=>h.ok q (IM.mem_iff.1 a4),by rw [Jt,af];exact ad,(IM.map _).trans h.all⟩
 rcases (J1 p f).1 kt with rfl | rfl
 ·exact ⟨_,mk (x:=dK) (y:=p::kL) rfl (by rw [dZ];exact cd) (by rw [dZ];exact b_)⟩
 ·exact ⟨_,mk (x:=dK++[p]) (y:=kL) (by simp) (by rw [Jt,cd];exact J_.2 ⟨dZ,rfl⟩) hq⟩
theorem aeH (p1:qH b) (cp:rN b S) (ak:S.length≤990) (aT:S≠[]) (bK:Lo b S):∃ R,U3 b S R:=by
 obtain ⟨l,a,ad,af,aG⟩:=round_part p1 cp ak aT bK;exact ⟨_,agK p1 cp aT af aG⟩
theorem RowsOf.single {R:List Row} (h:RowsOf b S R) (ad:R.length=1):∃ l a c,R=[l]∧IE b S a c l:=by
 obtain ⟨l,rfl⟩:=List.length_eq_one_iff.1 ad;obtain ⟨a,c,aO⟩:=h.go l (by simp);exact ⟨l,a,c,rfl,h.ok l (by simp),aO,by simpa using h.all⟩
theorem WH (p1:qH b) (cp:rN b S) (ak:S.length≤990) {f:Int}:Kj b S f↔∃ l c,IE b S f c l:=by
 constructor
 ·rintro (rfl | ⟨bK,aQ,aq⟩)
  ·exact ⟨[],f,fun p aC=>absurd aC (by simp),rfl,by simp⟩
  ·(have aT:S≠[]:=fun e=>by obtain ⟨i,hi,_⟩:=aQ;rw [e] at hi;simp at hi);obtain ⟨R,jz⟩:=aeH p1 cp ak aT bK;have hlen:=jz.len;have ad:R.length=1:=by
    rw [hlen];rcases aq with aq | aq
    ·rw [aq];rfl
    ·rw [aq.1];rfl
   obtain ⟨l,a,c,aey,bZ⟩:=jz.toRowsOf.single ad;have jH:l≠[]:=jz.ne l (by rw [aey];simp);have JM:=bZ.Xw p1 jH;rcases aq with aq | ⟨af,aeP⟩
   ·have:a=c:=Classical.byContradiction fun bO=>by
     have:=(JM.2 bO).length_eq;rw [aq] at this;simp at this
    subst this;obtain ⟨l',lP⟩:=bZ.ahU aQ;exact ⟨l',f,lP⟩
   ·(have bO:a≠c:=fun e=>by have:=JM.1 e;rw [this] at af;simp at af);have:=(JM.2 bO).mem_iff.1 aeP;simp only [sf,ub,or_false] at this;rcases this with rfl | rfl
    ·exact ⟨l,c,bZ⟩
    ·exact ⟨_,_,bZ.back⟩
 ·rintro ⟨l,c,bZ⟩;by_cases aT:l=[]
  ·subst aT;left;have:=bZ.all.length_eq;simp at this;exact tn.1 this.symm
  ·right;refine ⟨(ah7 bZ.go).perm bZ.all,(bZ.ends p1 aT).2.2.1,?_⟩;have JM:=bZ.Xw p1 aT;by_cases e:f=c
   ·exact .inl (JM.1 e)
   ·exact .inr ⟨(JM.2 e).length_eq,(JM.2 e).mem_iff.2 (by simp)⟩
theorem Z1 {s:List Int} {v:Int} (ai:s.length≤1000):∀ (m i:Nat) (z:Int),z=i→i≤s.length→s.length-i<m→Qv s v (fun _=>some (-1:Int)) m z=some (posOf (fun x=>decide (v=x)) (s.drop i) i)
 | 0,i,_,_,_,h=>absurd h (by omega)
 | m+1,i,_,rfl,hi,hm=>by
   rw [Qv];by_cases h:i<s.length
   ·rw [I5 h,Hp h,q_ h,List.drop_eq_getElem_cons h,posOf];by_cases aC:v=s[i]
    ·rw [if_pos (decide_eq_true aC),if_pos (decide_eq_true aC)]
    ·rw [if_neg (by simpa using aC),if_neg (by simpa using aC),re i (by omega),Z1 ai m (i+1) _ rfl (by omega) (by omega)]
   ·rw [I4 h,List.drop_eq_nil_of_le (by omega)];rfl
theorem ajX {s:List Int} {v:Int} (ai:s.length≤1000):Ux s v=some (decide (v∈s)):=by
 have:=Z1 (v:=v) ai p6 0 0 rfl (si _) (rq (by omega));rw [List.drop_zero] at this;rw [Ux,Z0,this,rW,N0];congr 1;rw [Bool.eq_iff_iff];simp
def LB (b:p3) (f i:Int):Bool:=decide ((ix b.2 i).1=f) || decide ((ix b.2 i).2=f)
theorem aeN {f i:Int}:LB b f i=true↔qJ b i f:=by unfold LB qJ;simp
theorem ajS (p1:qH b) (cp:rN b S) (aN:S.Nodup) (f:Int):∃ r:Bool,Qr b S f=some r∧(r=true↔Kj b S f):=by
 have ak:S.length≤b.2.length:=LJ aN cp;have dz:=p1.len;have alT:(rk b S).length≤6:=sJ (tD _ _) (by rw [Hw];omega);have lV:=SD p1 cp;obtain ⟨out,ad,af,_⟩:=aaK (b:=b) (S:=S) p1.len aN cp;rw [Qr,aaF p1 cp (by omega),rW];by_cases aT:S=[]
 ·rw [if_pos (by simp [aT])];exact ⟨true,rfl,by simp [Kj,aT]⟩
 ·rw [if_neg (by simpa using aT)];have en:=af.one aT
  have WX:Ki S (fun qq=>Qu qq b f)=some (S.any (LB b f)):=UU (fun x al=>by
   have nA:=cp x al;rw [Qu,qb nA,qb nA];unfold LB
   split <;> simp [*]) (by omega)
  have Pm:S.any (LB b f)=true↔∃ i∈S,qJ b i f:=by
   rw [uT];simp only [aeN]
  by_cases aG:2<(rk b S).length
  ·rw [if_pos (by simp;omega)];refine ⟨false,rfl,?_⟩;simp only [tA,false_iff];rintro (h | ⟨_,_,h | h⟩)
   ·exact aT h
   ·rw [h] at aG;simp at aG
   ·omega
  ·rw [if_neg (by simp;omega)];by_cases a7:(rk b S).length=2
   ·rw [if_pos (by simp [a7]),ajX (by omega),rW];by_cases bN:f∈rk b S
    ·rw [if_pos (decide_eq_true bN),WX,rW];by_cases bX:S.any (LB b f)=true
     ·rw [if_pos bX,ad,rW];refine ⟨_,rfl,?_⟩;rw [decide_eq_true_eq,show ((out.length:Int)=1↔out.length=1) by omega,en];exact ⟨fun h=>.inr ⟨h,Pm.1 bX,.inr ⟨a7,bN⟩⟩,fun h=>h.elim (fun h=>absurd h aT) fun h=>h.1⟩
     ·rw [if_neg bX];exact ⟨false,rfl,by simp only [tA,false_iff];exact fun h=>h.elim aT fun h=>bX (Pm.2 h.2.1)⟩
    ·rw [if_neg (by simpa using bN)];refine ⟨false,rfl,?_⟩;simp only [tA,false_iff];rintro (h | ⟨_,_,h | h⟩)
     ·exact aT h
     ·rw [h] at a7;simp at a7
     ·exact bN h.2
   ·have cP:rk b S=[]:=tn.1 (by omega);rw [if_neg (by simp;omega),WX,rW];by_cases bX:S.any (LB b f)=true
    ·rw [if_pos bX,ad,rW];refine ⟨_,rfl,?_⟩;rw [decide_eq_true_eq,show ((out.length:Int)=1↔out.length=1) by omega,en];exact ⟨fun h=>.inr ⟨h,Pm.1 bX,.inl cP⟩,fun h=>h.elim (fun h=>absurd h aT) fun h=>h.1⟩
    ·rw [if_neg bX];exact ⟨false,rfl,by simp only [tA,false_iff];exact fun h=>h.elim aT fun h=>bX (Pm.2 h.2.1)⟩
end
end Go.Proofs.YtfakoboiahbhaaaGreat.Ab


namespace Go.Proofs.YtfakoboiahbhaaaGreat.Ab
open Go
set_option maxRecDepth 20000
set_option maxHeartbeats 4000000
def UR (b:p8):Option Int :=
 (Hi b).bind fun aS =>
 if (decide (aS≠(0:Int)))=true then
  (Hi b).bind fun bk =>
  some bk
 else
  if (decide ((b.2.length:Int)=(0:Int)))=true then
   some (5:Int)
  else
   (UQ b).bind fun eE =>
   if (decide ((1:Int)<eE))=true then
    some (27:Int)
   else
    some (0:Int)

def UT (left:p0) (qW:Int) (p4:p0→Option p0):Nat→p0→Int→Option p0
 | 0,_,_=>none
 | m+1,s1,s2 =>
   if (decide (s2<(left.length:Int)))=true then
    p2 (0≤s2∧s2<(left.length:Int)) <|
    if (decide ((ix left s2)≠qW))=true then
     p2 (0≤s2∧s2<(left.length:Int)) <|
     p2 ((s1.length+1)*8≤140737488355328) <|
     UT left qW p4 m (s1++[(ix left s2)]) (w (s2+(1:Int)))
    else
     UT left qW p4 m s1 (w (s2+(1:Int)))
   else
    p4 s1
def US (left:p0) (qW:Int):Option p0 :=
 UT left qW (fun x0 =>
   some x0) p6 ([]:List Int) (0:Int)

def aai (b:p8) (p4:p0→Option (qc×Int)):Nat→p0→Int→Option (qc×Int)
 | 0,_,_=>none
 | m+1,s1,s2 =>
   if (decide (s2<(b.2.length:Int)))=true then
    p2 ((s1.length+1)*8≤140737488355328) <|
    aai b p4 m (s1++[s2]) (w (s2+(1:Int)))
   else
    p4 s1
def L_ (b:p8) (s3:p0) (p_ G_:Int) (LI:qc→Option (qc×Int)):Nat→qc→Int→Option (qc×Int)
 | 0,_,_=>none
 | m+1,Ie,Hg =>
   if (decide (Hg<(2:Int)))=true then
    p2 (0≤G_∧G_<(s3.length:Int)) <|
    if (decide ((Ie.length:Int)=(0:Int)))=true then
     if (decide (p_<(0:Int)))=true then
      (US s3 (ix s3 G_)).bind fun eE =>
      (JU b ((ix s3 G_),Hg)).bind fun qp =>
      (aaS b eE qp).bind fun rj =>
      if rj=true then
       p2 ((Ie.length+1)*16≤140737488355328) <|
       L_ b s3 p_ G_ LI m (Ie++[((ix s3 G_),Hg)]) (w (Hg+(1:Int)))
      else
       L_ b s3 p_ G_ LI m Ie (w (Hg+(1:Int)))
     else
      (Lj b ((ix s3 G_),Hg)).bind fun G9 =>
      if (decide (p_=G9))=true then
       (US s3 (ix s3 G_)).bind fun HE =>
       (JU b ((ix s3 G_),Hg)).bind fun JP =>
       (aaS b HE JP).bind fun HS =>
       if HS=true then
        p2 ((Ie.length+1)*16≤140737488355328) <|
        L_ b s3 p_ G_ LI m (Ie++[((ix s3 G_),Hg)]) (w (Hg+(1:Int)))
       else
        L_ b s3 p_ G_ LI m Ie (w (Hg+(1:Int)))
      else
       L_ b s3 p_ G_ LI m Ie (w (Hg+(1:Int)))
    else
     L_ b s3 p_ G_ LI m Ie (w (Hg+(1:Int)))
   else
    LI Ie
def aak (b:p8) (s3:p0) (p_:Int) (ra:qc→Option (qc×Int)):Nat→qc→Int→Option (qc×Int)
 | 0,_,_=>none
 | m+1,ql,G_ =>
   if (decide (G_<(s3.length:Int)))=true then
    L_ b s3 p_ G_ (fun oq =>
      aak b s3 p_ ra m oq (w (G_+(1:Int)))) p6 ql (0:Int)
   else
    ra ql
def aaj (b:p8) (qn:qc→Option (qc×Int)):Nat→p0→qc→Int→Option (qc×Int)
 | 0,_,_,_=>none
 | m+1,s3,Gz,p_ =>
   if (decide ((0:Int)<(s3.length:Int)))=true then
    aak b s3 p_ (fun oq =>
      if (decide ((oq.length:Int)=(0:Int)))=true then
       some (Gz,(0:Int))
      else
       p2 (0≤(0:Int)∧(0:Int)<(oq.length:Int)) <|
       p2 ((Gz.length+1)*16≤140737488355328) <|
       p2 (0≤(0:Int)∧(0:Int)<(oq.length:Int)) <|
       (US s3 ((ix oq (0:Int)).1)).bind fun HX =>
       p2 (0≤(0:Int)∧(0:Int)<(oq.length:Int)) <|
       (JU b (ix oq (0:Int))).bind fun LO =>
       aaj b qn m HX (Gz++[(ix oq (0:Int))]) LO) p6 ([]:List (Int×Int)) (0:Int)
   else
    qn Gz
def akC (b:p8):Option (qc×Int) :=
 (UR b).bind fun aS =>
 if (decide (aS≠(0:Int)))=true then
  (UR b).bind fun bk =>
  some ([],bk)
 else
  aai b (fun x0 =>
    aaj b (fun FX =>
      some (FX,(0:Int))) p6 x0 ([]:List (Int×Int)) (-1:Int)) p6 ([]:List Int) (0:Int)
end Go.Proofs.YtfakoboiahbhaaaGreat.Ab


namespace Go.Proofs.YtfakoboiahbhaaaGreat.Ab
open Go
def Lf (S:List Int) (i:Int):List Int:=S.filter fun x=>decide (x≠i)
def NB (b:p3) (S:List Int) (f:Int):Bool:=(Qr b S f).getD false
def Rx (b:p3) (S:List Int) (at_:Int) (p:Int×Int):Bool:=(decide (at_<0) || decide (qz b p=at_)) && NB b (Lf S p.1) (fin b p)
def V8 (b:p3) (S:List Int) (at_ i:Int):Row:=[(i,0),(i,1)].filter (Rx b S at_)
def Ni (b:p3) (S:List Int) (at_:Int):Row:=S.flatMap (V8 b S at_)
def XC (b:p3):Nat→List Int→Row→Int→Row
 | 0,_,out,_=>out
 | m+1,S,out,at_=>match Ni b S at_ with
   | []=>out
   | p::_=>XC b m (Lf S p.1) (out++[p]) (fin b p)
def agC (b:p3):Row:=XC b (b.2.length+1) (upto b.2.length) [] (-1)
section
variable {b:p3} {S:List Int}
theorem aes (p1:qH b) (cp:rN b S) (aN:S.Nodup) (f:Int):Qr b S f=some (NB b S f)∧(NB b S f=true↔Kj b S f):=by
 obtain ⟨r,ad,af⟩:=ajS p1 cp aN f
 have:NB b S f=r:=by unfold NB;rw [ad];rfl
 rw [this];exact ⟨ad,af⟩
theorem ZS (cp:rN b S) (i:Int):rN b (Lf S i):=fun x al=>cp x (sK.1 al).1
theorem ZT (aN:S.Nodup) (i:Int):(Lf S i).Nodup:=aN.filter _
theorem ajK (aN:S.Nodup) {i:Int} (hi:i∈S):S.Perm (i::Lf S i):=by
 refine (uV aN ?_).2 fun x=>?_
 ·rw [tY];refine ⟨fun h=>?_,ZT aN i⟩;have:=(sK.1 h).2;simp at this
 ·rw [sf,Lf,sK];constructor
  ·intro h;by_cases e:x=i
   ·exact .inl e
   ·exact .inr ⟨h,by simpa using e⟩
  ·rintro (rfl | h)
   ·exact hi
   ·exact h.1
theorem agr {at_:Int} {p:Int×Int}:p∈Ni b S at_↔p.1∈S∧(p.2=0∨p.2=1)∧Rx b S at_ p=true:=by
 unfold Ni V8;rw [uQ];constructor
 ·rintro ⟨i,hi,h⟩;rw [sK] at h;obtain ⟨ad,af⟩:=h;simp only [sf,ub,or_false] at ad;rcases ad with rfl | rfl
  ·exact ⟨hi,.inl rfl,af⟩
  ·exact ⟨hi,.inr rfl,af⟩
 ·rintro ⟨ad,af,aG⟩;refine ⟨p.1,ad,sK.2 ⟨?_,aG⟩⟩;obtain ⟨bT,b6⟩:=p;rcases af with af | af
  ·simp only at af;subst af;simp
  ·simp only at af;subst af;simp
def U1 (b:p3) (S:List Int) (at_:Int):Prop:=(at_<0∧∃ f,Kj b S f)∨(0≤at_∧Kj b S at_)
theorem U1.next (p1:qH b) (cp:rN b S) (aN:S.Nodup) {at_:Int} (h:U1 b S at_) (aT:S≠[]):Ni b S at_≠[]:=by
 have ak:S.length≤990:=sJ (LJ aN cp) (by have:=p1.len;omega);obtain ⟨f,aQ,aO⟩:∃ f,(at_<0∨f=at_)∧Kj b S f:=by
  rcases h with ⟨ad,f,af⟩ | ⟨_,af⟩
  ·exact ⟨f,.inl ad,af⟩
  ·exact ⟨_,.inr rfl,af⟩
 obtain ⟨l,c,bZ⟩:=(WH p1 cp ak).1 aO
 match l,bZ with
 | [],bZ =>
   have:=bZ.all.length_eq;simp at this;exact absurd (tn.1 this.symm) aT
 | p::l,bZ =>
   obtain ⟨cd,b_⟩:=Ju.1 bZ.go;have aC:=bZ.ok p (by simp);have W3:p.1∈S:=bZ.all.mem_iff.1 (by simp);have IM:(l.map (·.1)).Perm (Lf S p.1):=by
    have:=bZ.all.trans (ajK aN W3);rw [sE] at this;exact this.cons_inv
   have HJ:Kj b (Lf S p.1) (fin b p):=(WH p1 (ZS cp _) (sJ (tD _ _) ak)).2 ⟨l,c,fun q a4=>bZ.ok q (by simp [a4]),b_,IM⟩
   have hm:p∈Ni b S at_:=agr.2 ⟨W3,by have:=aC.2.2;omega,by
    unfold Rx;rw [(aes p1 (ZS cp _) (ZT aN _) _).2.2 HJ];rcases aQ with aQ | rfl
    ·simp [aQ]
    ·simp [cd]⟩
   intro e;rw [e] at hm;simp at hm
end
end Go.Proofs.YtfakoboiahbhaaaGreat.Ab
