
import Derived.Test.YtfakoboiahbhaaaGreatJj5
import Derived.Test.YtfakoboiahbhaaaGreatJj8
import Derived.Test.YtfakoboiahbhaaaGreatJj4
import Derived.KernelRfl
import Derived.Test.YtfakoboiahbhaaaGreatProg
set_option linter.unusedSimpArgs false
set_option linter.unusedVariables false
set_option linter.unusedSectionVars false

open Int renaming toNat_natCast→tB
open List renaming all_eq_true→sC,any_eq_true→uw,append_assoc→sj,append_nil→sP,cons_append→uQ,drop_eq_getElem_cons→sW,drop_zero→sQ,ext_getElem?→tI,filter_append→tW,filter_cons→tp,find?_eq_none→vL,flatMap_cons→tV,flatten_append→vQ,flatten_cons→uI,getD_eq_getElem?_getD→sG,getElem?_append→sc,getElem?_eq_none→tw,getElem?_eq_some_iff→sa,getElem?_map→sA,getElem?_set_ne→sg,getElem?_set_self→si,getElem?_take→sT,getElem_append_left→wx,getElem_append_right→wy,getElem_map→ub,getElem_mem→sD,getElem_of_mem→tY,getElem_set→wz,length_append→su,length_cons→sI,length_eq_zero_iff→tf,length_filter_le→tq,length_map→sZ,length_nil→uE,length_pos_iff→uc,length_set→ta,length_singleton→tL,length_take→sV,map_append→td,map_cons→ss,map_map→tx,map_nil→tz,mem_append→sS,mem_append_left→vg,mem_cons→sk,mem_filter→sK,mem_flatten→vi,mem_map→sv,mem_of_find?_eq_some→vM,mem_range→sJ,mem_reverse→wB,mem_singleton→sN,nil_append→uh,nodup_append→ux,nodup_cons→ue,nodup_range→tS,pairwise_append→uZ,pairwise_cons→tc,pairwise_iff_getElem→tC,pairwise_map→uD,perm_append_comm→wA,perm_ext_iff_of_nodup→uy,range_succ→vh,reverse_perm→vO,set_set→sR,sum_cons→uU,take_length→tQ,take_of_length_le→tO,take_zero→tg
open Nat renaming le_refl→sd,le_trans→sH,lt_succ_self→sm,lt_trans→uR,min_eq_left→tF,zero_add→sO,zero_le→sr
open Option renaming bind_some→sb,map_eq_some_iff→r_
namespace Go.Proofs.YtfakoboiahbhaaaGreat.Ab
open Go
theorem Yy:∀ {a b:List Int},a.Pairwise (·<·)→b.Pairwise (·<·)→(∀ x,x∈a↔x∈b)→a=b
 | [],[],_,_,_=>rfl
 | [],y::b,_,_,h=>by have:=(h y).2 (by simp);simp at this
 | x::a,[],_,_,h=>by have:=(h x).1 (by simp);simp at this
 | x::a,y::b,cd,ag,h=>by
   obtain ⟨aB,aH⟩:=tc.1 cd;obtain ⟨bo,cI⟩:=tc.1 ag;have Ix:x=y:=by
    rcases sk.1 ((h x).1 (by simp)) with e | e
    ·exact e
    ·rcases sk.1 ((h y).2 (by simp)) with ck | ck
     ·exact ck.symm
     ·have:=aB y ck;have:=bo x e;omega
   subst Ix;rw [Yy aH cI fun z=>?_];constructor
   ·intro bm;rcases sk.1 ((h z).1 (by simp [bm])) with e | e
    ·have:=aB z bm;omega
    ·exact e
   ·intro bm;rcases sk.1 ((h z).2 (by simp [bm])) with e | e
    ·have:=bo z bm;omega
    ·exact e
theorem QT {α:Type} [Inhabited α] {lt:α→α→Bool} (ai:Sort.SWO lt) (l:List α):((Sort.insertionSort lt l.toArray 0 l.length).toList).Perm l∧((Sort.insertionSort lt l.toArray 0 l.length).toList).Pairwise (fun x y=>lt y x=false):=by
 obtain ⟨⟨ad,_,aG⟩,a6⟩:=Sort.insertionSort_holds (lt:=lt) ai l.toArray 0 l.length (sr _) (by simp);generalize Sort.insertionSort lt l.toArray 0 l.length=d at ad aG a6;have ad:d.size=l.length:=by simpa using ad
 have e1:(d.extract 0 l.length).toList=d.toList:=by rw [←ad];simp
 have ck:(l.toArray.extract 0 l.length).toList=l:=by simp
 rw [e1,ck] at aG;refine ⟨aG,tC.2 fun i j hi aw gW=>?_⟩;have hi':i<d.size:=by simpa using hi
 have ee:j<d.size:=by simpa using aw
 have:=a6 i j (sr _) gW (by omega);rw [getElem!_pos d i hi',getElem!_pos d j ee] at this;simpa using this
theorem aiJ (l:List Int):(HA l).Perm l:=(QT Sort.swo_ltInt l).1
theorem aiK {l:List Int} (h:l.Nodup):(HA l).Pairwise (·<·):=by
 have aQ:=QT Sort.swo_ltInt l;have aN:(HA l).Nodup:=aQ.1.nodup_iff.2 h;refine tC.2 fun i j hi aw gW=>?_;have ad:=tC.1 aQ.2 i j hi aw gW;have af:=tC.1 aN i j hi aw gW;simp only [Sort.ltInt,decide_eq_false_iff_not] at ad;have ad:¬ (HA l)[j]<(HA l)[i]:=ad;omega
theorem YV:Sort.SWO Ik:=by
 constructor
 all_goals intros
 all_goals simp only [Ik,decide_eq_true_eq,decide_eq_false_iff_not] at *
 all_goals omega
theorem aiO (l:List (List Int)):(I6 l).Perm l:=(QT YV l).1
theorem aiP {l:List (List Int)} (h:l.Pairwise fun x y=>ix x 0≠ix y 0):(I6 l).Pairwise fun x y=>ix x 0<ix y 0:=by
 have aQ:=QT YV l;have aN:(I6 l).Pairwise fun x y=>ix x 0≠ix y 0:=aQ.1.symm.pairwise h fun {x y} Ix=>Ne.symm Ix;refine tC.2 fun i j hi aw gW=>?_;have ad:=tC.1 aQ.2 i j hi aw gW;have af:=tC.1 aN i j hi aw gW;simp only [Ik,decide_eq_false_iff_not] at ad;have ad:¬ ix (I6 l)[j] 0<ix (I6 l)[i] 0:=ad;omega
theorem YB:∀ {P Q:List (List Int)},P.Pairwise (fun x y=>ix x 0<ix y 0)→Q.Pairwise (fun x y=>ix x 0<ix y 0)→(∀ r,r∈P↔r∈Q)→P=Q
 | [],[],_,_,_=>rfl
 | [],y::b,_,_,h=>by have:=(h y).2 (by simp);simp at this
 | x::a,[],_,_,h=>by have:=(h x).1 (by simp);simp at this
 | x::a,y::b,cd,ag,h=>by
   obtain ⟨aB,aH⟩:=tc.1 cd;obtain ⟨bo,cI⟩:=tc.1 ag;have Ix:x=y:=by
    rcases sk.1 ((h x).1 (by simp)) with e | e
    ·exact e
    ·rcases sk.1 ((h y).2 (by simp)) with ck | ck
     ·exact ck.symm
     ·have:=aB y ck;have:=bo x e;omega
   subst Ix;rw [YB aH cI fun z=>?_];constructor
   ·intro bm;rcases sk.1 ((h z).1 (by simp [bm])) with e | e
    ·subst e;have:=aB z bm;omega
    ·exact e
   ·intro bm;rcases sk.1 ((h z).2 (by simp [bm])) with e | e
    ·subst e;have:=bo z bm;omega
    ·exact e
end Go.Proofs.YtfakoboiahbhaaaGreat.Ab


namespace Go.Proofs.YtfakoboiahbhaaaGreat.Ab
open Go
def qv (b:p4) (i f:Int):Prop:=(ix b.2 i).1=f∨(ix b.2 i).2=f
inductive qG (b:p4) (S:List Int) (f:Int):Int→Prop
 | refl:qG b S f f
 | step {g h:Int} (i:Int):qG b S f g→i∈S→qv b i g→qv b i h→qG b S f h
theorem qG.trans {b:p4} {S:List Int} {f g h:Int} (ad:qG b S f g) (af:qG b S g h):qG b S f h:=by
 induction af with
 | refl=>exact ad
 | step i _ hi aB aH a_=>exact .step i a_ hi aB aH
theorem qG.one {b:p4} {S:List Int} {f g i:Int} (hi:i∈S) (ad:qv b i f) (af:qv b i g):qG b S f g:=.step i .refl hi ad af
theorem qG.symm {b:p4} {S:List Int} {f g:Int} (h:qG b S f g):qG b S g f:=by
 induction h with
 | refl=>exact .refl
 | step i _ hi aB aH a_=>exact (qG.one hi aH aB).trans a_
theorem qG.mono {b:p4} {S S':List Int} {f g:Int} (cm:∀ x∈S,x∈S') (h:qG b S f g):qG b S' f g:=by
 induction h with
 | refl=>exact .refl
 | step i _ hi aB aH a_=>exact .step i a_ (cm i hi) aB aH
def QY (b:p4) (i k:Int):Bool:=JF (ix b.2 i) (ix b.2 k)
theorem Zo {b:p4} {i k:Int}:QY b i k=true↔∃ f,qv b i f∧qv b k f:=by
 unfold QY JF qv;simp only [Bool.or_eq_true,decide_eq_true_eq];constructor
 ·rintro (((h | h) | h) | h)
  ·exact ⟨_,.inl rfl,.inl h.symm⟩
  ·exact ⟨_,.inl rfl,.inr h.symm⟩
  ·exact ⟨_,.inr rfl,.inl h.symm⟩
  ·exact ⟨_,.inr rfl,.inr h.symm⟩
 ·rintro ⟨f,ad | ad,af | af⟩ <;> omega
def IJ (b:p4) (s:Int) (r:List Int):Bool:=r.any (QY b s)
structure qZ (b:p4) (S:List Int) (out:List (List Int)):Prop where
 ne:∀ r∈out,r≠[]
 so:∀ r∈out,r.Pairwise (·<·)
 mem:∀ x,x∈S↔∃ r∈out,x∈r
 ri:out.Pairwise fun r q=>∀ x∈r,x ∉ q
 IF:∀ r∈out,∀ x∈r,∀ y∈r,∀ f g,qv b x f→qv b y g→qG b S f g
 sep:∀ r∈out,∀ q∈out,∀ x∈r,∀ y∈q,∀ f,qv b x f→qv b y f→r=q
def own (b:p4) (out:List (List Int)) (s:Int):List Int:=s::(out.filter (IJ b s)).flatten
def zC (b:p4) (out:List (List Int)) (s:Int):List (List Int):=(out.filter fun r=>!IJ b s r)++[HA (own b out s)]
section
variable {b:p4} {S:List Int} {out:List (List Int)} {s:Int}
theorem qZ.uniq (h:qZ b S out) {r q:List Int} {x:Int} (aj:r∈out) (a3:q∈out) (ad:x∈r) (af:x∈q):r=q:=h.sep r aj q a3 x ad x af _ (.inl rfl) (.inl rfl)
theorem XV {x:Int}:x∈own b out s↔x=s∨∃ r∈out,IJ b s r=true∧x∈r:=by
 unfold own;simp only [sk,vi,sK,and_assoc]
theorem qZ.X3 (h:qZ b S out) (ai:s ∉ S):(own b out s).Nodup:=by
 unfold own;refine ue.2 ⟨fun hm=>?_,?_⟩
 ·obtain ⟨r,aj,al⟩:=vi.1 hm;exact ai ((h.mem s).2 ⟨r,(sK.1 aj).1,al⟩)
 ·refine List.pairwise_flatten.2 ⟨fun r aj=>(h.so r (sK.1 aj).1).imp fun Ix e=>by omega,(h.ri.filter _).imp fun Ma x al y a0 e=>Ma x al (by rw [e];exact a0)⟩
theorem qZ.step (h:qZ b S out) (ai:s ∉ S):qZ b (S++[s]) (zC b out s):=by
 have jG:=h.X3 ai;have M4:∀ x,x∈HA (own b out s)↔x=s∨∃ r∈out,IJ b s r=true∧x∈r:=fun x=>by rw [(aiJ _).mem_iff];exact XV
 have Kh:∀ r,r∈zC b out s↔(r∈out∧IJ b s r=false)∨r=HA (own b out s):=fun r=>by
  unfold zC;simp only [sS,sK,sN,Bool.not_eq_true']
 have Iw:∀ x∈S,x∈S++[s]:=fun x al=>by simp [al]
 have Xq:∀ x∈HA (own b out s),∀ f,qv b x f→qG b (S++[s]) (ix b.2 s).1 f:=fun x al f aQ=>by
  rcases (M4 x).1 al with rfl | ⟨r,aj,bI,JT⟩
  ·exact .one (by simp) (.inl rfl) aQ
  ·obtain ⟨k,av,ax⟩:=uw.1 bI;obtain ⟨g,cb,b8⟩:=Zo.1 ax;exact (qG.one (i:=s) (by simp) (.inl rfl) cb).trans ((h.IF r aj k av x JT g f b8 aQ).mono Iw)
 have fV:∀ r∈out,IJ b s r=false→∀ x∈r,∀ y∈HA (own b out s),∀ f,qv b x f→qv b y f→False:=fun r aj bI x al y a0 f f1 f2=>by
  rcases (M4 y).1 a0 with rfl | ⟨q,a3,CW,afn⟩
  ·have:IJ b y r=true:=uw.2 ⟨x,al,Zo.2 ⟨f,f2,f1⟩⟩
   rw [this] at bI;cases bI
  ·obtain rfl:=h.sep r aj q a3 x al y afn f f1 f2;rw [CW] at bI;cases bI
 refine ⟨fun r aj=>?_,fun r aj=>?_,fun x=>?_,?_,fun r aj x al y a0 f g aQ aO=>?_,fun r aj q a3 x al y a0 f aQ aO=>?_⟩
 ·rcases (Kh r).1 aj with ⟨ad,_⟩ | rfl
  ·exact h.ne r ad
  ·intro e;have:=(M4 s).2 (.inl rfl);rw [e] at this;cases this
 ·rcases (Kh r).1 aj with ⟨ad,_⟩ | rfl
  ·exact h.so r ad
  ·exact aiK jG
 ·constructor
  ·intro al;rcases sS.1 al with al | al
   ·obtain ⟨r,aj,JT⟩:=(h.mem x).1 al;cases bI:IJ b s r with
    | true=>exact ⟨_,(Kh _).2 (.inr rfl),(M4 x).2 (.inr ⟨r,aj,bI,JT⟩)⟩
    | false=>exact ⟨r,(Kh r).2 (.inl ⟨aj,bI⟩),JT⟩
   ·exact ⟨_,(Kh _).2 (.inr rfl),(M4 x).2 (.inl (by simpa using al))⟩
  ·rintro ⟨r,aj,JT⟩;rcases (Kh r).1 aj with ⟨ad,_⟩ | rfl
   ·exact Iw x ((h.mem x).2 ⟨r,ad,JT⟩)
   ·rcases (M4 x).1 JT with rfl | ⟨q,a3,_,M8⟩
    ·simp
    ·exact Iw x ((h.mem x).2 ⟨q,a3,M8⟩)
 ·unfold zC;refine uZ.2 ⟨h.ri.filter _,by simp,fun r aj q a3 x al M8=>?_⟩;simp only [sN] at a3;subst a3;have aj:=sK.1 aj;exact fV r aj.1 (by simpa using aj.2) x al x M8 _ (.inl rfl) (.inl rfl)
 ·rcases (Kh r).1 aj with ⟨ad,_⟩ | rfl
  ·exact (h.IF r ad x al y a0 f g aQ aO).mono Iw
  ·exact (Xq x al f aQ).symm.trans (Xq y a0 g aO)
 ·rcases (Kh r).1 aj with ⟨ad,af⟩ | rfl
  ·rcases (Kh q).1 a3 with ⟨aG,_⟩ | rfl
   ·exact h.sep r ad q aG x al y a0 f aQ aO
   ·exact (fV r ad af x al y a0 f aQ aO).elim
  ·rcases (Kh q).1 a3 with ⟨aG,a6⟩ | rfl
   ·exact (fV q aG a6 y a0 x al f aO aQ).elim
   ·rfl
theorem qZ.perm {GN:List (List Int)} (h:qZ b S out) (aC:GN.Perm out):qZ b S GN:=by
 refine ⟨fun r aj=>h.ne r (aC.mem_iff.1 aj),fun r aj=>h.so r (aC.mem_iff.1 aj),fun x=>?_,aC.symm.pairwise h.ri fun {r q} Ma x al iN=>Ma x iN al,fun r aj=>h.IF r (aC.mem_iff.1 aj),fun r aj q a3=>h.sep r (aC.mem_iff.1 aj) q (aC.mem_iff.1 a3)⟩;rw [h.mem x];exact ⟨fun ⟨r,aj,al⟩=>⟨r,aC.mem_iff.2 aj,al⟩,fun ⟨r,aj,al⟩=>⟨r,aC.mem_iff.1 aj,al⟩⟩
theorem qZ.closed (h:qZ b S out) {q:List Int} (a3:q∈out) {x:Int} (al:x∈q) {f g:Int} (aQ:qv b x f) (ao:qG b S f g):∀ z∈S,qv b z g→z∈q:=by
 induction ao with
 | refl =>
   intro z bm Tb;obtain ⟨r,aj,fH⟩:=(h.mem z).1 bm;rw [h.sep q a3 r aj x al z fH f aQ Tb];exact fH
 | step i _ hi aB aH a_ =>
   intro z bm Tb;have lU:=a_ i hi aB;obtain ⟨r,aj,fH⟩:=(h.mem z).1 bm;rw [h.sep q a3 r aj i lU z fH _ aH Tb];exact fH
theorem qZ.same {P Q:List (List Int)} (B_:qZ b S P) (bl:qZ b S Q) (ad:P.Pairwise fun x y=>ix x 0<ix y 0) (af:Q.Pairwise fun x y=>ix x 0<ix y 0):P=Q:=by
 have key:∀ {P Q:List (List Int)},qZ b S P→qZ b S Q→∀ r∈P,r∈Q:=fun {P Q} B_ bl r aj=>by
  obtain ⟨x,al⟩:=List.exists_mem_of_ne_nil r (B_.ne r aj);have afk:=(B_.mem x).2 ⟨r,aj,al⟩;obtain ⟨q,a3,M8⟩:=(bl.mem x).1 afk;have e:r=q:=Yy (B_.so r aj) (bl.so q a3) fun y=>by
   constructor
   ·intro a0;exact bl.closed a3 M8 (.inl rfl) (B_.IF r aj x al y a0 _ _ (.inl rfl) (.inl rfl)) y ((B_.mem y).2 ⟨r,aj,a0⟩) (.inl rfl)
   ·intro a0;exact B_.closed aj al (.inl rfl) (bl.IF q a3 x M8 y a0 _ _ (.inl rfl) (.inl rfl)) y ((bl.mem y).2 ⟨q,a3,a0⟩) (.inl rfl)
  rw [e];exact a3
 exact YB ad af fun r=>⟨key B_ bl r,key bl B_ r⟩
end
end Go.Proofs.YtfakoboiahbhaaaGreat.Ab


namespace Go.Proofs.YtfakoboiahbhaaaGreat.Ab
open Go
def q6 (b:p4) (l:List Int):Prop:=∀ x∈l,0≤x∧x<(b.2.length:Int)
section
variable {b:p4} {S:List Int} {out:List (List Int)} {s:Int}
theorem aaQ {r:List Int} (ag:b.2.length≤1000) (aj:q6 b r) (ai:0≤s∧s<(b.2.length:Int)) (ak:r.length≤1000):MI r b s=some (IJ b s r):=by
 rw [MI,U9 (p:=QY b s) (fun k av=>by
  rw [Rf,UP,qc ai,qc (aj k av)];rfl) (by omega),sb];rfl
theorem KM {l:List Int} (aN:l.Nodup) (ak:q6 b l):l.length≤b.2.length:=Nb aN ak
theorem SE (ag:b.2.length≤1000) (ai:0≤s∧s<(b.2.length:Int)):∀ (out:List (List Int)) (acc:List Int),(∀ r∈out,q6 b r∧r.length≤1000)→(acc++(out.filter (IJ b s)).flatten).length≤1000 →
  II (P9 b s) out acc=some (acc++(out.filter (IJ b s)).flatten)
 | [],acc,_,_=>by simp [II]
 | r::out,acc,h,ak=>by
   have aj:=h r (by simp);rw [II,P9,aaQ ag aj.1 ai aj.2,sb];rw [tp] at ak ⊢;cases bI:IJ b s r with
   | true =>
     rw [bI,if_pos rfl,uI,←sj] at ak;have e_:acc.length+r.length≤1000:=by
      rw [su,su] at ak;omega
     rw [if_pos rfl,qc (by omega),sb,SE ag ai out _ (fun q a3=>h q (by simp [a3])) ak,if_pos rfl,uI,sj]
   | false =>
     rw [bI] at ak;rw [if_neg (by decide),sb,SE ag ai out _ (fun q a3=>h q (by simp [a3])) (by simpa using ak),if_neg (by decide)]
theorem Wt {f:List Int→Option Bool} {p:List Int→Bool}:∀ (l:List (List Int)),(∀ r∈l,f r=some (p r))→LW f l=some (l.filter fun r=>!p r)
 | [],_=>rfl
 | r::l,h=>by
   rw [LW,h r (by simp),sb,Wt l fun q a3=>h q (by simp [a3]),sb,tp];cases p r <;> rfl
theorem X9:∀ (l:List (List Int)),(∀ r∈l,r≠[])→l.length≤l.flatten.length
 | [],_=>sd _
 | r::l,h=>by
   have:=X9 l fun q a3=>h q (by simp [a3]);have:=uc.2 (h r (by simp));simp only [uI,su,sI];omega
theorem qZ.WO (h:qZ b S out):out.flatten.Nodup :=
 List.pairwise_flatten.2 ⟨fun r aj=>(h.so r aj).imp fun Ix e=>by omega,h.ri.imp fun Ma x al y a0 e=>Ma x al (by rw [e];exact a0)⟩
theorem qZ.Mb (h:qZ b S out) (cm:q6 b S):∀ r∈out,q6 b r:=fun r aj x al=>cm x ((h.mem x).2 ⟨r,aj,al⟩)
theorem qZ.few (h:qZ b S out) (cm:q6 b S):out.length≤b.2.length:=by
 refine sH (X9 out h.ne) (KM h.WO fun x al=>?_);obtain ⟨r,aj,al⟩:=vi.1 al;exact h.Mb cm r aj x al
theorem ag4 (ag:b.2.length≤10) (cm:q6 b S) (h:qZ b S out) (ai:s ∉ S) (dN:0≤s∧s<(b.2.length:Int)):OE b out s=some (zC b out s):=by
 have gX:=h.Mb cm;have C3:∀ r∈out,r.length≤10:=fun r aj=>by
  have:=KM ((h.so r aj).imp fun Ix e=>by omega:r.Nodup) (gX r aj);omega
 have fF:(own b out s).length≤10:=by
  have ae5:q6 b (own b out s):=fun x al=>by
   rcases XV.1 al with e | ⟨r,aj,_,JT⟩
   ·rw [e];exact dN
   ·exact gX r aj x JT
  have:=KM (h.X3 ai) ae5;omega
 have aQ:=h.few cm;have Xf:=SE (by omega) dN out [s] (fun r aj=>⟨gX r aj,by have:=C3 r aj;omega⟩) (by have:[s]++(out.filter (IJ b s)).flatten=own b out s:=rfl;rw [this];omega);rw [show [s]++(out.filter (IJ b s)).flatten=own b out s from rfl] at Xf;rw [OE,Xf,sb,qc ⟨by omega,by unfold own;simp,by omega⟩,Wt (p:=IJ b s) out (fun r aj=>aaQ (by omega) (gX r aj) dN (by have:=C3 r aj;omega)),sb];rfl
theorem X_ (ag:b.2.length≤10):∀ (R S:List Int) (out:List (List Int)),(S++R).Nodup→q6 b (S++R)→qZ b S out→∃ GN,II (OE b) R out=some GN∧qZ b (S++R) GN
 | [],S,out,_,_,h=>⟨out,rfl,by simpa using h⟩
 | s::R,S,out,aN,gX,h=>by
   have ai:s ∉ S:=fun ai=>by
    have:=(ux.1 aN).2.2 s ai s (by simp);exact this rfl
   (have e:S++s::R=(S++[s])++R:=by simp);obtain ⟨GN,ad,af⟩:=X_ ag R (S++[s]) (zC b out s) (by rw [←e];exact aN) (by rw [←e];exact gX) (h.step ai);refine ⟨GN,?_,by rw [e];exact af⟩;rw [II,ag4 ag (fun x al=>gX x (by simp [al])) h ai (gX s (by simp)),sb,ad]
theorem qZ.nil:qZ b [] []:=⟨fun r aj=>absurd aj (by simp),fun r aj=>absurd aj (by simp),fun x=>by simp,.nil,fun r aj=>absurd aj (by simp),fun r aj=>absurd aj (by simp)⟩
theorem head_mem {r:List Int} (h:r≠[]):ix r 0∈r:=by
 cases r with
 | nil=>exact absurd rfl h
 | cons a r=>simp [ix]
theorem U5 (ag:b.2.length≤10) (aN:S.Nodup) (gX:q6 b S):∃ out,K5 b S=some out∧qZ b S out∧out.Pairwise fun x y=>ix x 0<ix y 0:=by
 obtain ⟨out,ad,af⟩:=X_ ag S [] [] (by simpa using aN) (by simpa using gX) qZ.nil;rw [uh] at af;have aC:=af.perm (aiO out);have ak:=KM aN gX;refine ⟨I6 out,?_,aC,aiP (af.ri.imp_of_mem fun {r q} aj a3 Ma e=>Ma _ (head_mem (af.ne r aj)) (by rw [e];exact head_mem (af.ne q a3)))⟩;have aQ:=af.few gX;have c_:out.all Ni=true:=sC.2 fun r aj=>by
  have hm:=head_mem (af.ne r aj);have hi:=af.Mb gX r aj _ hm;have he:(!r.isEmpty)=true:=by
   cases r with
   | nil=>exact absurd rfl (af.ne [] aj)
   | cons a r=>rfl
  rw [Ni,he,decide_eq_true hi.1,decide_eq_true (by omega)];rfl
 rw [K5,qc (by omega),ad,sb,qc ⟨by omega,c_⟩]
end
end Go.Proofs.YtfakoboiahbhaaaGreat.Ab


namespace Go.Proofs.YtfakoboiahbhaaaGreat.Ab
open Go
set_option maxRecDepth 20000
set_option maxHeartbeats 4000000
noncomputable def PH:ez :=
 .loop (some (Ez false [3,1,6,2,8])) (Gz [gM 12 [.sl 11,.sl 10] (.bin .lss)] (.seq (.cond (.sl 12) .skip (.exit 0)) (.seq (.block 1 (Gz [Gn 13 11,Gp 4 13] (Gs [Gp 14 3,Gp 15 4,gM 16 [.hJ 15] (.x' 1 1 [.int .i64 0] [0]),gM 17 [.hG 14,.hG 16] (.app 1 8),Gp 3 17]))) (Gs [FZ 18 11 1,Gp 11 18]))))
noncomputable def Vd:ez :=
 Gz [gM 2 [.iA (.ay [] 0 .full)] (.nil 1)] (Gz [gM 3 [.iA (.ay [] 0 .full)] (.nil 1)] (.seq (Gz [Gp 5 0,gM 6 [.hJ 5] .zB,F6 7 6 0,F6 8 7 1,Gl 9 8,Gk 10 9,Gm 11 0] (.block 0 PH)) (Gz [Gp 19 3,Gp 2 19] .ret)))
theorem XQ:zf Tryz.prog R4 77=some (Vd,20,[.tmp 2]):=by kernel_rfl
def MB (t:qa) (p9:p5→Option p5):Nat→p5→Int→Option p5
 | 0,_,_=>none
 | m+1,s1,s2 =>
   if (decide (s2<(t.2.length:Int)))=true then
    p8 ((s1.length+1)*8≤140737488355328) <|
    MB t p9 m (s1++[s2]) (w (s2+(1:Int)))
   else
    p9 s1
def Pv (t:qa):Option p5 :=
 MB t (fun xZ =>
   some xZ) p_ ([]:List Int) (0:Int)
theorem ak9 {t:qa} {p9:p5→Option p5} {s1:p5} {s2:Int} {v:p5} {Q:q'}   (q8:∀ (xZ:p5) (p6:List I),p9 xZ=some v→qU 20 [(3,(qe xZ (.uniq 1)))] p6→Q (.exit 0) p6 []) {T:List I} (bX:eR (Ez false [3,1,6,2,8]) T=GG 20 [(3,(qe s1 (.uniq 1))),(10,(hP (t.2.length:Int))),(11,(hP s2))]) (h:MB t p9 p_ s1 s2=some v) :
  dC Tryz.prog R4 77 0 none PH T [] Q:=by
 unfold PH;refine wp_loop bX ?_;refine .intro (fun m T H=>∃ (s1:p5) (s2:Int),T=GG 20 [(3,(qe s1 (.uniq 1))),(10,(hP (t.2.length:Int))),(11,(hP s2))]∧H=[]∧MB t p9 m s1 s2=some v) p_ ⟨s1,s2,rfl,rfl,h⟩ ?_;clear h bX;rintro m T H ⟨s1,s2,rfl,rfl,h⟩;cases m
 ·exact q7 h
 rename_i m;rw [MB.eq_2] at h;conv=>whnf
 refine bs h (fun eU h=>?_) fun eU h=>?_
 ·rw [eU];conv=>whnf
  obtain ⟨fk,h⟩:=qn h;refine ⟨by first | rfl | simp,by have:=fk;omega,rfl,fk,?_⟩
  erw [Lb hP s1 s2];conv=>whnf
  exact ⟨m,sm m,(s1++[s2]),(w (s2+(1:Int))),rfl,rfl,h⟩
 ·rw [eU];conv=>whnf
  exact q8 _ _ h ⟨rfl,rfl⟩
theorem aaH {t:qa} {v:p5} (h:Pv t=some v):ql 77 [(.bU [(hP t.1),(.ay (t.2.flatMap p1) t.2.length .shared)])] (.ay (v.map hP) v.length .shared):=by
 refine qM dI XQ rfl (rp (fun _=>rfl) _ _ _) fun Q bl=>?_;have jw:qu [.tmp 2] Q (fun v=>(qe v .shared)) v:=fun T H bI=>bl _ T H bI;unfold Pv at h;unfold Vd;obtain ⟨Ho,qz⟩:∃ c,PH=c:=⟨_,rfl⟩;rw [qz];conv=>whnf
 subst qz;refine ak9 ?_ (by exact rfl) h;intro xZ p6 h qh;obtain ⟨qS,rfl⟩:=qh.ex;conv=>whnf
 exact p7 h jw rfl rfl

noncomputable def abe:ez :=
 Gz [gM 1 [.hG 0] .box,gM 2 [.iA (.ay [] 0 .full)] (.nil 1),Gm 3 0] (Gz [gM 7 [.hJ 1] (.pT (.str 2)),gM 8 [.iA (.func 64 [] []),.sl 7] (.call 3),Gp 6 8,GJ 9 6 0,gM 10 [.hJ 6] (.ext 1),Gp 4 9,Gp 5 10] (.seq (Gz [Gn 11 5,F0 12 11 0 .neq] (.cond (.sl 12) (Gz [Gp 13 5,gM 2 [.iA (.ay [] 0 .full)] (.nil 1),Gp 3 13] .ret) .skip)) (Gz [Gn 14 4,Gp 15 4,gM 16 [.iA (.func 77 [] []),.sl 15] (.call 3),gM 17 [.iA (.func 79 [] []),.sl 14,.sl 16] (.call 3),Gp 2 17,Gm 3 0] .ret)))
theorem af9:zf Tryz.prog VR 29=some (abe,18,[.tmp 2,.tmp 3]):=by kernel_rfl
def Pl (b:qa):Option (rf×Int) :=
 (I_ b).bind fun r1 =>
 match r1 with
 | (none,q1) =>
   if (decide (q1≠(0:Int)))=true then
    some ([],q1)
   else
    none
 | (some bR,q1) =>
   if (decide (q1≠(0:Int)))=true then
    some ([],q1)
   else
    (Pv bR).bind fun r2 =>
    (K5 bR r2).bind fun r3 =>
    some (r3,(0:Int))
theorem akB {b:qa} {v:(rf×Int)} (h:Pl b=some v):ql 29 [(.agg [(hP b.1),(.ay (b.2.flatMap p1) b.2.length .shared)])] (.tuple [(.ay (v.1.map jh) v.1.length .shared),(hP v.2)]):=by
 refine qM dI af9 rfl (Kl (pY (rp (fun _=>(rp (fun _=>rfl) _ _ _)) _ _ _) (pY rfl rfl))) fun Q bl=>?_;have jw:qu [.tmp 2,.tmp 3] Q (fun v=>(.tuple [(.ay (v.1.map jh) v.1.length .shared),(hP v.2)])) v:=fun T H bI=>bl _ T H bI;unfold Pl at h;unfold abe;conv=>whnf
 obtain ⟨r1,eU,h⟩:=qd h;rcases r1 with ⟨_ | bR,q1⟩
 ·refine ⟨qj.pl,_,Ks eU,?_⟩;conv=>whnf
  refine bs h (fun fk h=>?_) fun fk h=>?_
  ·rw [fk];(conv=>whnf);exact p7 h jw rfl rfl
  ·rw [fk];(conv=>whnf);exact q7 h
 ·refine ⟨qj.pl,_,Ks eU,?_⟩;conv=>whnf
  refine bs h (fun qf h=>?_) fun qf h=>?_
  ·rw [qf];(conv=>whnf);exact p7 h jw rfl rfl
  ·rw [qf];(conv=>whnf);obtain ⟨r2,qo,h⟩:=qd h;refine ⟨qj.pl,_,aaH qo,?_⟩;(conv=>whnf);obtain ⟨r3,qD,h⟩:=qd h;refine ⟨qj.pl,_,Q' qD,?_⟩;(conv=>whnf);exact p7 h jw rfl rfl

end Go.Proofs.YtfakoboiahbhaaaGreat.Ab


namespace Go.Proofs.YtfakoboiahbhaaaGreat.Ab
open Go
set_option maxRecDepth 20000
set_option maxHeartbeats 4000000
end Go.Proofs.YtfakoboiahbhaaaGreat.Ab


namespace Go.Proofs.YtfakoboiahbhaaaGreat.Ab
open Go
theorem rL {n:Nat} {x:Int}:x∈upto n↔0≤x∧x<(n:Int):=by
 unfold upto;rw [sv];constructor
 ·rintro ⟨j,aw,rfl⟩;have:=sJ.1 aw;omega
 ·rintro ⟨ad,af⟩;exact ⟨x.toNat,sJ.2 (by omega),by omega⟩
theorem Ju (n:Nat):(upto n).Nodup:=by
 unfold upto;exact uD.2 (tS.imp fun h e=>h (by omega))
section
variable {b:p4}
theorem rI.Wr {f g:Int} (h:rI b (-1) f g):qG b (upto b.2.length) f g:=by
 obtain ⟨n,h⟩:=h
 induction n generalizing g with
 | zero=>rw [show f=g from h];exact .refl
 | succ n a_ =>
   obtain ⟨c,ad,af⟩:=h;obtain ⟨i,hi,_,aG⟩:=af.r0;refine .step (i:Int) (a_ ad) (rL.2 ⟨by omega,by omega⟩) ?_ ?_
   ·rcases aG with ⟨aG,_⟩ | ⟨aG,_⟩
    ·exact .inl aG
    ·exact .inr aG
   ·rcases aG with ⟨_,aG⟩ | ⟨_,aG⟩
    ·exact .inr aG
    ·exact .inl aG
theorem Sg {i f g:Int} (hi:i∈upto b.2.length) (ad:qv b i f) (af:qv b i g):rI b (-1) f g:=by
 have hi:=rL.1 hi;obtain ⟨j,rfl⟩:∃ j:Nat,i=(j:Int):=⟨i.toNat,by omega⟩;have he:=G4.of (b:=b) (wo := -1) (i:=j) (by omega) (by omega);rcases ad with rfl | rfl <;> rcases af with rfl | rfl
 ·exact rI.refl _
 ·exact he.Lc
 ·exact he.symm.Lc
 ·exact rI.refl _
theorem qG.Lc {f g:Int} (h:qG b (upto b.2.length) f g):rI b (-1) f g:=by
 induction h with
 | refl=>exact rI.refl _
 | step i _ hi aB aH a_=>exact a_.trans (Sg hi aB aH)
theorem PW (pZ:qm b) {i f:Int} (hi:i∈upto b.2.length) (h:qv b i f):0≤f∧f<b.1:=by
 have hi:=rL.1 hi;obtain ⟨j,rfl⟩:∃ j:Nat,i=(j:Int):=⟨i.toNat,by omega⟩;have:=Ko pZ (i:=j) (by omega);rcases h with rfl | rfl <;> omega
structure Jw (key:Int→Int) (i:Nat) (seen:List Int) (out:List (List Int)):Prop where
 len:out.length=seen.length
 r5:seen.Nodup
 par:∀ (j:Nat) (h:j<out.length) (aX:j<seen.length) (x:Int),x∈out[j]↔0≤x∧x<(i:Int)∧key x=seen[j]
 so:∀ r∈out,r.Pairwise (·<·)
 ne:∀ r∈out,r≠[]
 all:∀ x:Int,0≤x→x<(i:Int)→key x∈seen
 aZ:out.Pairwise fun x y=>ix x 0<ix y 0
theorem Jw.new {key:Int→Int} {i:Nat} {seen:List Int} {out:List (List Int)} (h:Jw key i seen out) (aN:key i ∉ seen):Jw key (i+1) (seen++[key i]) (out++[[(i:Int)]]):=by
 have ak:=h.len;refine ⟨by simp [ak],?_,fun j aw ee x=>?_,fun r aj=>?_,fun r aj=>?_,fun x ad af=>?_,?_⟩
 ·rw [ux];exact ⟨h.r5,by simp,fun a cd c ao e=>by simp only [sN] at ao;subst ao;subst e;exact aN cd⟩
 ·by_cases lV:j<out.length
  ·rw [wx lV,wx (by omega),h.par j lV (by omega) x];constructor
   ·rintro ⟨aB,aH,aR⟩;exact ⟨aB,by omega,aR⟩
   ·rintro ⟨aB,aH,aR⟩;refine ⟨aB,?_,aR⟩
    have:x≠(i:Int):=fun e=>aN (by rw [←e,aR];exact sD _)
    omega
  ·(have e:j=out.length:=by simp at aw;omega);subst e;rw [wy (by omega),wy (by omega)];simp only [Nat.sub_self,ak,List.getElem_cons_zero,sN];constructor
   ·rintro rfl;exact ⟨by omega,by omega,rfl⟩
   ·rintro ⟨aB,aH,aR⟩;refine Classical.byContradiction fun al=>aN ?_;rw [←aR];exact h.all x aB (by omega)
 ·rcases sS.1 aj with aj | aj
  ·exact h.so r aj
  ·simp only [sN] at aj;subst aj;simp
 ·rcases sS.1 aj with aj | aj
  ·exact h.ne r aj
  ·simp only [sN] at aj;subst aj;simp
 ·by_cases al:x=(i:Int)
  ·subst al;simp
  ·exact vg _ (h.all x ad (by omega))
 ·refine uZ.2 ⟨h.aZ,by simp,fun r aj q a3=>?_⟩;simp only [sN] at a3;subst a3;obtain ⟨j,aw,rfl⟩:=tY aj;have:=((h.par j aw (by omega) _).1 (head_mem (h.ne _ aj))).2.1;show ix out[j] 0<(i:Int);exact this
theorem Jw.fJ {key:Int→Int} {i k:Nat} {seen:List Int} {out:List (List Int)} (h:Jw key i seen out) (av:k<seen.length) (pk:seen[k]=key i):Jw key (i+1) seen (out.set k (out[k]'(by have:=h.len;omega)++[(i:Int)])):=by
 have ak:=h.len;have Qc:k<out.length:=by omega
 have bM:=h.ne _ (sD Qc);have aeG:ix (out[k]++[(i:Int)]) 0=ix out[k] 0:=by
  cases e:out[k] with
  | nil=>exact absurd e bM
  | cons a r=>rfl
 refine ⟨by simpa using ak,h.r5,fun j aw ee x=>?_,fun r aj=>?_,fun r aj=>?_,fun x ad af=>?_,?_⟩
 ·rw [wz];split
  ·rename_i e;subst e;rw [sS,h.par k Qc ee x,sN];constructor
   ·rintro (⟨aB,aH,aR⟩ | rfl)
    ·exact ⟨aB,by omega,aR⟩
    ·exact ⟨by omega,by omega,pk.symm⟩
   ·rintro ⟨aB,aH,aR⟩;by_cases al:x=(i:Int)
    ·exact .inr al
    ·exact .inl ⟨aB,by omega,aR⟩
  ·rename_i e;rw [h.par j (by simpa using aw) ee x];constructor
   ·rintro ⟨aB,aH,aR⟩;exact ⟨aB,by omega,aR⟩
   ·rintro ⟨aB,aH,aR⟩;refine ⟨aB,?_,aR⟩
    have:x≠(i:Int):=fun ex=>by
     subst ex;exact tC.1 h.r5 |> fun aC=>by
      rcases Nat.lt_or_gt_of_ne e with aU | aU
      ·exact aC k j av ee aU (by rw [pk,aR])
      ·exact aC j k ee av aU (by rw [pk,aR])
    omega
 ·rcases List.mem_or_eq_of_mem_set aj with aj | rfl
  ·exact h.so r aj
  ·refine uZ.2 ⟨h.so _ (sD Qc),by simp,fun x al y a0=>?_⟩;simp only [sN] at a0;subst a0;exact ((h.par k Qc av x).1 al).2.1
 ·rcases List.mem_or_eq_of_mem_set aj with aj | rfl
  ·exact h.ne r aj
  ·simp
 ·by_cases al:x=(i:Int)
  ·subst al;rw [←pk];exact sD _
  ·exact h.all x ad (by omega)
 ·refine tC.2 fun a c cd ao aej=>?_;have a3:∀ (a:Nat) (cd:a<out.length),ix ((out.set k (out[k]++[(i:Int)]))[a]'(by simpa using cd)) 0=ix out[a] 0:=fun a cd=>by
   rw [wz];split
   ·rename_i e;subst e;exact aeG
   ·rfl
  rw [a3 a (by simpa using cd),a3 c (by simpa using ao)];exact tC.1 h.aZ a c (by simpa using cd) (by simpa using ao) aej
theorem Jw.parts (pZ:qm b) {N:List Int} (B9:PL b (-1) N) {seen:List Int} {out:List (List Int)} (h:Jw (fun s=>ix N (ix b.2 s).1) b.2.length seen out):qZ b (upto b.2.length) out:=by
 have ak:=h.len;have Qd:∀ x∈upto b.2.length,0≤(ix b.2 x).1∧(ix b.2 x).1<b.1:=fun x al=>PW pZ al (.inl rfl);have Iw:∀ (j:Nat) (aw:j<out.length) (x:Int),x∈out[j]→x∈upto b.2.length:=fun j aw x al=>by
  have:=(h.par j aw (by omega) x).1 al;exact rL.2 ⟨this.1,this.2.1⟩
 refine ⟨h.ne,h.so,fun x=>?_,tC.2 fun i j hi aw gW x al iN=>?_,fun r aj x al y a0 f g aQ aO=>?_,fun r aj q a3 x al y a0 f aQ aO=>?_⟩
 ·constructor
  ·intro al;have nx:=rL.1 al;obtain ⟨j,aw,e⟩:=tY (h.all x nx.1 nx.2);exact ⟨_,sD (show j<out.length by omega),(h.par j (by omega) aw x).2 ⟨nx.1,nx.2,e.symm⟩⟩
  ·rintro ⟨r,aj,al⟩;obtain ⟨j,aw,rfl⟩:=tY aj;exact Iw j aw x al
 ·have ad:=(h.par i hi (by omega) x).1 al;have af:=(h.par j aw (by omega) x).1 iN;exact tC.1 h.r5 i j (by omega) (by omega) gW (by rw [←ad.2.2,←af.2.2])
 ·obtain ⟨j,aw,rfl⟩:=tY aj;have ad:=(h.par j aw (by omega) x).1 al;have af:=(h.par j aw (by omega) y).1 a0;have Ou:=Iw j aw x al;have Ov:=Iw j aw y a0;have ao:=(B9.iff (Qd x Ou) (Qd y Ov)).1 (by rw [ad.2.2,af.2.2]);exact ((qG.one Ou aQ (.inl rfl)).trans ao.Wr).trans (qG.one Ov (.inl rfl) aO)
 ·obtain ⟨i,hi,rfl⟩:=tY aj;obtain ⟨j,aw,rfl⟩:=tY a3;have ad:=(h.par i hi (by omega) x).1 al;have af:=(h.par j aw (by omega) y).1 a0;have Ou:=Iw i hi x al;have Ov:=Iw j aw y a0;have ao:rI b (-1) (ix b.2 x).1 (ix b.2 y).1:=(Sg Ou (.inl rfl) aQ).trans (Sg Ov aO (.inl rfl));have e:=(B9.iff (Qd x Ou) (Qd y Ov)).2 ao;have ck:seen[i]'(by omega)=seen[j]'(by omega):=by rw [←ad.2.2,←af.2.2];exact e
  have gW:i=j:=by
   refine Classical.byContradiction fun bM=>?_;rcases Nat.lt_or_gt_of_ne bM with aU | aU
   ·exact tC.1 h.r5 i j (by omega) (by omega) aU ck
   ·exact tC.1 h.r5 j i (by omega) (by omega) aU ck.symm
  subst gW;rfl
end
end Go.Proofs.YtfakoboiahbhaaaGreat.Ab


namespace Go.Proofs.YtfakoboiahbhaaaGreat.Ab
open Go
section
variable {b:p4}
theorem Jw.few {key:Int→Int} {i:Nat} {seen:List Int} {out:List (List Int)} (h:Jw key i seen out):out.length≤i:=by
 have hm:=Nb (l:=out.map fun r=>ix r 0) (n:=i) (by
  refine uD.2 (h.aZ.imp fun Ix e=>by omega)) fun x al=>by
  obtain ⟨r,aj,rfl⟩:=sv.1 al;obtain ⟨j,aw,rfl⟩:=tY aj;have:=(h.par j aw (by have:=h.len;omega) _).1 (head_mem (h.ne _ aj));exact ⟨this.1,this.2.1⟩
 simpa using hm
theorem Jw.zero {key:Int→Int}:Jw key 0 [] []:=⟨rfl,by simp,fun j h=>absurd h (by simp),fun r aj=>absurd aj (by simp),fun r aj=>absurd aj (by simp),fun x ad af=>by omega,by simp⟩
def parts (b:p4):List (List Int):=(K5 b (upto b.2.length)).getD []
theorem Kr:q6 b (upto b.2.length):=fun x al=>rL.1 al
theorem Ku (pZ:qm b):K5 b (upto b.2.length)=some (parts b)∧qZ b (upto b.2.length) (parts b)∧(parts b).Pairwise fun x y=>ix x 0<ix y 0:=by
 obtain ⟨out,ad,af,aG⟩:=U5 (b:=b) (S:=upto b.2.length) pZ.len (Ju _) Kr
 have:parts b=out:=by unfold parts;rw [ad];rfl
 rw [this];exact ⟨ad,af,aG⟩
end
end Go.Proofs.YtfakoboiahbhaaaGreat.Ab


namespace Go.Proofs.YtfakoboiahbhaaaGreat.Ab
open Go
noncomputable def TM:ez :=
 .j0 true [gM 21 [.sl 3] (.pT .one),Gn 22 4,gM 23 [.hJ 22] (.build [.int .i64 0,.int .i64 0] [(0,1)]),gM 24 [.sl 3] (.pT .one),Gn 25 4,gM 26 [.hJ 25,.iA (.int .i64 1)] (.build [.int .i64 0,.int .i64 0] [(0,1),(1,1)]),⟨none,[.hJ 21,.hJ 23,.iA (.int .i64 1)],none,none,.zp (.str 2)⟩,⟨none,[.hJ 24,.hJ 26,.iA (.int .i64 1)],none,none,.zp (.str 2)⟩]
noncomputable def TQ:ez :=
 .block 1 (Gz [Gn 20 18,Gp 4 20] TM)
noncomputable def Yh:ez :=
 .j0 false [gM 84 [.sl 1] (.pT .one),gM 85 [.hJ 10] (.pT (.str 2)),gM 86 [.iA (.func 68 [] []),.sl 84,.sl 85] (.call 3),Gp 83 86,GJ 87 83 0,gM 88 [.hJ 83] (.ext 1),⟨none,[.sl 7,.hG 87],none,none,.st 1⟩]
noncomputable def TR:ez :=
 Gz [Gp 79 5,gM 80 [.sl 10] (.pT (.str 2)),gM 81 [.hJ 80] (.x' 1 2 [.int .i64 0,.int .i64 0] [0]),gM 82 [.hG 79,.hG 81] (.x3 2 16),Gp 5 82] Yh
noncomputable def TS:ez :=
 Gz [gM 74 [.sl 6] (.other (Oper.mk (some 74) (Op.load 25 (Operand.tmp 6)) 25 "table.go:177" (Array.mk []) none) 5), gM 75 [.sl 6] (.pT .one), Gk 76 75, F0 77 76 1 .sub, gM 78 [.hG 74, .hG 77] (.AX 2 false true false), ⟨none, [.sl 6, .hG 78], none, none, .st 1⟩] TR
noncomputable def TT:ez :=
 Gz [gM 68 [.sl 6] (.pT .one),gM 69 [.sl 6] (.pT .one),Gk 70 69,F0 71 70 1 .sub,Gh 72 68 71 2,gM 73 [.hJ 72] (.pT (.str 2)),gM 10 [] (.alloc [.int .i64 0,.int .i64 0]),⟨none,[.sl 10,.hG 73],none,none,.st 2⟩] TS
noncomputable def TX:ez :=
 .An (.sl 40) [41] (Gw Go.Proofs.Tryz.prog 104 0) (Gx Go.Proofs.Tryz.prog 104 0)
noncomputable def TU:ez :=
 .block 3 (.seq (Gz [Gn 38 8,gM 39 [.sl 7] (.pT .one),gM 40 [.sl 38,.sl 39] (.call 3)] (.block 4 TX)) (.seq (Gz [gM 65 [.sl 6] (.pT .one),Gk 66 65,F0 67 66 0 .eql] (.cond (.sl 67) (.exit 2) .skip)) TT))
noncomputable def QB:ez :=
 .loop (some (Ez false [1,1,1,1,1,4,83])) TU
noncomputable def TV:ez :=
 .block 2 QB
noncomputable def TW:ez :=
 Gz [Gn 89 5, gM 90 [.iA (.func 128 [] []), .hG 89] (.call 1)] (Gz [⟨some 91, [.hG 5], none, some 5, .other (Oper.mk (some 91) (Op.move (Operand.tmp 5)) 25 "table.go:182" (Array.mk []) none) 2⟩, Gp 2 91] .ret)
noncomputable def TN:ez :=
 Gz [gM 28 [.sl 1] (.pT .one),gM 29 [.hJ 28] .zB,F6 30 29 0,F6 31 30 1,Gl 32 31,gM 33 [.hJ 32,.iA (.int .i64 0)] (.pM 2),F6 34 33 0,Gl 35 34,gM 7 [] (.alloc [.int .i64 0]),⟨none,[.sl 7,.hG 35],none,none,.st 1⟩] (Gz [gM 36 [.sl 1] (.pT .one),gM 37 [.hJ 36] (.zv 89 1 0),Gp 8 37] (.seq .skip (.seq TV TW)))
noncomputable def QC:ez :=
 .loop (some (Ez false [1,1,1,1,13,2,73])) (Gz [gM 19 [.sl 18,.sl 17] (.bin .lss)] (.seq (.cond (.sl 19) .skip (.exit 0)) (.seq TQ (Gs [FZ 27 18 1,Gp 18 27]))))
noncomputable def TP:ez :=
 .seq (Gz [gM 12 [.sl 1] (.pT .one),gM 13 [.hJ 12] .zB,F6 14 13 0,F6 15 14 1,Gl 16 15,Gk 17 16,Gm 18 0] (.block 0 QC)) (Gz [gM 5 [.iA (.ay [] 0 .full)] .A6,gM 6 [] (.alloc [.ay [] 0 .full])] TN)
noncomputable def Yg:ez :=
 Gz [gM 1 [.hG 0] .box,gM 2 [.iA (.ay [] 0 .full)] (.nil 2)] (Gz [gM 11 [] .zw,gM 3 [] (.alloc [.junk]),⟨none,[.sl 3,.hG 11],none,none,.st 1⟩] TP)
theorem afD:zf Go.Proofs.Tryz.prog LS 104=some (Yg,92,[.tmp 2]):=by kernel_rfl
noncomputable def T_:ez :=
 .block 1 (Gt [Gn 14 0,Gn 15 2,Gn 16 0,Gn 17 3,Gn 18 0,Gn 19 3,Gh 20 18 19 2,gM 21 [.hJ 20] (.pT (.str 2)),Gn 22 0,Gn 23 2,Gh 24 22 23 2,gM 25 [.hJ 24] (.pT (.str 2)),Gh 26 14 15 2,⟨none,[.hG 26,.hG 21],none,none,.st 2⟩,Gh 27 16 17 2,⟨none,[.hG 27,.hG 25],none,none,.st 2⟩])
noncomputable def T':ez :=
 .j0 false [Gp 10 2,FZ 11 10 1,Gp 12 3,F0 13 12 1 .sub,Gp 2 11,Gp 3 13]
noncomputable def Ua:ez :=
 .loop (some (Ez false [0,1,1,2,24])) (.seq (Gz [Gn 7 2,Gn 8 3,F1 9 7 8 .lss] (.cond (.sl 9) .skip (.exit 0))) (.seq T_ T'))
noncomputable def Yl:ez :=
 Gz [Gn 4 0,Gk 5 4,F0 6 5 1 .sub,Gm 2 0,Gp 3 6] (.block 0 Ua)
theorem afH:zf Go.Proofs.Tryz.prog VJ 128=some (Yl,28,[]):=by kernel_rfl
noncomputable def OZ:ez :=
 Gz [Gl 60 1,gM 61 [.hJ 9] (.pT (.str 2)),gM 62 [.iA (.func 68 [] []),.sl 60,.sl 61] (.call 3),Gp 59 62,GJ 63 59 0,gM 64 [.hJ 59] (.ext 1),⟨none,[.hG 7,.hG 64],none,none,.st 1⟩] (.exit 3)
noncomputable def TL:ez :=
 Gz [gM 55 [.sl 6] (.other (Oper.mk (some 55) (Op.load 25 (Operand.tmp 6)) 25 "table.go:168" (Array.mk []) none) 5), gM 56 [.sl 9] (.pT (.str 2)), gM 57 [.hJ 56] (.x' 1 2 [.int .i64 0, .int .i64 0] [0]), gM 58 [.hG 55, .hG 57] (.x3 2 16), ⟨none, [.hG 6, .hG 58], none, none, .st 1⟩] OZ
noncomputable def QA:ez :=
 Gz [Gl 48 3,gM 49 [.sl 9] (.oP 0),Gl 50 49,gM 51 [.sl 9] (.oP 1),Gl 52 51,gM 53 [.iA (.int .i64 1),.hJ 52] (.bin .sub),gM 54 [.hJ 50,.hJ 53] (.build [.int .i64 0,.int .i64 0] [(0,1),(1,1)]),⟨none,[.hG 48,.hG 54],none,none,.zn (.str 2)⟩] TL
noncomputable def TK:ez :=
 .block 5 (.seq (Gz [gM 42 [.sl 3] (.pT .one),gM 43 [.sl 9] (.pT (.str 2)),gM 44 [.hJ 42,.hJ 43] (.zo (.str 2) false (some (.int .i64 0))),F0 45 44 0 .eql] (.cond (.sl 45) (.exit 5) .skip)) (Gz [gM 46 [.sl 3] (.pT .one),gM 47 [.sl 9] (.pT (.str 2)),⟨none,[.hG 46,.hG 47],none,none,.zn (.str 2)⟩] QA))
noncomputable def TJ:ez :=
 .j0 false [gM 9 [] (.alloc [.int .i64 0,.int .i64 0]),⟨none,[.sl 9,.hG 41],none,none,.st 2⟩]
theorem XI:dT Tryz.prog LS (Gw Tryz.prog 104 0) 0=some TJ:=by kernel_rfl
theorem XJ:dT Tryz.prog LS (Gx Tryz.prog 104 0) 0=some TK:=by kernel_rfl
end Go.Proofs.YtfakoboiahbhaaaGreat.Ab


namespace Go.Proofs.YtfakoboiahbhaaaGreat.Ab
open Go
def Vk (P:Program) (k:FuncId) (cap:List I) (E:List I):Prop :=
 ∀ (l N:Nat) (q3:Nat→List au) (R:List au→Prop) (n:Nat),(∀ i,(q3 i).length=N)→l<N→(aN:n<E.length) →
   (∀ (i:Nat) (h:i<n) (Y:List au),∃ qq,Sem P (.yield l) [E[i]'(uR h aN)] (q3 i++Y) 0 (.bool true) (q3 (i+1)++qq)) →
   (∀ Y:List au,∃ H',R H'∧Sem P (.yield l) [E[n]] (q3 n++Y) 0 (.bool false) H') →
   ∀ Y,∃ H',R H'∧Sem P (.fn k) (.yield l::cap) (q3 0++Y) 0 (.tuple []) H'
theorem aiA {t:p4} {figure:Int} {v:List (Int×Int)} (h:JD t figure=some v):Vk Tryz.prog 113 [.bU [.bU [hP t.1,.ay (t.2.flatMap p1) t.2.length .shared]],.bU [hP figure]] (v.map fun e1=>.agg [hP e1.1,hP e1.2]):=by
 unfold JD at h;split at h
 ·rename_i al;obtain rfl:=Option.some.inj h;intro L N q3 R n hlen fj aN aj JS Y;have ao:∀ j,((List.range j).filter (qY t figure)).length=((List.range j).filter (qY t figure)).length:=fun _=>rfl;have SZ:n<((List.range (2*t.2.length)).filter (qY t figure)).length:=by simpa [places] using aN
  obtain ⟨M,B8,MZ,KH⟩:∃ M,M<2*t.2.length∧qY t figure M=true∧((List.range M).filter (qY t figure)).length=n:=by
   have hm:=sD SZ;obtain ⟨ad,af⟩:=sK.1 hm;(have ad:((List.range (2*t.2.length)).filter (qY t figure))[n]<2*t.2.length:=by simpa using ad);refine ⟨_,ad,af,?_⟩;have aO:=PX _ af ad;have jG:((List.range (2*t.2.length)).filter (qY t figure)).Nodup:=tS.filter _;obtain ⟨aG,a6⟩:=sa.1 aO;exact (List.getElem_inj jG).1 a6
  have CK:∀ a b,a≤b→((List.range a).filter (qY t figure)).length≤((List.range b).filter (qY t figure)).length:=fun a b jy=>by
   obtain ⟨d,rfl⟩:=Nat.exists_eq_add_of_le jy
   induction d with
   | zero=>exact sd _
   | succ d a_=>rw [←Nat.add_assoc,MU];exact sH (a_ (by omega)) (Nat.le_add_right _ _)
  obtain ⟨Z,JO,Ke,hle⟩:=R8 (t:=t) (figure:=figure) (L:=L) hlen ao (M:=M) Y fun r Ot ag Y=>by
   have aO:=OI (show r<2*t.2.length by omega) ag;obtain ⟨ad,af⟩:=sa.1 aO;have aU:((List.range r).filter (qY t figure)).length<n:=by
    have:=CK (r+1) M (by omega);rw [MU,if_pos ag,KH] at this;omega
   obtain ⟨qq,h⟩:=aj _ aU Y;refine ⟨qq,?_⟩;rw [←af];exact h
  obtain ⟨H',jw,ak⟩:=JS (Z M++[au.cells (p1 (q4 M))]);have aO:=OI B8 MZ;rw [KH] at aO;obtain ⟨ad,af⟩:=sa.1 aO;refine ⟨H',jw,?_⟩;rw [←JO];refine R9 al hlen ao (M:=M) (by omega) Ke (.inr ⟨B8,MZ,?_⟩) (Lo ?_)
  ·rw [KH,←af];exact ak
  ·have e1:=hle M (sd _);have ck:=ak.1.1;rw [KH] at e1;rw [JO];refine sH e1 (sH ?_ ck);rw [←sj];simp
 ·cases h
theorem ain {α:Type} {P:Program} {A:c8} {fn:FuncId} {rl:Option Nat} {k:FuncId} {cap:List I} {t:Nat} {bh:List Nat} {gq bY:Code} {T:List I} {H:List au} {Q:cB→List I→List au→Prop} {f:α→I} {L:List α} {id n:Nat} (KJ:Vk P k cap (L.map f)) (aN:n<L.length)
  (ax:c5 T t=.func k [] cap)
  (KI:∀ (i:Nat) (h:i<n) (Y:List au),∃ qq,Sem P (.yield H.length) [f (L[i]'(uR h aN))] ((H++[.loop .ready none fn (T.map I.view) bh gq bY A])++Y) 0 (.bool true) ((H++[.loop .ready none fn (T.map I.view) bh gq bY A])++qq))
  (JS:∀ (Y:List au),∃ H',(H'[H.length]?=some (.loop .done (some (.exit id)) fn (T.map I.view) bh gq bY A)∧Q (.exit id) (T.map I.settle) (H'.set H.length .dead))∧Sem P (.yield H.length) [f L[n]] ((H++[.loop .ready none fn (T.map I.view) bh gq bY A])++Y) 0 (.bool false) H')
  (gX:inLoop H rl=true):dC P A fn 0 rl (.An (.sl t) bh gq bY) T H Q:=by
 show ho T t _;rw [iC,ax]
 obtain ⟨H',⟨dq,CX⟩,cm⟩:=KJ H.length (H.length+1) (fun _=>H++[.loop .ready none fn (T.map I.view) bh gq bY A]) (fun H'=>H'[H.length]?=some (.loop .done (some (.exit id)) fn (T.map I.view) bh gq bY A)∧Q (.exit id) (T.map I.settle) (H'.set H.length .dead)) n (fun i=>by simp) (by omega) (by simpa using aN) (fun i h Y=>by
  obtain ⟨qq,aj⟩:=KI i h Y;exact ⟨qq,by rw [ub];exact aj⟩) (fun Y=>by
  obtain ⟨H',aj,ai⟩:=JS Y
  exact ⟨H',aj,by rw [ub];exact ai⟩) []
 simp only [sP] at cm;exact ⟨gX,.tuple [],H',.done,some (.exit id),fn,T.map I.view,bh,gq,bY,A,cm,dq,by decide,CX⟩
def rB (L:List Nat):List (Nat×I×I):=L.map fun r=>(r,.agg (p1 (q4 r)),hP 1)
theorem Sf (a b:Nat):gw (.agg (p1 (q4 a))) (.agg (p1 (q4 b)))=some (decide (a=b)):=by
 simp only [gw,p1,q4,dL,if_true,Option.map_some,Bool.and_true,Option.some.injEq];rw [Bool.eq_iff_iff];simp only [beq_iff_eq,decide_eq_true_eq,Bool.and_eq_true];omega
theorem PY (b:Nat):∀ (L:List Nat) (n:Nat),b ∉ L→fz (.agg (p1 (q4 b))) (rB L) n=some none
 | [],n,_=>rfl
 | a::L,n,h=>by
   simp only [sk,not_or] at h;simp only [rB,ss,fz,Sf];rw [decide_eq_false h.1];exact PY b L (n+1) h.2
theorem WK (b:Nat):∀ (L:List Nat) (n:Nat),b∈L→L.Nodup→∃ i,fz (.agg (p1 (q4 b))) (rB L) n=some (some (n+i))∧(∃ e:Nat×I×I,(rB L)[i]?=some e∧e.2.2=hP 1)∧(rB L).eraseIdx i=rB (L.filter fun x=>decide (x≠b))
 | [],n,h,_=>absurd h (by simp)
 | a::L,n,h,aN=>by
   obtain ⟨aeZ,pt⟩:=ue.1 aN;by_cases e:b=a
   ·subst e;refine ⟨0,?_,⟨_,rfl,rfl⟩,?_⟩
    ·simp only [rB,ss,fz,Sf,decide_true];rfl
    ·rw [List.filter_cons_of_neg (by simp)];rw [List.filter_eq_self.2 (fun x al=>by simp;intro e;subst e;exact aeZ al)];rfl
   ·(have ag:b∈L:=by simpa [e] using h);obtain ⟨i,ad,⟨ck,aG,a6⟩,af⟩:=WK b L (n+1) ag pt;refine ⟨i+1,?_,⟨ck,by simpa [rB] using aG,a6⟩,?_⟩
    ·simp only [rB,ss,fz,Sf];rw [decide_eq_false e];simp only [rB] at ad;rw [ad];rw [show n+1+i=n+(i+1) by omega]
    ·rw [List.filter_cons_of_pos (by simp;intro cM;exact e cM.symm)];simp only [rB,ss,List.eraseIdx_cons_succ] at af ⊢;rw [af]
theorem WB (L:List Nat) (k:Nat):rB L++[(k,.agg (p1 (q4 k)),hP 1)]=rB (L++[k]):=by
 simp [rB]
end Go.Proofs.YtfakoboiahbhaaaGreat.Ab


namespace Go.Proofs.YtfakoboiahbhaaaGreat.Ab
open Go
set_option maxRecDepth 20000
set_option maxHeartbeats 4000000
def UM (l:List (Int×Int)) (i:Nat):List (Int×Int):=l.take i++(l.drop i).reverse
def I3 (g:List (Int×Int)) (off t:Nat):List (Int×Int):=(List.range g.length).map fun x=>if off≤x∧(x-off<t∨g.length-t≤x) then g.getD (off+g.length-1-x) (0,0) else g.getD x (0,0)
theorem Mh (g:List (Int×Int)) (off t:Nat):(I3 g off t).length=g.length:=by simp [I3]
theorem Nh (g:List (Int×Int)) (off t x:Nat) (h:x<g.length):(I3 g off t)[x]?=some (if off≤x∧(x-off<t∨g.length-t≤x) then g.getD (off+g.length-1-x) (0,0) else g.getD x (0,0)):=by
 simp [I3,h]
theorem aih (g:List (Int×Int)) (off:Nat):I3 g off 0=g:=by
 apply tI;intro x;by_cases h:x<g.length
 ·rw [Nh g off 0 x h,if_neg (by omega)];simp [h,sG]
 ·rw [tw (by rw [Mh];omega),tw (by omega)]
theorem aif (g:List (Int×Int)) (off t:Nat) (ax:off+t<g.length-1-t):((I3 g off t).set (off+t) (g.getD (g.length-1-t) (0,0))).set (g.length-1-t) (g.getD (off+t) (0,0))=I3 g off (t+1):=by
 apply tI;intro x;by_cases h:x<g.length
 ·rw [Nh g off (t+1) x h];by_cases ad:x=g.length-1-t
  ·subst ad;rw [si (by rw [ta,Mh];omega),if_pos (by omega)];congr 2;omega
  ·rw [sg (by omega)];by_cases af:x=off+t
   ·subst af;rw [si (by rw [Mh];omega),if_pos (by omega)];congr 2;omega
   ·rw [sg (by omega),Nh g off t x h];by_cases aG:off≤x∧(x-off<t∨g.length-t≤x)
    ·rw [if_pos aG,if_pos (by omega)]
    ·rw [if_neg aG,if_neg (by omega)]
 ·rw [tw (by simp [Mh];omega),tw (by rw [Mh];omega)]
theorem aie (g:List (Int×Int)) (off t:Nat) (aq:off≤g.length) (ax:g.length-1-t≤off+t):I3 g off t=UM g off:=by
 apply tI;intro x;unfold UM;by_cases h:x<g.length
 ·rw [Nh g off t x h];by_cases ad:x<off
  ·rw [if_neg (by omega),List.getElem?_append_left (by simp;omega),sT,if_pos ad];simp [h,sG]
  ·rw [List.getElem?_append_right (by simp;omega),sV,tF aq,List.getElem?_reverse (by simp;omega),List.getElem?_drop,List.length_drop];(have e:off+(g.length-off-1-(x-off))=off+g.length-1-x:=by omega);rw [e];(have ak:off+g.length-1-x<g.length:=by omega);by_cases aG:off≤x∧(x-off<t∨g.length-t≤x)
   ·rw [if_pos aG];simp [ak,sG]
   ·rw [if_neg aG]
    have:x=off+g.length-1-x:=by omega
    rw [←this];simp [h,sG]
 ·rw [tw (by rw [Mh];omega),tw (by simp;omega)]
theorem Qu:∀ (l:List (Int×Int)) (i:Nat),i<l.length→(l.flatMap p1)[i*2]?=some (hP (l.getD i (0,0)).1)∧(l.flatMap p1)[i*2+1]?=some (hP (l.getD i (0,0)).2)
 | [],i,h=>absurd h (by simp)
 | p::l,0,_=>⟨rfl,rfl⟩
 | p::l,i+1,h=>by
   have:=Qu l i (by simpa using h);rw [tV,show (i+1)*2=(i*2)+2 by omega];simpa [p1] using this
theorem Tx:∀ (l:List (Int×Int)) (i:Nat) (x:Int×Int),i<l.length→((l.flatMap p1).set (i*2) (hP x.1)).set (i*2+1) (hP x.2)=(l.set i x).flatMap p1
 | [],i,_,h=>absurd h (by simp)
 | p::l,0,x,_=>rfl
 | p::l,i+1,x,h=>by
   have:=Tx l i x (by simpa using h);rw [tV,show (i+1)*2=(i*2)+2 by omega,show i*2+2+1=(i*2+1)+2 by omega];simp only [p1,uQ,uh,List.set_cons_succ,tV];rw [this]
theorem Kk (l:List (Int×Int)):(l.flatMap p1).length=l.length*2:=Iv p1 2 qw l
theorem aid (g:List (Int×Int)) (aS:0<g.length) (aO:g.length≤1000000) {H:List au} {id lo Sm:Nat} (bD:lo≤id) (ah:H[id]?=some (.grow (g.flatMap p1) Sm 2)) :
  Sem Go.Proofs.Tryz.prog (.fn 128) [.ref id 0 g.length none 2] H lo (.tuple []) (H.set id (.grow (g.reverse.flatMap p1) Sm 2)):=by
 have aE:=(sa.1 ah).1;refine Ig dI afH rfl ⟨by simp,fun j ad af=>by rw [sg (by omega)]⟩ fun Q bl=>?_;unfold Yl;obtain ⟨R',JA⟩:∃ c,Ua=c:=⟨_,rfl⟩;rw [JA];conv=>whnf
 rw [show IntKind.i64.wrap ((g.length:Int)-1)=((g.length-1:Nat):Int) by rw [JI _ (by omega) (by omega)];omega];have ag:Nat.ble lo id=true:=Nat.ble_eq_true_of_le bD;have gs:∀ c:au,(H.set id c)[id]?=some c:=fun c=>by rw [si aE]
 subst JA;unfold Ua;obtain ⟨a',cb⟩:∃ c,T_=c:=⟨_,rfl⟩;obtain ⟨bk,b8⟩:∃ c,T'=c:=⟨_,rfl⟩;rw [cb,b8];refine wp_loop rfl ?_;refine .intro (fun m T H'=>∃ t,2*t≤g.length∧m=g.length-t∧T=GG 28 [(0,.ref id 0 g.length none 2),(2,hP t),(3,hP (g.length-1-t:Nat))]∧H'=H.set id (.grow ((I3 g 0 t).flatMap p1) Sm 2)) g.length ⟨0,by omega,rfl,rfl,?_⟩ ?_
 ·rw [aih];obtain ⟨ad,af⟩:=sa.1 ah;rw [←af,List.set_getElem_self]
 rintro m T H' ⟨t,ax,rfl,rfl,rfl⟩;conv=>whnf
 refine IG (fun h=>?_) (fun h=>?_)
 ·have ck:0+((g.length-1-t:Nat):Int).toNat*2=(g.length-1-t)*2:=by omega
  have dF:0+(t:Int).toNat*2=t*2:=by omega
  have ak:=Mh g 0 t;have Sk:=Qu (I3 g 0 t) (g.length-1-t) (by omega);have Sl:=Qu (I3 g 0 t) t (by omega);have v1:(I3 g 0 t).getD (g.length-1-t) (0,0)=g.getD (g.length-1-t) (0,0):=by
   rw [sG,Nh g 0 t _ (by omega),if_neg (by omega)];rfl
  have v2:(I3 g 0 t).getD t (0,0)=g.getD t (0,0):=by
   rw [sG,Nh g 0 t _ (by omega),if_neg (by omega)];rfl
  rw [v1] at Sk;rw [v2] at Sl;conv=>whnf
  subst cb;unfold T_;refine I9 fun mS G8=>?_;conv=>whnf
  refine ⟨by omega,?_⟩;conv=>whnf
  refine DW (gs _) ?_;conv=>whnf
  refine DW (by rw [ck];exact Sk.1) ?_;conv=>whnf
  refine DW (by rw [ck];exact Sk.2) ?_;conv=>whnf
  refine ⟨by omega,?_⟩;conv=>whnf
  refine DW (gs _) ?_;conv=>whnf
  refine DW (by rw [dF];exact Sl.1) ?_;conv=>whnf
  refine DW (by rw [dF];exact Sl.2) ?_;conv=>whnf
  refine ⟨by omega,?_⟩;conv=>whnf
  rw [ag];conv=>whnf
  refine DW (gs _) ?_;conv=>whnf
  refine A_ (by rw [Kk];omega) ?_;conv=>whnf
  refine A_ (by rw [ta,Kk];omega) ?_;conv=>whnf
  refine ⟨by omega,?_⟩;conv=>whnf
  rw [ag];conv=>whnf
  rw [sR];refine DW (gs _) ?_;conv=>whnf
  refine A_ (by rw [ta,ta,Kk];omega) ?_;conv=>whnf
  refine A_ (by rw [ta,ta,ta,Kk];omega) ?_;conv=>whnf
  rw [sR,ck,dF];refine G8 _ _ _ ?_;conv=>whnf
  subst b8;unfold T';conv=>whnf
  refine ⟨g.length-(t+1),by omega,t+1,by omega,rfl,?_,?_⟩
  ·rw [←rD t (by omega),show ((g.length-1-(t+1):Nat):Int)=IntKind.i64.wrap (((g.length-1-t:Nat):Int)-1) by rw [JI _ (by omega) (by omega)];omega];rfl
  ·have ai:=aif g 0 t (by omega);rw [sO] at ai;rw [←ai,←Tx _ _ _ (by rw [ta];omega),←Tx _ _ _ (by omega)];rfl
 ·conv=>whnf
  have e:I3 g 0 t=g.reverse:=by
   rw [aie g 0 t (by omega) (by omega),UM];simp
  rw [e];exact bl _ _ _ ⟨.inl rfl,⟨by simp,fun j o aw=>.inr aw⟩,rfl⟩

def r6 (p:Int×Int):Nat:=(2*p.1+p.2).toNat
theorem X' {p:Int×Int} (ad:0≤p.1) (af:0≤p.2∧p.2≤1):q4 (r6 p)=p:=by
 unfold q4 r6;exact Prod.ext (by simp only;omega) (by simp only;omega)
def M_ (L:List Nat) (p:Int×Int):Bool:=decide (r6 p∈L)
def Iu (L:List Nat) (p:Int×Int):List Nat:=L.filter fun x=>decide (x≠r6 p)
def J9 (L:List Nat) (p:Int×Int):List Nat:=Iu (Iu L p) (p.1,1-p.2)
structure rM (t:p4) (L:List Nat) (way out:List (Int×Int)) (a:Int) (rh v5:I) (x y:Nat) (H:List au):Prop where
 r5:L.Nodup
 aS:H[0]?=some (I7 t)
 ad:∃ Hz,H[1]?=some (.map (rB L) Hz)
 af:H[2]?=some (.cells [.map 1])
 aG:H[3]?=some (.cells [rh])
 a6:H[4]?=some (.cells [hP a])
 hw:(way=[]∧rh=.ay [] 0 .full)∨(rh=.cl x (x+1) way.length 2∧4<x∧∃ cs,H[x]?=some (.grow cs (x+1) 2)∧way.length*2≤cs.length∧cs.take (way.length*2)=way.flatMap p1)
 aq:(out=[]∧v5=.ay [] 0 .full)∨(v5=.cl y (y+1) out.length 2∧4<y∧H[y]?=some (.grow (out.flatMap p1) (y+1) 2))
 ne:x≠y
 KO:x<H.length
 KP:y<H.length
 J_:x=0∨4<x
 JM:y=2∨4<y
theorem rM.len {t:p4} {L:List Nat} {way out:List (Int×Int)} {a:Int} {rh v5:I} {x y:Nat} {H:List au} (h:rM t L way out a rh v5 x y H):4<H.length:=(sa.1 h.a6).1
theorem rM.more {t:p4} {L:List Nat} {way out:List (Int×Int)} {a:Int} {rh v5:I} {x y:Nat} {H:List au} (h:rM t L way out a rh v5 x y H) (Z:List au):rM t L way out a rh v5 x y (H++Z):=by
 obtain ⟨r5,aS,⟨Hz,ad⟩,af,aG,a6,hw,aq,ne,KO,KP,J_,JM⟩:=h;refine ⟨r5,qF aS,⟨Hz,qF ad⟩,qF af,qF aG,qF a6,?_,?_,ne,by simp;omega,by simp;omega,J_,JM⟩
 ·rcases hw with hw | ⟨bC,bT,cs,rZ,J2⟩
  ·exact .inl hw
  ·exact .inr ⟨bC,bT,cs,qF rZ,J2⟩
 ·rcases aq with aq | ⟨bC,bT,rZ⟩
  ·exact .inl aq
  ·exact .inr ⟨bC,bT,qF rZ⟩
theorem rM.aiE {t:p4} {L:List Nat} {way out:List (Int×Int)} {a:Int} {rh v5:I} {x y j:Nat} {H:List au} {c:au} (h:rM t L way out a rh v5 x y H) (alR:4<j) (al:j≠x) (a0:j≠y):rM t L way out a rh v5 x y (H.set j c):=by
 obtain ⟨r5,aS,⟨Hz,ad⟩,af,aG,a6,hw,aq,ne,KO,KP,J_,JM⟩:=h;refine ⟨r5,qJ aS (by omega),⟨Hz,qJ ad (by omega)⟩,qJ af (by omega),qJ aG (by omega),qJ a6 (by omega),?_,?_,ne,by simpa using KO,by simpa using KP,J_,JM⟩
 ·rcases hw with hw | ⟨bC,bT,cs,rZ,J2⟩
  ·exact .inl hw
  ·exact .inr ⟨bC,bT,cs,qJ rZ al,J2⟩
 ·rcases aq with aq | ⟨bC,bT,rZ⟩
  ·exact .inl aq
  ·exact .inr ⟨bC,bT,qJ rZ a0⟩
theorem Li {H:List au} {j:Nat} {c:au} (h:j<H.length):(H.set j c)[j]?=some c:=si h
theorem rM.map {t:p4} {L im:List Nat} {way out:List (Int×Int)} {a:Int} {rh v5:I} {x y Hz:Nat} {H:List au} (h:rM t L way out a rh v5 x y H) (aN:im.Nodup):rM t im way out a rh v5 x y (H.set 1 (.map (rB im) Hz)):=by
 have ak:=h.len;obtain ⟨r5,aS,_,af,aG,a6,hw,aq,ne,KO,KP,J_,JM⟩:=h;refine ⟨aN,qJ aS (by omega),⟨Hz,Li (by omega)⟩,qJ af (by omega),qJ aG (by omega),qJ a6 (by omega),?_,?_,ne,by simpa using KO,by simpa using KP,J_,JM⟩
 ·rcases hw with hw | ⟨bC,bT,cs,rZ,J2⟩
  ·exact .inl hw
  ·exact .inr ⟨bC,bT,cs,qJ rZ (by omega),J2⟩
 ·rcases aq with aq | ⟨bC,bT,rZ⟩
  ·exact .inl aq
  ·exact .inr ⟨bC,bT,qJ rZ (by omega)⟩
theorem XF {P:Program} {C:b6} {lo id:Nat} {o:Oper} {t e:TypeId} {x:Operand} {H:List au} {v:I} (aq:o.op=.load t x) (ax:P.underlying t=some (.slice e)) (ah:H[id]?=some (.cells [v])) (ae:v=.ay [] 0 .full∨∃ i g n z,v=.cl i g n z) :
  a8 P C lo o 5 [.ptr id 0] H=some (v,H):=by
 unfold a8;rw [aq];show dP P lo 5 t H [.ptr id 0]=_;unfold dP;simp only [ax,ah];rcases ae with rfl | ⟨i,g,n,z,rfl⟩ <;> rfl

abbrev aia (t:p4) (a:Int) (v5:I):List I:=(GG 92 [(1,.ptr 0 0),(3,.ptr 2 0),(5,v5),(6,.ptr 3 0),(7,.ptr 4 0),(8,.func 89 [G1 t] []),(38,.func 89 [G1 t] []),(39,hP a),(40,.func 113 [] [.bU [G1 t],.bU [hP a]])]).map I.view
noncomputable abbrev I2 (t:p4) (a:Int) (v5:I) (st:LoopState) (ahe:Option Code):au:=.loop st ahe 104 (aia t a v5) [41] (Gw Tryz.prog 104 0) (Gx Tryz.prog 104 0) LS
section
variable {t:p4} {L:List Nat} {way out:List (Int×Int)} {a:Int} {rh v5:I} {x y:Nat} {H:List au} {p:Int×Int}
theorem adV (jJ:0≤p.1) (nq:0≤p.2∧p.2≤1) (gX:r6 p ∉ L):fz (.agg [hP p.1,hP p.2]) (rB L) 0=some none:=by
 have:=PY (r6 p) L 0 gX;rw [X' jJ nq] at this;exact this
theorem WM (jJ:0≤p.1) (nq:0≤p.2∧p.2≤1) (gX:r6 p∈L) (aN:L.Nodup):∃ i,fz (.agg [hP p.1,hP p.2]) (rB L) 0=some (some i)∧(∃ e:Nat×I×I,(rB L)[i]?=some e∧e.2.2=hP 1)∧(rB L).eraseIdx i=rB (Iu L p):=by
 obtain ⟨i,ad,af,aG⟩:=WK (r6 p) L 0 gX aN;rw [X' jJ nq,sO] at ad;exact ⟨i,ad,af,aG⟩
theorem Yz (cm:rM t L way out a rh v5 x y H) (jJ:0≤p.1) (nq:0≤p.2∧p.2≤1) (gX:r6 p ∉ L) (Y:List au) :
  ∃ qq,Sem Tryz.prog (.yield H.length) [.agg (p1 p)] ((H++[I2 t a v5 .ready none])++Y) 0 (.bool true) ((H++[I2 t a v5 .ready none])++qq):=by
 refine ⟨Y++[.dead],GF dI XI XJ (Lh _ _ _) rfl (Lo (by simp)) ?_⟩;obtain ⟨Hz,ad⟩:=cm.ad;unfold TJ;conv=>whnf
 refine DW (x:=au.cells [(hP (0:Int)),(hP (0:Int))]) (by first | exact qi.h | rfl | (simp [sc,I.settle];done)) ?_
 conv=>whnf
 rw [rk];refine ⟨rfl,JB _ _ _ _,?_⟩;rw [J0];unfold TK;obtain ⟨bq,dZ⟩:∃ c,QA=c:=⟨_,rfl⟩;rw [dZ];conv=>whnf
 refine DW (qF (qF (qF cm.af))) ?_;conv=>whnf
 refine DW (x:=au.cells [hP p.1,hP p.2]) (by first | exact qi.h | rfl | (simp [sc,I.settle];done)) ?_
 conv=>whnf
 refine ⟨rfl,_,_,qF (qF (qF ad)),none,adV jJ nq gX,?_⟩;conv=>whnf
 refine ⟨_,rfl,?_⟩;conv=>whnf
 show _∧(((H++[I2 t a v5 .busy none])++Y)++[_])[H.length]?=_∧jg ((((H++[I2 t a v5 .busy none])++Y)++[_]).set H.length _) _;exact ⟨rfl,JB _ _ _ _,by rw [J0];exact MT _ _ _ _⟩
theorem PV (aN:L.Nodup):(Iu L p).Nodup:=aN.filter _
theorem rM.push {G:List au} {cells:List I} (cm:rM t L way out a rh v5 x y G) (ao:cells=(way++[p]).flatMap p1) {b:Int} {D:List au} (qt:D=G∨(D=G.set x .dead∧4<x)) :
  rM t L (way++[p]) out b (.cl G.length (G.length+1) (way.length+1) 2) v5 G.length y (((D++[au.grow cells (G.length+1) 2,au.dead]).set 3 (au.cells [.cl G.length (G.length+1) (way.length+1) 2])).set 4 (au.cells [hP b])):=by
 subst ao;have ak:=cm.len;have P4:D.length=G.length:=by rcases qt with rfl | ⟨rfl,_⟩ <;> simp
 obtain ⟨r5,aS,⟨Hz,ad⟩,af,aG,a6,hw,aq,ne,KO,KP,J_,JM⟩:=cm;have Oe:∀ (j:Nat) (o:au),j≠x∨D=G→G[j]?=some o→D[j]?=some o:=fun j o aw h=>by
  rcases qt with rfl | ⟨rfl,_⟩
  ·exact h
  ·rcases aw with aw | aw
   ·exact qJ h (Ne.symm aw)
   ·rw [aw];exact h
 have L2:∀ j:Nat,j≤4→j≠x∨D=G:=fun j aw=>by
  rcases qt with h | ⟨_,h⟩
  ·exact .inr h
  ·exact .inl (by omega)
 refine ⟨r5,?_,⟨Hz,?_⟩,?_,?_,?_,?_,?_,?_,?_,?_,.inr (by omega),JM⟩
 ·exact qJ (qJ (qF (Oe 0 _ (L2 0 (by omega)) aS)) (by omega)) (by omega)
 ·exact qJ (qJ (qF (Oe 1 _ (L2 1 (by omega)) ad)) (by omega)) (by omega)
 ·exact qJ (qJ (qF (Oe 2 _ (L2 2 (by omega)) af)) (by omega)) (by omega)
 ·exact qJ (Li (by simp;omega)) (by omega)
 ·exact Li (by simp;omega)
 ·refine .inr ⟨by simp,by omega,(way++[p]).flatMap p1,?_,by rw [Kk];exact sd _,tO (by rw [Kk];exact sd _)⟩;rw [←P4];exact qJ (qJ (MV _ _) (by omega)) (by omega)
 ·rcases aq with aq | ⟨bC,bT,rZ⟩
  ·exact .inl aq
  ·exact .inr ⟨bC,bT,qJ (qJ (qF (Oe y _ (.inl (Ne.symm ne)) rZ)) (by omega)) (by omega)⟩
 ·omega
 ·simp;omega
 ·simp;omega
theorem ais (cm:rM t L way out a rh v5 x y H) (jJ:0≤p.1∧p.1<(t.2.length:Int)) (nq:0≤p.2∧p.2≤1) (gX:r6 p∈L) (SV:r6 (p.1,1-p.2)∈Iu L p) (S9:way.length≤1000) (Y:List au) :
  ∃ H',Sem Tryz.prog (.yield H.length) [.agg (p1 p)] ((H++[I2 t a v5 .ready none])++Y) 0 (.bool false) H' ∧
    H'[H.length]?=some (I2 t a v5 .done (some (.exit 3)))∧∃ UO oh,rM t (J9 L p) (way++[p]) out (fin t p) UO v5 oh y (H'.set H.length .dead):=by
 have aeS:=cm.len;have alX:=cm.J_;have aeB:=cm.JM;have aeV:=cm.KO;have aeW:=cm.KP;obtain ⟨Hz,hm⟩:=cm.ad;obtain ⟨i1,f1,⟨e1,ck,dF⟩,f3⟩:=WM jJ.1 nq gX cm.r5;obtain ⟨i2,f4,_,f5⟩:=WM (p:=(p.1,1-p.2)) jJ.1 (by simp only;omega) SV (PV cm.r5);have y1:IntKind.i64.wrap (1-p.2)=1-p.2:=JI _ (by omega) (by omega);obtain ⟨Kx,KC⟩:∃ Kx,Kx=(H++[I2 t a v5 .busy none])++Y++[au.cells [hP p.1,hP p.2]]:=⟨_,rfl⟩;have Kc:rM t L way out a rh v5 x y Kx:=by rw [KC];exact ((cm.more _).more _).more _
 have al0:Kx.length=H.length+1+Y.length+1:=by rw [KC];simp;omega
 have cV:Kx[((H++[I2 t a v5 .ready none])++Y).length]?=some (.cells [hP p.1,hP p.2]):=by rw [KC];simp [sc]
 have ag:Kx[H.length]?=some (I2 t a v5 .busy none):=by rw [KC];exact JB _ _ _ _
 obtain ⟨BH,SM⟩:∃ BH,BH=((H++[I2 t a v5 .ready none])++Y).length:=⟨_,rfl⟩;have alU:BH=H.length+1+Y.length:=by rw [SM];simp;omega
 have Gc:Kx[1]?=some (.map (rB L) Hz):=by rw [KC];exact qF (qF (qF hm))
 rw [←SM] at cV;obtain ⟨IC,JN⟩:∃ IC,IC=Kx.set 1 (.map (rB (Iu L p)) Hz):=⟨_,rfl⟩;have oZ:rM t (Iu L p) way out a rh v5 x y IC:=by rw [JN];exact Kc.map (PV cm.r5)
 have aeX:IC[1]?=some (.map (rB (Iu L p)) Hz):=by rw [JN];exact Li (by omega)
 have Sw:IC[BH]?=some (.cells [hP p.1,hP p.2]):=by rw [JN];exact qJ cV (by omega)
 have eU:IC[H.length]?=some (I2 t a v5 .busy none):=by rw [JN];exact qJ ag (by omega)
 obtain ⟨rb,IY⟩:∃ rb,rb=IC.set 1 (.map (rB (J9 L p)) Hz):=⟨_,rfl⟩;have Kd:rM t (J9 L p) way out a rh v5 x y rb:=by rw [IY];exact oZ.map (PV (PV cm.r5))
 have P2:rb[BH]?=some (.cells [hP p.1,hP p.2]):=by rw [IY];exact qJ Sw (by omega)
 have fk:rb[H.length]?=some (I2 t a v5 .busy none):=by rw [IY];exact qJ eU (by omega)
 have e_:rb.length=Kx.length:=by rw [IY,JN];simp
 obtain ⟨D,qt,cells,Cg,Da⟩:∃ D:List au,(D=rb∨(D=rb.set x .dead∧4<x))∧∃ cells:List I,cells=(way++[p]).flatMap p1 ∧
   ((rh=.ay [] 0 .full∧way=[]∧D=rb∧cells=p1 p)∨(rh=.cl x (x+1) way.length 2∧D=rb.set x .dead∧∃ cs,rb[x]?=some (.grow cs (x+1) 2)∧((cs.length=way.length*2∧cells=cs++p1 p)∨(way.length*2<cs.length∧cells=cs.take (way.length*2)++p1 p)))):=by
  rcases Kd.hw with ⟨bC,bT⟩ | ⟨bC,bT,cs,rZ,J2,Nn⟩
  ·exact ⟨rb,.inl rfl,p1 p,by rw [bC];simp,.inl ⟨bT,bC,rfl,rfl⟩⟩
  ·refine ⟨rb.set x .dead,.inr ⟨rfl,bT⟩,cs.take (way.length*2)++p1 p,by rw [Nn];simp,.inr ⟨bC,rfl,cs,rZ,?_⟩⟩;rcases Nat.lt_or_ge (way.length*2) cs.length with h | h
   ·exact .inr ⟨h,rfl⟩
   ·exact .inl ⟨by omega,by rw [tO (by omega)]⟩
 have W':=Kd.push (b:=fin t p) Cg qt;have P4:D.length=rb.length:=by rcases qt with rfl | ⟨rfl,_⟩ <;> simp
 have W9:∀ (j:Nat) (o:au),j≠x→rb[j]?=some o→D[j]?=some o:=fun j o aw h=>by
  rcases qt with rfl | ⟨rfl,_⟩
  ·exact h
  ·exact qJ h (Ne.symm aw)
 have L2:∀ (j:Nat) (o:au),j≤4→rb[j]?=some o→D[j]?=some o:=fun j o aw h=>by
  rcases qt with rfl | ⟨rfl,a6⟩
  ·exact h
  ·exact qJ h (by omega)
 obtain ⟨NR,Ih⟩:∃ NR,NR=D++[au.grow cells (rb.length+1) 2,au.dead]:=⟨_,rfl⟩;obtain ⟨K7,Ka⟩:∃ K7,K7=NR.set 3 (au.cells [.cl rb.length (rb.length+1) (way.length+1) 2]):=⟨_,rfl⟩;rw [←Ih,←Ka] at W';have Sx:K7[BH]?=some (.cells [hP p.1,hP p.2]):=by rw [Ka,Ih];exact qJ (qF (W9 _ _ (by omega) P2)) (by omega)
 have Sp:K7[0]?=some (I7 t):=by rw [Ka,Ih];exact qJ (qF (L2 0 _ (by omega) Kd.aS)) (by omega)
 have Su:K7[4]?=some (.cells [hP a]):=by rw [Ka,Ih];exact qJ (qF (L2 4 _ (by omega) Kd.a6)) (by omega)
 have alZ:4<NR.length:=by rw [Ih];simp;omega
 have St:NR[3]?=some (.cells [rh]):=by rw [Ih];exact qF (L2 3 _ (by omega) Kd.aG)
 have qo:(K7.set 4 (au.cells [hP (fin t p)]))[H.length]?=some (I2 t a v5 .busy none):=by rw [Ka,Ih];exact qJ (qJ (qF (W9 _ _ (by omega) fk)) (by omega)) (by omega)
 have aeT:H.length<(K7.set 4 (au.cells [hP (fin t p)])).length:=by rw [Ka,Ih];simp;omega
 refine ⟨(K7.set 4 (au.cells [hP (fin t p)])).set H.length (I2 t a v5 .done (some (.exit 3))),?_,Li aeT,?_⟩
 ·refine YJ (id:=3) dI XI XJ (Lh _ _ _) rfl (Lo ?_) ?_
  ·rw [ta,ta,Ka,Ih,ta];simp;omega
  unfold TJ;conv=>whnf
  refine DW (x:=au.cells [(hP (0:Int)),(hP (0:Int))]) (by first | exact qi.h | rfl | (simp [sc,I.settle];done)) ?_
  conv=>whnf
  rw [rk];refine ⟨rfl,JB _ _ _ _,?_⟩;rw [J0];unfold TK;obtain ⟨bq,dZ⟩:∃ c,QA=c:=⟨_,rfl⟩;rw [dZ,←SM];erw [←KC];conv=>whnf
  refine DW Kc.af ?_;conv=>whnf
  refine DW cV ?_;conv=>whnf
  refine ⟨rfl,_,_,Gc,some i1,f1,?_⟩;conv=>whnf
  refine ⟨e1,ck,?_⟩;rw [dF];conv=>whnf
  refine DW Kc.af ?_;conv=>whnf
  refine DW cV ?_;conv=>whnf
  refine ⟨rfl,_,_,Gc,some i1,f1,?_⟩;conv=>whnf
  rw [f3,←JN];conv=>whnf
  subst dZ;unfold QA;obtain ⟨bk,b8⟩:∃ c,TL=c:=⟨_,rfl⟩;rw [b8];conv=>whnf
  refine DW oZ.af ?_;conv=>whnf
  refine DW Sw ?_;conv=>whnf
  refine DW Sw ?_;conv=>whnf
  rw [y1];refine ⟨rfl,_,_,aeX,some i2,f4,?_⟩;conv=>whnf
  erw [f5,←IY];conv=>whnf
  subst b8;unfold TL;obtain ⟨a',cb⟩:∃ c,OZ=c:=⟨_,rfl⟩;rw [cb];conv=>whnf
  have afi:rh=.ay [] 0 .full∨∃ i g n z,rh=.cl i g n z:=by
   rcases Da with ⟨h,_⟩ | ⟨h,_⟩
   ·exact .inl h
   ·exact .inr ⟨_,_,_,_,h⟩
  refine ⟨_,_,fun C=>XF rfl (e:=65) (by kernel_rfl) Kd.aG afi,?_⟩;rcases Da with ⟨rfl,rfl,rfl,rfl⟩ | ⟨rfl,rfl,cs,al,⟨ad,rfl⟩ | ⟨ad,rfl⟩⟩
  ·(conv=>whnf);refine DW P2 ?_;(conv=>whnf);refine ⟨⟨rfl,by decide⟩,?_⟩;(conv=>whnf);refine ⟨⟨by decide,by decide,rfl⟩,?_⟩;erw [←Ih];(conv=>whnf);refine DW St ?_;(conv=>whnf);erw [←Ka];(conv=>whnf);subst cb;unfold OZ;(conv=>whnf);refine DW Sp ?_;(conv=>whnf);refine DW Sx ?_;(conv=>whnf);refine ⟨(pY (qO (pY rfl (pY (qL (fun _=>(pY rfl (pY rfl rfl))) _ _ _) rfl))) (pY (I1 (pY rfl (pY rfl rfl))) rfl)),_,Jv (JL jJ),?_⟩;(conv=>whnf);refine DW Su ?_;(conv=>whnf);exact ⟨rfl,qo,jg.refl _⟩
  ·(conv=>whnf);refine DW P2 ?_;(conv=>whnf);refine ⟨⟨rfl,by decide⟩,?_⟩;(conv=>whnf);refine DW al ?_;(conv=>whnf);refine .inl ⟨⟨rfl,rfl,rfl,ad,by decide,by omega⟩,?_⟩;erw [←Ih];(conv=>whnf);refine DW St ?_;(conv=>whnf);erw [←Ka];(conv=>whnf);subst cb;unfold OZ;(conv=>whnf);refine DW Sp ?_;(conv=>whnf);refine DW Sx ?_;(conv=>whnf);refine ⟨(pY (qO (pY rfl (pY (qL (fun _=>(pY rfl (pY rfl rfl))) _ _ _) rfl))) (pY (I1 (pY rfl (pY rfl rfl))) rfl)),_,Jv (JL jJ),?_⟩;(conv=>whnf);refine DW Su ?_;(conv=>whnf);exact ⟨rfl,qo,jg.refl _⟩
  ·(conv=>whnf);refine DW P2 ?_;(conv=>whnf);refine ⟨⟨rfl,by decide⟩,?_⟩;(conv=>whnf);refine DW al ?_;(conv=>whnf);refine .inr ⟨⟨rfl,rfl,rfl,ad,by decide,by omega⟩,?_⟩;erw [←Ih];(conv=>whnf);refine DW St ?_;(conv=>whnf);erw [←Ka];(conv=>whnf);subst cb;unfold OZ;(conv=>whnf);refine DW Sp ?_;(conv=>whnf);refine DW Sx ?_;(conv=>whnf);refine ⟨(pY (qO (pY rfl (pY (qL (fun _=>(pY rfl (pY rfl rfl))) _ _ _) rfl))) (pY (I1 (pY rfl (pY rfl rfl))) rfl)),_,Jv (JL jJ),?_⟩;(conv=>whnf);refine DW Su ?_;(conv=>whnf);exact ⟨rfl,qo,jg.refl _⟩
 ·rw [sR];exact ⟨_,_,W'.aiE (by omega) (by omega) (by omega)⟩
end

theorem WL {α:Type} {q:α→Bool}:∀ {l:List α} {p:α},l.find? q=some p→∃ n,∃ h:n<l.length,l[n]=p∧q p=true∧∀ i (hi:i<n),q (l[i]'(by omega))=false
 | [],_,h=>by cases h
 | x::l,p,h=>by
   rw [List.find?_cons] at h;cases al:q x with
   | true =>
     rw [al] at h;obtain rfl:=Option.some.inj h;exact ⟨0,by simp,rfl,al,fun i hi=>absurd hi (by omega)⟩
   | false =>
     rw [al] at h;obtain ⟨n,ad,af,aG,a6⟩:=WL h;refine ⟨n+1,by simpa using ad,af,aG,fun i hi=>?_⟩;cases i with
     | zero=>exact al
     | succ i=>exact a6 i (by omega)
theorem Tu {b:p4} {f:Int} {p:Int×Int} (h:p∈places b f):0≤p.1∧p.1<(b.2.length:Int)∧0≤p.2∧p.2≤1∧qy b p=f:=by
 unfold places at h;obtain ⟨r,aj,rfl⟩:=sv.1 h;obtain ⟨ad,af⟩:=sK.1 aj;have ad:=sJ.1 ad;refine ⟨?_,?_,?_,?_,by simpa [qY] using af⟩ <;> unfold q4 <;> simp only <;> omega
theorem YP {α:Type} (l:List α):l=[]∨∃ (l':List α) (p:α),l=l'++[p]:=by
 rcases l.eq_nil_or_concat with h | ⟨l',p,h⟩
 ·exact .inl h
 ·exact .inr ⟨l',p,by rw [h,List.concat_eq_append]⟩
def KN (t:p4):Nat→List Nat→List (Int×Int)→List (Int×Int)→Int→Option (List (Int×Int))
 | 0,_,_,_,_=>none
 | m+1,L,way,out,a=>p8 (way.length≤1000∧out.length≤1000) <|
   match (places t a).find? (M_ L) with
   | some p=>p8 (r6 (p.1,1-p.2)∈Iu L p) (KN t m (J9 L p) (way++[p]) out (fin t p))
   | none=>match way.getLast? with
     | none=>some out
     | some p=>p8 (0≤p.1∧p.1<(t.2.length:Int)) (KN t m L way.dropLast (out++[p]) (qy t p))
def Mi (t:p4):Option (List (Int×Int)) :=
 p8 (0<t.2.length∧t.2.length≤1000) ((KN t p_ (List.range (2*t.2.length)) [] [] (ix t.2 0).1).bind fun out=>p8 (out.length≠0∧out.length≤1000) (some out.reverse))
section
variable {t:p4} {L:List Nat} {way out:List (Int×Int)} {a:Int} {rh v5:I} {x y:Nat} {H:List au} {p:Int×Int}
theorem rM.ajs (cm:rM t L way out a rh v5 x y H):v5.settle=v5:=by
 rcases cm.aq with ⟨_,h⟩ | ⟨h,_⟩ <;> rw [h] <;> rfl
theorem rM.pop {b:Int} (cm:rM t L (way++[p]) out a rh v5 x y H) (hw:rh=.cl x (x+1) (way.length+1) 2) {cells:List I} (ao:cells=(out++[p]).flatMap p1) {D:List au} {G:List au} (G7:G=H.set 3 (.cells [.cl x (x+1) way.length 2])) (qt:D=G∨(D=G.set y .dead∧4<y)) :
  rM t L way (out++[p]) b (.cl x (x+1) way.length 2) (.cl G.length (G.length+1) (out.length+1) 2) x G.length ((D++[au.grow cells (G.length+1) 2,au.dead]).set 4 (au.cells [hP b])):=by
 subst ao;have ak:=cm.len;have alS:G.length=H.length:=by rw [G7];simp
 have P4:D.length=G.length:=by rcases qt with rfl | ⟨rfl,_⟩ <;> simp
 obtain ⟨r5,aS,⟨Hz,ad⟩,af,aG,a6,ma,aq,ne,KO,KP,J_,JM⟩:=cm;have Ih:∀ (j:Nat) (o:au),j≠3→H[j]?=some o→G[j]?=some o:=fun j o aw h=>by rw [G7];exact qJ h (Ne.symm aw)
 have aeb:∀ (j:Nat) (o:au),j≠y→G[j]?=some o→D[j]?=some o:=fun j o aw h=>by
  rcases qt with rfl | ⟨rfl,_⟩
  ·exact h
  ·exact qJ h (Ne.symm aw)
 have P3:∀ (j:Nat) (o:au),j≤4→G[j]?=some o→D[j]?=some o:=fun j o aw h=>by
  rcases qt with rfl | ⟨rfl,aX⟩
  ·exact h
  ·exact qJ h (by omega)
 refine ⟨r5,?_,⟨Hz,?_⟩,?_,?_,Li (by simp;omega),.inr ?_,.inr ⟨by simp,by omega,?_⟩,by omega,by simp;omega,by simp;omega,J_,.inr (by omega)⟩
 ·exact qJ (qF (P3 0 _ (by omega) (Ih 0 _ (by omega) aS))) (by omega)
 ·exact qJ (qF (P3 1 _ (by omega) (Ih 1 _ (by omega) ad))) (by omega)
 ·exact qJ (qF (P3 2 _ (by omega) (Ih 2 _ (by omega) af))) (by omega)
 ·refine qJ (qF (P3 3 _ (by omega) ?_)) (by omega);rw [G7];exact Li (by omega)
 ·rcases ma with ⟨bC,_⟩ | ⟨bC,bT,cs,rZ,J2,Nn⟩
  ·exact absurd bC (by simp)
  ·refine ⟨rfl,bT,cs,qJ (qF (aeb x _ ne (Ih x _ (by omega) rZ))) (by omega),?_,?_⟩
   ·rw [su] at J2;omega
   ·have:=congrArg (List.take (way.length*2)) Nn;rw [List.take_take,List.flatMap_append] at this;rw [su,tF (by omega)] at this;rw [this,List.take_append_of_le_length (by rw [Kk];exact sd _),tO (by rw [Kk];exact sd _)]
 ·rw [←P4];exact qJ (MV _ _) (by omega)
theorem afA {cs:List I} (h:(way.length+1)*2≤cs.length) (e:cs.take ((way.length+1)*2)=(way++[p]).flatMap p1):cs[way.length*2]?=some (hP p.1)∧cs[way.length*2+1]?=some (hP p.2):=by
 have g:=Qu (way++[p]) way.length (by simp);have ae:(way++[p]).getD way.length (0,0)=p:=by simp
 rw [ae,←e,sT,sT,if_pos (by omega),if_pos (by omega)] at g;exact g
theorem air {Nd:List (Int×Int)} (pF:t.2.length≤1000) (Kc:rM t L way out a rh v5 x y H) (h:KN t p_ L way out a=some Nd)
  {Q:cB→List I→List au→Prop} (av:∀ L a rh v5 x y H GU GV GX JH,rM t L [] Nd a rh v5 x y H→Q (.exit 2) (GG 92 [(1,.ptr 0 0),(3,.ptr 2 0),(5,v5),(6,.ptr 3 0),(7,.ptr 4 0),(8,.func 89 [G1 t] []),(38,GU),(39,GV),(40,GX),(67,JH)]) H)
  {T:List I} (bX:eR [false,true,false,true,false,true,true,true,true,false,false,false,false,false,false,false,false,false,false,false,false,false,false,false,false,false,false,false,false,false,false,false,false,false,false,false,false,false,false,false,false,false,false,false,false,false,false,false,false,false,false,false,false,false,false,false,false,false,false,false,false,false,false,false,false,false,false,false,false,false,false,false,false,false,false,false,false,false,false,false,false,false,false,false,false,false,false,false,false,false,false,false] T=GG 92 [(1,.ptr 0 0),(3,.ptr 2 0),(5,v5),(6,.ptr 3 0),(7,.ptr 4 0),(8,.func 89 [G1 t] [])]):dC Tryz.prog LS 104 0 none QB T H Q:=by
 unfold QB;obtain ⟨mZ,Hp⟩:∃ c,TU=c:=⟨_,rfl⟩;rw [Hp];refine wp_loop bX ?_;refine .intro (fun m T H=>∃ L way out a rh v5 x y,rM t L way out a rh v5 x y H∧T=GG 92 [(1,.ptr 0 0),(3,.ptr 2 0),(5,v5),(6,.ptr 3 0),(7,.ptr 4 0),(8,.func 89 [G1 t] [])]∧KN t m L way out a=some Nd) p_ ⟨_,_,_,_,_,_,_,_,Kc,rfl,h⟩ ?_;clear h bX Kc;rintro m T H ⟨L,way,out,a,rh,v5,x,y,cm,rfl,h⟩;cases m
 ·exact q7 h
 rename_i m;rw [KN.eq_2] at h;obtain ⟨⟨S9,fF⟩,h⟩:=qn h;have Xo:JD t a=some (places t a):=by rw [JD,if_pos pF]
 subst Hp;unfold TU;obtain ⟨alK,W4⟩:∃ c,TX=c:=⟨_,rfl⟩;obtain ⟨fP,G5⟩:∃ c,TT=c:=⟨_,rfl⟩;rw [W4,G5];refine I9 fun mS G8=>?_;conv=>whnf
 refine DW cm.a6 ?_;conv=>whnf
 refine ⟨(pY (qO (pY rfl (pY (qL (fun _=>(pY rfl (pY rfl rfl))) _ _ _) rfl))) (pY rfl rfl)),_,U8 (v:=()) rfl,?_⟩;conv=>whnf
 subst W4;unfold TX;have Qi:=cm.ajs;cases a3:(places t a).find? (M_ L) with
 | some p =>
   rw [a3] at h;obtain ⟨SV,ak⟩:=qn h;obtain ⟨n,aN,ae2,gX,fV⟩:=WL a3;have aC:=Tu (vM a3);refine ain (id:=3) (f:=fun e=>.agg (p1 e)) (aiA Xo) aN (by exact rfl) (fun i hi Y=>?_) (fun Y=>?_) (by exact rfl)
   ·have yP:=Tu (sD (show i<(places t a).length by omega));exact Yz cm yP.1 ⟨yP.2.2.1,yP.2.2.2.1⟩ (of_decide_eq_false (fV i hi)) Y
   ·rw [ae2];obtain ⟨H',afb,aeA,UO,oh,oY⟩:=ais cm ⟨aC.1,aC.2.1⟩ ⟨aC.2.2.1,aC.2.2.2.1⟩ (of_decide_eq_true gX) SV S9 Y;refine ⟨H',⟨aeA,?_⟩,afb⟩;(conv=>whnf);refine G8 _ _ _ ?_;(conv=>whnf);exact ⟨m,sm m,_,_,_,_,UO,v5.settle,oh,y,by rw [Qi];exact oY,rfl,ak⟩
 | none =>
   rw [a3] at h;have fV:=vL.1 a3;refine UA (f:=fun e=>.agg (p1 e)) (UE Xo) (fun _=>H) (by exact rfl) rfl (fun _=>rfl) (fun i hi Y=>?_) (by exact rfl) rfl (fun Y=>?_)
   ·have yP:=Tu (sD hi);exact Yz cm yP.1 ⟨yP.2.2.1,yP.2.2.2.1⟩ (by have:=fV _ (sD hi);simpa [M_] using this) Y
   have Jj:rM t L way out a rh v5 x y ((H++[.dead])++Y):=(cm.more _).more _;clear cm;obtain ⟨G,G7⟩:∃ G,G=(H++[au.dead])++Y:=⟨_,rfl⟩;rw [←G7] at Jj ⊢;(conv=>whnf);refine DW Jj.aG ?_;rcases Jj.hw with ⟨rfl,rfl⟩ | ⟨rfl,al3,cs,al,cC,Ck⟩
   ·obtain rfl:=Option.some.inj h;(conv=>whnf);refine G8 _ _ _ ?_;(conv=>whnf);exact av _ _ _ _ _ _ _ _ _ _ _ (by rw [Qi];exact Jj)
   ·(conv=>whnf);rcases YP way with rfl | ⟨IB,p,rfl⟩
    ·obtain rfl:=Option.some.inj h;(conv=>whnf);refine G8 _ _ _ ?_;(conv=>whnf);exact av _ _ _ _ _ _ _ _ _ _ _ (by rw [Qi];exact Jj)
    ·rw [List.getLast?_concat] at h;obtain ⟨jJ,ak⟩:=qn h;rw [List.dropLast_concat] at ak;(have hlen:(IB++[p]).length=IB.length+1:=by simp);(have y1:IntKind.i64.wrap ((((IB++[p]).length:Nat):Int)-1)=(IB.length:Int):=by rw [hlen,JI _ (by omega) (by omega)];omega);rw [hlen] at cC Ck S9;obtain ⟨jz,hW⟩:=afA cC Ck;have aeS:=Jj.len;have Ix:=Jj.ne;have aeV:=Jj.KO;have aeW:=Jj.KP;have aeB:=Jj.JM;rw [decide_eq_false (show ¬ ((((IB++[p]).length:Nat):Int)=0) by omega)];rw [Qi];(conv=>whnf);subst G5;unfold TT;obtain ⟨dX,B1⟩:∃ c,TS=c:=⟨_,rfl⟩;rw [B1];(conv=>whnf);refine DW Jj.aG ?_;(conv=>whnf);refine DW Jj.aG ?_;(conv=>whnf);rw [y1];refine ⟨by omega,?_⟩;(conv=>whnf);refine DW al ?_;(conv=>whnf);refine DW (by rw [show 0+(IB.length:Int).toNat*2=IB.length*2 by omega];exact jz) ?_;(conv=>whnf);refine DW (by rw [show 0+(IB.length:Int).toNat*2+1=IB.length*2+1 by omega];exact hW) ?_;(conv=>whnf);refine DW (J' _ _) ?_;(conv=>whnf);rw [rk];(conv=>whnf);obtain ⟨IC,JN⟩:∃ IC,IC=G++[au.cells [hP p.1,hP p.2]]:=⟨_,rfl⟩;(have oZ:rM t L (IB++[p]) out a (.cl x (x+1) (IB++[p]).length 2) v5 x y IC:=by rw [JN];exact Jj.more _);(have ad6:IC[G.length]?=some (.cells [hP p.1,hP p.2]):=by rw [JN];exact J' _ _);(have hx:IC.length=G.length+1:=by rw [JN];simp);erw [←JN];subst B1;unfold TS;obtain ⟨b7,hn⟩:∃ c,TR=c:=⟨_,rfl⟩;rw [hn];(conv=>whnf);refine ⟨_,_,fun C=>XF rfl (e:=65) (by kernel_rfl) oZ.aG (.inr ⟨_,_,_,_,rfl⟩),?_⟩;(conv=>whnf);refine DW oZ.aG ?_;(conv=>whnf);rw [y1];refine ⟨⟨by omega,by omega⟩,?_⟩;(conv=>whnf);refine DW oZ.aG ?_;(conv=>whnf);obtain ⟨rb,IY⟩:∃ rb,rb=IC.set 3 (.cells [.cl x (x+1) IB.length 2]):=⟨_,rfl⟩;(have P1:rb[G.length]?=some (.cells [hP p.1,hP p.2]):=by rw [IY];exact qJ ad6 (by omega));(have W6:rb[0]?=some (I7 t):=by rw [IY];exact qJ oZ.aS (by omega));(have W7:rb[4]?=some (.cells [hP a]):=by rw [IY];exact qJ oZ.a6 (by omega));(have e_:rb.length=IC.length:=by rw [IY];simp);erw [←IY];subst hn;unfold TR;obtain ⟨bq,dZ⟩:∃ c,Yh=c:=⟨_,rfl⟩;rw [dZ];rcases oZ.aq with ⟨aq,rfl⟩ | ⟨rfl,Xs,a0⟩
     ·have S2:=oZ.pop (b:=qy t p) (by rw [hlen]) (cells:=p1 p) (by rw [aq];simp) IY (.inl rfl);(conv=>whnf);refine DW P1 ?_;(conv=>whnf);refine ⟨⟨rfl,by decide⟩,?_⟩;(conv=>whnf);refine ⟨⟨by decide,by decide,rfl⟩,?_⟩;have Sr:(rb++[au.grow (p1 p) (rb.length+1) 2,au.dead])[G.length]?=some (.cells [hP p.1,hP p.2]):=qF P1;have Sq:(rb++[au.grow (p1 p) (rb.length+1) 2,au.dead])[0]?=some (I7 t):=qF W6;have Sv:(rb++[au.grow (p1 p) (rb.length+1) 2,au.dead])[4]?=some (.cells [hP a]):=qF W7;subst dZ;(conv=>whnf);refine DW Sq ?_;(conv=>whnf);refine DW Sr ?_;(conv=>whnf);refine ⟨(pY (qO (pY rfl (pY (qL (fun _=>(pY rfl (pY rfl rfl))) _ _ _) rfl))) (pY (I1 (pY rfl (pY rfl rfl))) rfl)),_,Jv (JL jJ),?_⟩;(conv=>whnf);refine DW Sv ?_;(conv=>whnf);refine G8 _ _ _ ?_;(conv=>whnf);exact ⟨m,sm m,_,IB,_,_,_,_,_,_,S2,by rw [aq];rfl,ak⟩
     ·(have afm:rb[y]?=some (.grow (out.flatMap p1) (y+1) 2):=by rw [IY];exact qJ a0 (by omega));have S2:=oZ.pop (b:=qy t p) (by rw [hlen]) (cells:=out.flatMap p1++p1 p) (by simp) IY (.inr ⟨rfl,Xs⟩);(conv=>whnf);refine DW P1 ?_;(conv=>whnf);refine ⟨⟨rfl,by decide⟩,?_⟩;(conv=>whnf);refine DW afm ?_;(conv=>whnf);refine .inl ⟨⟨rfl,rfl,rfl,Kk _,by decide,by omega⟩,?_⟩;have Sr:(rb.set y .dead++[au.grow (out.flatMap p1++p1 p) (rb.length+1) 2,au.dead])[G.length]?=some (.cells [hP p.1,hP p.2]):=qF (qJ P1 (by omega));have Sq:(rb.set y .dead++[au.grow (out.flatMap p1++p1 p) (rb.length+1) 2,au.dead])[0]?=some (I7 t):=qF (qJ W6 (by omega));have Sv:(rb.set y .dead++[au.grow (out.flatMap p1++p1 p) (rb.length+1) 2,au.dead])[4]?=some (.cells [hP a]):=qF (qJ W7 (by omega));subst dZ;(conv=>whnf);refine DW Sq ?_;(conv=>whnf);refine DW Sr ?_;(conv=>whnf);refine ⟨(pY (qO (pY rfl (pY (qL (fun _=>(pY rfl (pY rfl rfl))) _ _ _) rfl))) (pY (I1 (pY rfl (pY rfl rfl))) rfl)),_,Jv (JL jJ),?_⟩;(conv=>whnf);refine DW Sv ?_;(conv=>whnf);refine G8 _ _ _ ?_;(conv=>whnf);exact ⟨m,sm m,_,IB,_,_,_,_,_,_,S2,rfl,ak⟩
end

theorem ahh (l:List (Int×Int)):(l.flatMap p1).map I.view=l.flatMap p1:=by
 rw [List.map_flatMap];rfl
theorem afr {t:p4} (pF:t.2.length≤1000)
  {Q:cB→List I→List au→Prop} (av:∀ FH,Q (.exit 0) (GG 92 [(1,.ptr 0 0),(3,.ptr 2 0),(4,FH),(17,hP t.2.length),(18,hP t.2.length),(19,B (decide ((t.2.length:Int)<(t.2.length:Int))))]) [I7 t,.map (rB (List.range (2*t.2.length))) (2*t.2.length),.cells [.map 1]])
  {T:List I} (bX:eR [false,true,false,true,false,false,false,false,false,false,false,false,false,false,false,false,false,true,true,false,false,false,false,false,false,false,false,false,false,false,false,false,false,false,false,false,false,false,false,false,false,false,false,false,false,false,false,false,false,false,false,false,false,false,false,false,false,false,false,false,false,false,false,false,false,false,false,false,false,false,false,false,false,false,false,false,false,false,false,false,false,false,false,false,false,false,false,false,false,false,false,false] T=GG 92 [(1,.ptr 0 0),(3,.ptr 2 0),(17,hP t.2.length),(18,hP (0:Nat))]):dC Tryz.prog LS 104 0 none QC T [I7 t,.map [] 0,.cells [.map 1]] Q:=by
 unfold QC;obtain ⟨bk,b8⟩:∃ c,TQ=c:=⟨_,rfl⟩;rw [b8];refine wp_loop bX ?_;refine .intro (fun m T H=>∃ i:Nat,i≤t.2.length∧m=t.2.length-i∧T=GG 92 [(1,.ptr 0 0),(3,.ptr 2 0),(17,hP t.2.length),(18,hP i)]∧H=[I7 t,.map (rB (List.range (2*i))) (2*i),.cells [.map 1]]) t.2.length ⟨0,by omega,by omega,rfl,rfl⟩ ?_;clear bX;rintro m T H ⟨i,hi,rfl,rfl,rfl⟩;conv=>whnf
 refine IG (fun aU=>?_) (fun aU=>?_)
 ·have aU:i<t.2.length:=by omega
  have dd:I.agg [hP (i:Int),hP 0]=.agg (p1 (q4 (2*i))):=by
   have:=Qt (n:=t.2.length) (i:=i) (b:=0) aU (by omega);rw [show 2*i+0=2*i by omega] at this;rw [this];rfl
  have aJ:I.agg [hP (i:Int),hP 1]=.agg (p1 (q4 (2*i+1))):=by
   rw [Qt (n:=t.2.length) (i:=i) (b:=1) aU (by omega)];rfl
  have f0:fz (.agg [hP (i:Int),hP 0]) (rB (List.range (2*i))) 0=some none:=by rw [dd];exact PY _ _ _ (by simp)
  have f1:fz (.agg [hP (i:Int),hP 1]) (rB (List.range (2*i+1))) 0=some none:=by rw [aJ];exact PY _ _ _ (by simp)
  have fR:rB (List.range (2*i))++[(2*i,I.agg [hP (i:Int),hP 0],hP 1)]=rB (List.range (2*i+1)):=by rw [dd,WB,←vh]
  have e1:rB (List.range (2*i+1))++[(2*i+1,I.agg [hP (i:Int),hP 1],hP 1)]=rB (List.range (2*i+1+1)):=by rw [aJ,WB,←vh]
  conv=>whnf
  subst b8;unfold TQ;obtain ⟨a',cb⟩:∃ c,TM=c:=⟨_,rfl⟩;rw [cb];refine I9 fun mS G8=>?_;conv=>whnf
  subst cb;unfold TM;conv=>whnf
  refine ⟨rfl,_,_,rfl,none,f0,?_⟩;conv=>whnf
  refine ⟨rfl,_,_,rfl,none,(by erw [fR];exact f1),?_⟩;conv=>whnf
  erw [fR,e1];refine G8 _ _ _ ?_;conv=>whnf
  exact ⟨t.2.length-(i+1),by omega,i+1,by omega,rfl,by rw [←rD i (by omega)] <;> rfl,rfl⟩
 ·obtain rfl:i=t.2.length:=by omega
  conv=>whnf
  exact av _
theorem UR {t:p4} {v:List (Int×Int)} (h:Mi t=some v):ql 104 [G1 t] (.ay (v.flatMap p1) v.length .shared):=by
 obtain ⟨⟨CN,pF⟩,h⟩:=qn h;obtain ⟨out,ak,h⟩:=qd h;obtain ⟨⟨ae4,jH⟩,h⟩:=qn h;obtain rfl:=Option.some.inj h;refine qM dI afD rfl (qL (fun _=>(pY rfl (pY rfl rfl))) _ _ _) fun Q bl=>?_;have jw:∀ T H,Jx [.tmp 2] (.ay (out.reverse.flatMap p1) out.reverse.length .shared) .ret T H→Q .ret T H:=fun T H bI=>bl _ T H bI;unfold Yg;obtain ⟨ac9,N5⟩:∃ c,TP=c:=⟨_,rfl⟩;rw [N5];conv=>whnf
 subst N5;unfold TP;obtain ⟨R',JA⟩:∃ c,QC=c:=⟨_,rfl⟩;obtain ⟨ac8,N4⟩:∃ c,TN=c:=⟨_,rfl⟩;rw [JA,N4];conv=>whnf
 subst JA;refine afr (t:=t) pF ?_ (by exact rfl);intro FH;conv=>whnf
 subst N4;unfold TN;obtain ⟨m0,IX⟩:∃ c,TV=c:=⟨_,rfl⟩;obtain ⟨BH,N7⟩:∃ c,TW=c:=⟨_,rfl⟩;rw [IX,N7];conv=>whnf
 refine ⟨by omega,?_⟩;conv=>whnf
 refine ah_ p1 2 qw t.2 0 ⟨by omega,by omega⟩ rfl ?_;conv=>whnf
 subst IX;unfold TV;obtain ⟨alJ,W3⟩:∃ c,QB=c:=⟨_,rfl⟩;rw [W3];conv=>whnf
 subst W3;have cm:rM t (List.range (2*t.2.length)) [] [] (ix t.2 0).1 (.ay [] 0 .full) (.ay [] 0 .full) 0 2 [I7 t,.map (rB (List.range (2*t.2.length))) (2*t.2.length),.cells [.map 1],.cells [.ay [] 0 .full],.cells [hP (ix t.2 0).1]] :=
  ⟨tS,rfl,⟨_,rfl⟩,rfl,rfl,rfl,.inl ⟨rfl,rfl⟩,.inl ⟨rfl,rfl⟩,by decide,by simp,by simp,.inl rfl,.inl rfl⟩
 refine air pF cm ak ?_ (by exact rfl);intro L a rh v5 x y H GU GV GX JH GL;conv=>whnf
 subst N7;unfold TW;rcases GL.aq with ⟨rfl,_⟩ | ⟨rfl,Xs,a0⟩
 ·exact absurd rfl ae4
 conv=>whnf
 refine ⟨_,_,Is (aid out (by omega) (by omega) (sr _) a0),?_⟩;conv=>whnf
 refine ⟨_,_,fun C=>WW rfl (sr _) (Li (sa.1 a0).1) (by rw [Kk,List.length_reverse]),?_⟩;rw [ahh];conv=>whnf
 rw [List.length_reverse] at jw;exact jw _ _ ⟨.inr rfl,_,rfl,_,oR (qL (fun _=>(pY rfl (pY rfl rfl))) _ _ _),rfl⟩
end Go.Proofs.YtfakoboiahbhaaaGreat.Ab


namespace Go.Proofs.YtfakoboiahbhaaaGreat.Ab
open Go
def Ie (e:Int×Int) (v:Int):Nat:=(if e.1=v then 1 else 0)+(if e.2=v then 1 else 0)
def qH (b:p4) (S:List Int) (v:Int):Nat:=(S.map fun i=>Ie (ix b.2 i) v).sum
section
variable {b t:p4}
theorem adF (p:Int×Int) (v:Int):Ie (ix b.2 p.1) v=(if qy b p=v then 1 else 0)+(if fin b p=v then 1 else 0):=by
 unfold Ie qy fin;by_cases h:0<p.2
 ·rw [if_pos h,if_pos h,Nat.add_comm]
 ·rw [if_neg h,if_neg h]
theorem LX (v:Int):qH b [] v=0:=rfl
theorem MS (i:Int) (S:List Int) (v:Int):qH b (i::S) v=Ie (ix b.2 i) v+qH b S v:=by simp [qH]
theorem N0 (S S':List Int) (v:Int):qH b (S++S') v=qH b S v+qH b S' v:=by simp [qH]
theorem Le {S S':List Int} (h:S.Perm S') (v:Int):qH b S v=qH b S' v:=by
 unfold qH;exact (h.map _).sum_nat
theorem LY {S:List Int} {v:Int}:qH b S v=0↔∀ i∈S,¬ qv b i v:=by
 induction S with
 | nil=>simp [LX]
 | cons i S a_ =>
   rw [MS,Nat.add_eq_zero_iff,a_];simp only [sk,forall_eq_or_imp];refine and_congr ?_ Iff.rfl;unfold Ie qv;split <;> split <;> simp [*]
theorem JY:∀ (l l':Row) (a:Int),qE b a (l++l')=(qE b a l).bind fun c=>qE b c l'
 | [],_,_=>rfl
 | p::l,l',a=>by
   rw [uQ,qE,qE];split
   ·exact JY l l' _
   ·rfl
theorem KS {a c:Int} {p:Int×Int}:qE b a [p]=some c↔qy b p=a∧fin b p=c:=by
 rw [qE,qE];split
 ·rename_i h;simp [h]
 ·rename_i h;simp [h]
theorem Jr {a c:Int} {p:Int×Int} {l:Row}:qE b a (p::l)=some c↔qy b p=a∧qE b (fin b p) l=some c:=by
 rw [qE];split
 ·rename_i h;simp [h]
 ·rename_i h;simp [h]
theorem O':∀ (l:Row) (a c v:Int),qE b a l=some c→(qH b (l.map (·.1)) v+(if a=v then 1 else 0)+(if c=v then 1 else 0)) % 2=0
 | [],a,c,v,h=>by
   have:a=c:=by simpa [qE] using h
   subst this;rw [tz,LX];split <;> rfl
 | p::l,a,c,v,h=>by
   obtain ⟨ad,af⟩:=Jr.1 h;have a_:=O' l _ c v af;rw [ss,MS,adF,ad];omega
def Im (t:p4) (p:Int×Int):Prop:=0≤p.1∧p.1<(t.2.length:Int)∧0≤p.2∧p.2≤1
theorem KB (p:Int×Int) (v:Int):qv b p.1 v↔qy b p=v∨fin b p=v:=by
 unfold qv qy fin;split
 ·exact Or.comm
 ·exact Iff.rfl
theorem adS {i:Nat} (hi:i<t.2.length) {v:Int} (h:qv t i v):∃ p∈places t v,p.1=(i:Int):=by
 rcases h with h | h
 ·exact ⟨((i:Int),0),Lq.2 ⟨by simp only;omega,by simp only;omega,by simp only;omega,by simp only;omega,h⟩,rfl⟩
 ·exact ⟨((i:Int),1),Lq.2 ⟨by simp only;omega,by simp only;omega,by simp only;omega,by simp only;omega,h⟩,rfl⟩
structure Ib (t:p4) (s:Int) (L:List Nat) (way out:Row) (a h:Int):Prop where
 iq:∀ x∈L,x<2*t.2.length
 sym:∀ i:Nat,2*i∈L↔2*i+1∈L
 ok:∀ p∈way++out,Im t p
 QS:((way++out).map (·.1)).Nodup
 Mf:∀ i:Nat,i<t.2.length→(2*i∈L↔(i:Int) ∉ (way++out).map (·.1))
 go:qE t s way=some a
 back:qE t h out.reverse=some s
 Qm:∀ p∈out,∀ i:Nat,i<t.2.length→2*i∈L→¬ qv t i (fin t p)
theorem Xw {p:Int×Int} (h:Im t p):∃ i:Nat,p.1=(i:Int)∧i<t.2.length∧((p.2=0∧r6 p=2*i∧r6 (p.1,1-p.2)=2*i+1)∨(p.2=1∧r6 p=2*i+1∧r6 (p.1,1-p.2)=2*i)):=by
 obtain ⟨ad,af,aG,a6⟩:=h;refine ⟨p.1.toNat,by omega,by omega,?_⟩;unfold r6;simp only;rcases show p.2=0∨p.2=1 by omega with h | h
 ·left;omega
 ·right;omega
theorem agH {L:List Nat} {p:Int×Int} {x:Nat}:x∈J9 L p↔x∈L∧x≠r6 p∧x≠r6 (p.1,1-p.2):=by
 unfold J9 Iu;simp only [sK,decide_eq_true_eq,and_assoc]
theorem Te {α:Type} (q:α→Bool):∀ (l:List α) (x:α),x∈l→q x=false→(l.filter q).length<l.length
 | [],_,h,_=>by simp at h
 | y::l,x,h,a3=>by
   have hle:=tq q l;rw [tp];rcases sk.1 h with rfl | h
   ·rw [a3];simp only [Bool.false_eq_true,if_false,sI];omega
   ·have a_:=Te q l x h a3;split <;> simp only [sI] <;> omega
theorem adK {L:List Nat} {p:Int×Int} (h:r6 p∈L) (af:r6 (p.1,1-p.2)∈Iu L p):(J9 L p).length+2≤L.length:=by
 have aB:=Te (fun x=>decide (x≠r6 p)) L _ h (by simp);have aH:=Te (fun x=>decide (x≠r6 (p.1,1-p.2))) (Iu L p) _ af (by simp);unfold J9;unfold Iu at aB aH ⊢;omega
theorem Ib.step {s a h:Int} {L:List Nat} {way out:Row} {p:Int×Int} (kl:Ib t s L way out a h) (aC:p∈places t a) (fj:r6 p∈L):Ib t s (J9 L p) (way++[p]) out (fin t p) h∧r6 (p.1,1-p.2)∈Iu L p:=by
 have a3:=Lq.1 aC;have bO:Im t p:=⟨a3.1,a3.2.1,a3.2.2.1,a3.2.2.2.1⟩;obtain ⟨i,hi,ra,al⟩:=Xw bO;have Ss:2*i∈L:=by
  rcases al with al | al
  ·rw [←al.2.1];exact fj
  ·rw [kl.sym,←al.2.1];exact fj
 have ad7:=(kl.sym i).1 Ss;have aZ:∀ x,x∈J9 L p↔x∈L∧x≠2*i∧x≠2*i+1:=fun x=>by
  rw [agH];rcases al with al | al <;> rw [al.2.1,al.2.2] <;> constructor <;> rintro ⟨ad,af,aG⟩ <;> exact ⟨ad,by omega,by omega⟩
 have ae1:=(kl.Mf i ra).1 Ss;have Jn:((way++[p]++out).map (·.1)).Perm (p.1::(way++out).map (·.1)):=by
  rw [←ss];refine List.Perm.map _ ?_;rw [sj];exact List.perm_middle
 refine ⟨⟨fun x al=>kl.iq x ((aZ x).1 al).1,fun j=>?_,fun q a3=>?_,?_,fun j aw=>?_,?_,kl.back,fun q a3 j aw aeK=>kl.Qm q a3 j aw ((aZ _).1 aeK).1⟩,?_⟩
 ·rw [aZ,aZ,kl.sym j];constructor <;> rintro ⟨ad,af,aG⟩ <;> exact ⟨ad,by omega,by omega⟩
 ·rcases sS.1 a3 with a3 | a3
  ·rcases sS.1 a3 with a3 | a3
   ·exact kl.ok q (vg _ a3)
   ·rw [sN.1 a3];exact bO
  ·exact kl.ok q (List.mem_append_right _ a3)
 ·rw [Jn.nodup_iff,ue];exact ⟨by rw [hi];exact ae1,kl.QS⟩
 ·rw [aZ,kl.Mf j aw,Jn.mem_iff,sk,hi];constructor
  ·rintro ⟨ad,af,_⟩ (aG | aG)
   ·omega
   ·exact ad aG
  ·intro ad;refine ⟨fun af=>ad (.inr af),fun e=>ad (.inl (by omega)),by omega⟩
 ·rw [JY,kl.go];exact KS.2 ⟨a3.2.2.2.2,rfl⟩
 ·unfold Iu;rw [sK];rcases al with al | al <;> rw [al.2.1,al.2.2]
  ·exact ⟨ad7,by simp⟩
  ·exact ⟨Ss,by simp⟩
def Qk (t:p4) (L:List Nat):List Int:=(upto t.2.length).filter fun i=>decide (2*i.toNat∈L)
theorem Tj {L:List Nat} {x:Int}:x∈Qk t L↔∃ i:Nat,i<t.2.length∧x=(i:Int)∧2*i∈L:=by
 unfold Qk;rw [sK,rL,decide_eq_true_eq];constructor
 ·rintro ⟨⟨ad,af⟩,aG⟩;exact ⟨x.toNat,by omega,by omega,aG⟩
 ·rintro ⟨i,ad,rfl,aG⟩;exact ⟨⟨by omega,by omega⟩,by simpa using aG⟩
theorem Ib.perm {s a h:Int} {L:List Nat} {way out:Row} (kl:Ib t s L way out a h):(upto t.2.length).Perm (Qk t L++(way++out).map (·.1)):=by
 refine (uy (Ju _) ?_).2 fun x=>?_
 ·rw [ux];refine ⟨(Ju _).filter _,kl.QS,fun x al y a0 e=>?_⟩;subst e;obtain ⟨i,hi,rfl,fj⟩:=Tj.1 al;exact (kl.Mf i hi).1 fj a0
 ·rw [sS,Tj,rL];constructor
  ·rintro ⟨ad,af⟩;obtain ⟨i,rfl⟩:∃ i:Nat,x=(i:Int):=⟨x.toNat,by omega⟩;by_cases hm:(i:Int)∈(way++out).map (·.1)
   ·exact .inr hm
   ·exact .inl ⟨i,by omega,rfl,(kl.Mf i (by omega)).2 hm⟩
  ·rintro (⟨i,hi,rfl,_⟩ | hm)
   ·omega
   ·obtain ⟨p,aC,rfl⟩:=sv.1 hm;have:=kl.ok p aC;exact ⟨this.1,this.2.1⟩
theorem Ib.len {s a h:Int} {L:List Nat} {way out:Row} (kl:Ib t s L way out a h):way.length+out.length≤t.2.length:=by
 have:=kl.perm.length_eq;rw [rF] at this;simp at this;omega
theorem Ib.stuck {s a h:Int} {L:List Nat} {way out:Row} (kl:Ib t s L way out a h) (aA:∀ v,qH t (upto t.2.length) v % 2=0) (ai:∀ i:Nat,i<t.2.length→2*i∈L→¬ qv t i a):h=a:=by
 have aS:qH t (Qk t L) a=0:=LY.2 fun x al=>by
  obtain ⟨i,hi,rfl,fj⟩:=Tj.1 al;exact ai i hi fj
 have ad:=aA a;rw [Le kl.perm,N0,aS,td,N0] at ad;have af:=O' _ _ _ a kl.go;have aG:=O' _ _ _ a kl.back;have a6:qH t (out.reverse.map (·.1)) a=qH t (out.map (·.1)) a:=Le ((vO out).map _) a;rw [a6] at aG;rw [if_pos rfl] at af;by_cases e:h=a
 ·exact e
 ·rw [if_neg e] at aG;omega
theorem Ib.pop {s a:Int} {L:List Nat} {way out:Row} {p:Int×Int} (kl:Ib t s L (way++[p]) out a a) (ai:∀ i:Nat,i<t.2.length→2*i∈L→¬ qv t i a):Ib t s L way (out++[p]) (qy t p) (qy t p):=by
 have Jn:(way++(out++[p])).Perm (way++[p]++out):=by
  rw [sj];exact List.Perm.append_left way wA
 have I0:=kl.go;rw [JY] at I0;obtain ⟨c,ad,af⟩:=qd I0;obtain ⟨aG,a6⟩:=KS.1 af;refine ⟨kl.iq,kl.sym,fun q a3=>kl.ok q (Jn.mem_iff.1 a3),(Jn.map _).nodup_iff.2 kl.QS,fun i hi=>?_,by rw [aG];exact ad,?_,fun q a3 i hi fj=>?_⟩
 ·rw [kl.Mf i hi,(Jn.map (·.1)).mem_iff]
 ·rw [List.reverse_append];exact Jr.2 ⟨rfl,by rw [a6];exact kl.back⟩
 ·rcases sS.1 a3 with a3 | a3
  ·exact kl.Qm q a3 i hi fj
  ·rw [sN.1 a3,a6];exact ai i hi fj
theorem Th (aA:∀ v,qH t (upto t.2.length) v % 2=0) (aN:t.2.length≤1000) {s:Int}:∀ (m:Nat) (L:List Nat) (way out:Row) (a h:Int),Ib t s L way out a h→L.length+way.length<m →
  ∃ im GN,KN t m L way out a=some GN∧Ib t s im [] GN s s∧∀ i:Nat,i<t.2.length→2*i∈im→¬ qv t i s
 | 0,_,_,_,_,_,_,hm=>absurd hm (by omega)
 | m+1,L,way,out,a,h,kl,hm=>by
   have hlen:=kl.len;rw [KN,qc ⟨by omega,by omega⟩];cases aQ:(places t a).find? (M_ L) with
   | some p =>
     have aC:=vM aQ;(have fj:r6 p∈L:=by simpa [M_] using List.find?_some aQ);obtain ⟨ad,af⟩:=kl.step aC fj;have aG:=adK fj af;show ∃ im GN,p8 (r6 (p.1,1-p.2)∈Iu L p) _=some GN∧_;rw [qc af];exact Th aA aN m _ _ _ _ _ ad (by simp only [su,tL];omega)
   | none =>
     have ai:∀ i:Nat,i<t.2.length→2*i∈L→¬ qv t i a:=fun i hi fj kq=>by
      obtain ⟨p,aC,e⟩:=adS hi kq;have a3:=Lq.1 aC;obtain ⟨j,aw,_,al⟩:=Xw (t:=t) (p:=p) ⟨a3.1,a3.2.1,a3.2.2.1,a3.2.2.2.1⟩;(have gW:i=j:=by omega);subst gW;have fV:=vL.1 aQ p aC;refine fV ?_;simp only [M_,decide_eq_true_eq];rcases al with al | al
      ·rw [al.2.1];exact fj
      ·rw [al.2.1];exact (kl.sym i).1 fj
     have aek:=kl.stuck aA ai;subst aek;rcases YP way with rfl | ⟨IB,p,rfl⟩
     ·show ∃ im GN,some out=some GN∧_;(have e:s=h:=by simpa [qE] using kl.go);subst e;exact ⟨L,out,rfl,kl,ai⟩
     ·rw [List.getLast?_concat];have bO:=kl.ok p (by simp);show ∃ im GN,p8 (0≤p.1∧p.1<(t.2.length:Int)) (KN t m L (IB++[p]).dropLast (out++[p]) (qy t p))=some GN∧_;rw [qc ⟨bO.1,bO.2.1⟩,List.dropLast_concat];exact Th aA aN m _ _ _ _ _ (kl.pop ai) (by simp only [su,tL] at hm;omega)
structure Full (t:p4) (l:Row):Prop where
 ok:∀ p∈l,Im t p
 r5:(l.map (·.1)).Nodup
 all:∀ i:Nat,i<t.2.length→(i:Int)∈l.map (·.1)
theorem Ib.all {s:Int} {L:List Nat} {out:Row} (kl:Ib t s L [] out s s) (ai:∀ i:Nat,i<t.2.length→2*i∈L→¬ qv t i s) (ao:∀ i:Nat,i<t.2.length→∃ v,qv t i v∧qG t (upto t.2.length) s v):∀ i:Nat,i<t.2.length→(i:Int)∈out.map (·.1):=by
 have aeu:∀ (l:Row) (a c:Int),qE t a l=some c→∀ p∈l,qy t p=a∨∃ q∈l,fin t q=qy t p:=by
  intro l
  induction l with
  | nil=>intro a c _ p aC;simp at aC
  | cons q l a_ =>
    intro a c h p aC;obtain ⟨ad,af⟩:=Jr.1 h;rcases sk.1 aC with rfl | aC
    ·exact .inl ad
    ·rcases a_ _ c af p aC with aG | ⟨fM,CV,aG⟩
     ·exact .inr ⟨q,by simp,aG.symm⟩
     ·exact .inr ⟨fM,by simp [CV],aG⟩
 have key:∀ v,qG t (upto t.2.length) s v→∀ i:Nat,i<t.2.length→2*i∈L→¬ qv t i v:=fun v ae=>by
  induction ae with
  | refl=>exact ai
  | step j _ aw aB aH a_ =>
    rename_i g F8;have ee:=rL.1 aw;obtain ⟨k,rfl⟩:∃ k:Nat,j=(k:Int):=⟨j.toNat,by omega⟩;(have av:k<t.2.length:=by omega);have lX:2*k ∉ L:=fun h=>a_ k av h aB;have hm:(k:Int)∈out.map (·.1):=Classical.byContradiction fun aN=>lX ((kl.Mf k av).2 (by simpa using aN));obtain ⟨p,aC,e⟩:=sv.1 hm;rw [←e] at aH;rcases (KB p _).1 aH with h | h
    ·rcases aeu _ _ _ kl.back p (wB.2 aC) with aX | ⟨q,a3,aX⟩
     ·rw [←h,aX];exact ai
     ·intro i hi fj;rw [←h,←aX];exact kl.Qm q (wB.1 a3) i hi fj
    ·intro i hi fj;rw [←h];exact kl.Qm p aC i hi fj
 intro i hi;refine Classical.byContradiction fun aN=>?_;obtain ⟨v,ad,af⟩:=ao i hi;exact key v af i hi ((kl.Mf i hi).2 (by simpa using aN)) ad
theorem aj2 (aA:∀ v,qH t (upto t.2.length) v % 2=0) (aN:t.2.length≤1000) (aS:0<t.2.length) (ao:∀ i:Nat,i<t.2.length→∃ v,qv t i v∧qG t (upto t.2.length) (ix t.2 0).1 v) :
  ∃ l,Mi t=some l∧Full t l∧qE t (ix t.2 0).1 l=some (ix t.2 0).1:=by
 have kl:Ib t (ix t.2 0).1 (List.range (2*t.2.length)) [] [] (ix t.2 0).1 (ix t.2 0).1:=by
  refine ⟨fun x al=>sJ.1 al,fun i=>?_,fun p aC=>absurd aC (by simp),by simp,fun i hi=>?_,rfl,rfl,fun p aC=>absurd aC (by simp)⟩
  ·rw [sJ,sJ];omega
  ·rw [sJ];simp;omega
 obtain ⟨L,out,ad,af,aG⟩:=Th aA aN p_ _ _ _ _ _ kl (rn (by simp;omega));have c_:=af.all aG ao;have hlen:=af.len;have bM:out.length≠0:=fun e=>by
  have:=c_ 0 aS;rw [tf.1 e] at this;simp at this
 refine ⟨out.reverse,?_,⟨fun p aC=>af.ok p (by simpa using aC),?_,fun i hi=>?_⟩,af.back⟩
 ·rw [Mi,qc ⟨aS,aN⟩,ad,sb,qc ⟨bM,by omega⟩]
 ·exact ((vO out).map _).nodup_iff.2 (by simpa using af.QS)
 ·exact ((vO out).map (·.1)).mem_iff.2 (c_ i hi)
end
end Go.Proofs.YtfakoboiahbhaaaGreat.Ab


namespace Go.Proofs.YtfakoboiahbhaaaGreat.Ab
open Go
set_option maxRecDepth 20000
set_option maxHeartbeats 4000000
noncomputable def RB:ez :=
 .loop (some (Ez false [0,1,4,1,5,3,52])) (Gz [gM 14 [.sl 13,.sl 12] (.bin .lss)] (.seq (.cond (.sl 14) .skip (.exit 0)) (.seq (.block 1 (Gz [gM 15 [.sl 11,.sl 13] (.pM 1),Gl 16 15,Gp 7 16] (Gz [Gn 17 0,gM 18 [.hJ 17] .zB,F6 19 18 0,F6 20 19 1,Gl 21 20,Gn 22 7,Gh 23 21 22 2,F6 24 23 0,Gl 25 24,gM 26 [.sl 5,.sl 25] (.y3 6 1),Gl 27 26,FZ 28 27 1,gM 29 [.sl 5,.hJ 25] (.y3 6 1),⟨none,[.hG 29,.hG 28],none,none,.st 1⟩] (Gs [Gn 30 0,gM 31 [.hJ 30] .zB,F6 32 31 0,F6 33 32 1,Gl 34 33,Gp 35 7,Gh 36 34 35 2,F6 37 36 1,Gl 38 37,gM 39 [.sl 5,.sl 38] (.y3 6 1),Gl 40 39,FZ 41 40 1,gM 42 [.sl 5,.hJ 38] (.y3 6 1),⟨none,[.hG 42,.hG 41],none,none,.st 1⟩])))) (Gs [FZ 43 13 1,Gp 13 43]))))
noncomputable def RC:ez :=
 .loop (some (Ez false [8, 1, 38, 2, 17])) (Gz [gM 49 [.sl 48, .iA (.int .i64 6)] (.bin .lss)] (.seq (.cond (.sl 49) .skip (.exit 2)) (.seq (.block 3 (Gz [Gn 50 48, gM 51 [.sl 47, .sl 48] (.other (Oper.mk (some 51) (Op.index 101 (Operand.tmp 47) (Operand.tmp 48)) 3 "table.go:64" (Array.mk []) none) 0), Gp 9 50, Gp 10 51] (Gz [Gp 52 10, F0 53 52 2 .rem, F0 54 53 1 .eql] (.cond (.sl 54) (Gs [Gn 55 8, Gn 56 8, Gk 57 56, Gp 58 8, Gk 59 58, gM 60 [.hG 55, .hG 57, .hG 59] (.AX 1 false true true), Gp 61 9, gM 62 [.hJ 61] (.x' 1 1 [.int .i64 0] [0]), gM 63 [.hG 60, .hG 62] (.app 1 8), Gp 8 63]) .skip)))) (Gs [FZ 64 48 1, Gp 48 64]))))
noncomputable def abz:ez :=
 Gz [gM 4 [.iA (.ay [] 0 .full)] (.nil 1)] (Gz [gM 5 [] (.alloc [.int .i64 0, .int .i64 0, .int .i64 0, .int .i64 0, .int .i64 0, .int .i64 0])] (.seq (Gz [Gp 11 1, gM 12 [.sl 11] .pV, Gm 13 0] (.block 0 RB)) (.seq (Gz [gM 44 [.sl 5] (.pT (.arr 6)), gM 45 [] (.build [.int .i64 0, .int .i64 0, .int .i64 0, .int .i64 0, .int .i64 0, .int .i64 0] []), gM 46 [.hJ 44, .hJ 45] (.other (Oper.mk (some 46) (Op.binOp .eql 101 (Operand.tmp 44) (Operand.tmp 45) 101) 4 "table.go:60" (Array.mk [Edge.mk 0 Ground.data, Edge.mk 1 Ground.data]) none) 0)] (.cond (.sl 46) (Gz [gM 4 [.iA (.ay [] 0 .full)] (.nil 1)] .ret) .skip)) (Gz [gM 8 [.iA (.ay [] 0 .full)] (.nil 1)] (.seq (Gz [gM 47 [.hJ 5] (.pT (.arr 6)), Gm 48 0] (.block 2 RC)) (Gz [Gp 65 8, Gp 4 65] .ret))))))
theorem agt:zf Tryz.prog PQ 76=some (abz,66,[.tmp 4]):=by kernel_rfl
def MA (t:qa) (p':p5) (p9:p5→Option p5):Nat→Int→p5→Option p5
 | 0,_,_=>none
 | m+1,s1,s2 =>
   if (decide (s1<(p'.length:Int)))=true then
    p8 (0≤s1∧s1<(p'.length:Int)) <|
    p8 (0≤(ix p' s1)∧(ix p' s1)<(t.2.length:Int)) <|
    p8 (0≤(ix t.2 (ix p' s1)).1∧(ix t.2 (ix p' s1)).1<(6:Int)∧6=s2.length) <|
    p8 (0≤(ix t.2 (ix p' s1)).1∧(ix t.2 (ix p' s1)).1<(6:Int)∧6=s2.length) <|
    p8 (0≤(ix p' s1)∧(ix p' s1)<(t.2.length:Int)) <|
    p8 (0≤(ix t.2 (ix p' s1)).2∧(ix t.2 (ix p' s1)).2<(6:Int)∧6=(s2.set ((ix t.2 (ix p' s1)).1).toNat (w ((ix s2 ((ix t.2 (ix p' s1)).1))+(1:Int)))).length) <|
    p8 (0≤(ix t.2 (ix p' s1)).2∧(ix t.2 (ix p' s1)).2<(6:Int)∧6=(s2.set ((ix t.2 (ix p' s1)).1).toNat (w ((ix s2 ((ix t.2 (ix p' s1)).1))+(1:Int)))).length) <|
    MA t p' p9 m (w (s1+(1:Int))) ((s2.set ((ix t.2 (ix p' s1)).1).toNat (w ((ix s2 ((ix t.2 (ix p' s1)).1))+(1:Int)))).set ((ix t.2 (ix p' s1)).2).toNat (w ((ix (s2.set ((ix t.2 (ix p' s1)).1).toNat (w ((ix s2 ((ix t.2 (ix p' s1)).1))+(1:Int)))) ((ix t.2 (ix p' s1)).2))+(1:Int))))
   else
    p9 s2
def K4 (xZ:p5) (qB:p5→Option p5):Nat→p5→Int→Option p5
 | 0,_,_=>none
 | m+1,s3,Gy =>
   if (decide (Gy<(6:Int)))=true then
    p8 (0≤Gy∧Gy<(6:Int)∧xZ.length=6) <|
    p8 ((2:Int)≠0) <|
    if (decide (((ix xZ Gy).tmod (2:Int))=(1:Int)))=true then
     p8 ((s3.length:Int)=(s3.length:Int)∧0≤(s3.length:Int)∧(s3.length:Int)≤(s3.length:Int)) <|
     p8 (((s3.take (s3.length:Int).toNat).length+1)*8≤140737488355328) <|
     K4 xZ qB m ((s3.take (s3.length:Int).toNat)++[Gy]) (w (Gy+(1:Int)))
    else
     K4 xZ qB m s3 (w (Gy+(1:Int)))
   else
    qB s3
def Mz (t:qa) (p':p5):Option p5 :=
 MA t p' (fun xZ =>
   p8 (xZ.length=6) <|
   p8 (xZ.length=6) <|
   if (decide (xZ=[(0:Int),(0:Int),(0:Int),(0:Int),(0:Int),(0:Int)]))=true then
    some []
   else
    p8 (xZ.length=6) <|
    K4 xZ (fun oi =>
      some oi) p_ ([]:List Int) (0:Int)) p_ (0:Int) (List.replicate 6 (0:Int))
theorem ak7 {t:qa} {p':p5} {p9:p5→Option p5} {s1:Int} {s2:p5} {v:p5} {Q:q'}   (q8:∀ (xZ:p5) (p6:List I),p9 xZ=some v→qU 66 [(5,(.ptr 0 0))] p6→Q (.exit 0) p6 [au.cells (xZ.map hP)]) {T:List I} (bX:eR (Ez false [0,1,4,1,5,3,52]) T=GG 66 [(0,(.bU [(hP t.1),(p3 t.2 .shared)])),(5,(.ptr 0 0)),(11,(qe p' .shared)),(12,(hP (p'.length:Int))),(13,(hP s1))]) (h:MA t p' p9 p_ s1 s2=some v) :
  dC Tryz.prog PQ 76 0 none RB T [au.cells (s2.map hP)] Q:=by
 unfold RB;refine wp_loop bX ?_;refine .intro (fun m T H=>∃ (s1:Int) (s2:p5),T=GG 66 [(0,(.bU [(hP t.1),(p3 t.2 .shared)])),(5,(.ptr 0 0)),(11,(qe p' .shared)),(12,(hP (p'.length:Int))),(13,(hP s1))]∧H=[au.cells (s2.map hP)]∧MA t p' p9 m s1 s2=some v) p_ ⟨s1,s2,rfl,rfl,h⟩ ?_;clear h bX;rintro m T H ⟨s1,s2,rfl,rfl,h⟩;cases m
 ·exact q7 h
 rename_i m;rw [MA.eq_2] at h;conv=>whnf
 refine bs h (fun eU h=>?_) fun eU h=>?_
 ·rw [eU];conv=>whnf
  refine qk h id fun fk h=>?_;rw [rT hP p' s1 fk];conv=>whnf
  refine qk h id fun qf h=>?_;rw [qW p1 2 qw t.2 (ix p' s1) qf];conv=>whnf
  obtain ⟨qo,h⟩:=qn h;refine ⟨⟨qo.1,qo.2.1⟩,?_⟩;replace qo:0≤(ix t.2 (ix p' s1)).1∧(ix t.2 (ix p' s1)).1<(s2.length:Int):=⟨qo.1,by have:=qo.2;omega⟩;conv=>whnf
  refine IL hP s2 ((ix t.2 (ix p' s1)).1) qo ?_;conv=>whnf
  obtain ⟨qD,h⟩:=qn h;refine ⟨⟨qD.1,qD.2.1⟩,?_⟩;replace qD:0≤(ix t.2 (ix p' s1)).1∧(ix t.2 (ix p' s1)).1<(s2.length:Int):=⟨qD.1,by have:=qD.2;omega⟩;conv=>whnf
  refine Kq hP s2 ((ix t.2 (ix p' s1)).1) (w ((ix s2 ((ix t.2 (ix p' s1)).1))+(1:Int))) qD ?_;conv=>whnf
  refine qk h id fun rr h=>?_;rw [qW p1 2 qw t.2 (ix p' s1) rr];conv=>whnf
  obtain ⟨qN,h⟩:=qn h;refine ⟨⟨qN.1,qN.2.1⟩,?_⟩;replace qN:0≤(ix t.2 (ix p' s1)).2∧(ix t.2 (ix p' s1)).2<((s2.set ((ix t.2 (ix p' s1)).1).toNat (w ((ix s2 ((ix t.2 (ix p' s1)).1))+(1:Int)))).length:Int):=⟨qN.1,by have:=qN.2;omega⟩;conv=>whnf
  refine IL hP (s2.set ((ix t.2 (ix p' s1)).1).toNat (w ((ix s2 ((ix t.2 (ix p' s1)).1))+(1:Int)))) ((ix t.2 (ix p' s1)).2) qN ?_;conv=>whnf
  obtain ⟨qQ,h⟩:=qn h;refine ⟨⟨qQ.1,qQ.2.1⟩,?_⟩;replace qQ:0≤(ix t.2 (ix p' s1)).2∧(ix t.2 (ix p' s1)).2<((s2.set ((ix t.2 (ix p' s1)).1).toNat (w ((ix s2 ((ix t.2 (ix p' s1)).1))+(1:Int)))).length:Int):=⟨qQ.1,by have:=qQ.2;omega⟩;conv=>whnf
  refine Kq hP (s2.set ((ix t.2 (ix p' s1)).1).toNat (w ((ix s2 ((ix t.2 (ix p' s1)).1))+(1:Int)))) ((ix t.2 (ix p' s1)).2) (w ((ix (s2.set ((ix t.2 (ix p' s1)).1).toNat (w ((ix s2 ((ix t.2 (ix p' s1)).1))+(1:Int)))) ((ix t.2 (ix p' s1)).2))+(1:Int))) qQ ?_;conv=>whnf
  exact ⟨m,sm m,(w (s1+(1:Int))),((s2.set ((ix t.2 (ix p' s1)).1).toNat (w ((ix s2 ((ix t.2 (ix p' s1)).1))+(1:Int)))).set ((ix t.2 (ix p' s1)).2).toNat (w ((ix (s2.set ((ix t.2 (ix p' s1)).1).toNat (w ((ix s2 ((ix t.2 (ix p' s1)).1))+(1:Int)))) ((ix t.2 (ix p' s1)).2))+(1:Int)))),rfl,rfl,h⟩
 ·rw [eU];conv=>whnf
  exact q8 _ _ h ⟨rfl,rfl⟩
theorem ak8 {xZ:p5} {qB:p5→Option p5} {s3:p5} {Gy:Int} {v:p5} {Q:q'} {bA:au}  (IK:∀ (oi:p5) (p6:List I),qB oi=some v→qU 66 [(8,(qe oi (.uniq 1)))] p6→Q (.exit 2) p6 [bA]) {T:List I} (bX:eR (Ez false [8,1,38,2,17]) T=GG 66 [(8,(qe s3 (.uniq 1))),(47,(.agg ((xZ.map hP)))),(48,(hP Gy))]) (h:K4 xZ qB p_ s3 Gy=some v) :
  dC Tryz.prog PQ 76 0 none RC T [bA] Q:=by
 unfold RC;refine wp_loop bX ?_;refine .intro (fun m T H=>∃ (s3:p5) (Gy:Int),T=GG 66 [(8,(qe s3 (.uniq 1))),(47,(.agg ((xZ.map hP)))),(48,(hP Gy))]∧H=[bA]∧K4 xZ qB m s3 Gy=some v) p_ ⟨s3,Gy,rfl,rfl,h⟩ ?_;clear h bX;rintro m T H ⟨s3,Gy,rfl,rfl,h⟩;cases m
 ·exact q7 h
 rename_i m;rw [K4.eq_2] at h;conv=>whnf
 refine bs h (fun rA h=>?_) fun rA h=>?_
 ·rw [rA];conv=>whnf
  obtain ⟨rW,h⟩:=qn h;refine ⟨_,_,fun C=>agY rfl (abQ (e:=3) (len:=6) (kd:=.i64) (by kernel_rfl) (by kernel_rfl) (by kernel_rfl) (by kernel_rfl) rW.2.2 ⟨rW.1,rW.2.1⟩),?_⟩;conv=>whnf
  refine qk h id fun rH h=>?_;conv=>whnf
  refine bs h (fun q9 h=>?_) fun q9 h=>?_
  ·rw [q9];(conv=>whnf);refine qk h id fun GM h=>?_;erw [aiG hP s3 (s3.length:Int) GM.2];(conv=>whnf);obtain ⟨ru,h⟩:=qn h;refine ⟨by first | rfl | simp,by have:=ru;omega,by decide,ru,by first | rfl | simp,?_⟩
   erw [Lb hP (s3.take (s3.length:Int).toNat) Gy];(conv=>whnf);exact ⟨m,sm m,((s3.take (s3.length:Int).toNat)++[Gy]),(w (Gy+(1:Int))),rfl,rfl,h⟩
  ·rw [q9];(conv=>whnf);exact ⟨m,sm m,s3,(w (Gy+(1:Int))),rfl,rfl,h⟩
 ·rw [rA];conv=>whnf
  exact IK _ _ h ⟨rfl,rfl⟩
theorem U4 {t:qa} {p':p5} {v:p5} (h:Mz t p'=some v):ql 76 [(.bU [(hP t.1),(.ay (t.2.flatMap p1) t.2.length .shared)]),(.ay (p'.map hP) p'.length .shared)] (.ay (v.map hP) v.length .shared):=by
 refine qM dI agt rfl (rp (fun _=>rfl) _ _ _) fun Q bl=>?_;have jw:qu [.tmp 4] Q (fun v=>(qe v .shared)) v:=fun T H bI=>bl _ T H bI;unfold Mz at h;unfold abz;obtain ⟨Ho,qz⟩:∃ c,RB=c:=⟨_,rfl⟩;rw [qz];obtain ⟨J8,rm⟩:∃ c,RC=c:=⟨_,rfl⟩;rw [rm];conv=>whnf
 subst qz;refine ak7 ?_ (by exact rfl) h;intro xZ p6 h qh;obtain ⟨qS,rfl⟩:=qh.ex;conv=>whnf
 obtain ⟨q5,h⟩:=qn h;refine ⟨by simp [q5],?_⟩;rw [Td hP xZ (fun _=>rfl) q5];conv=>whnf
 obtain ⟨qV,h⟩:=qn h;refine ⟨_,_,fun C=>agX rfl rfl (abP .i64 (e:=3) (len:=6) (kd:=.i64) (xs:=xZ) (ys:=[(0:Int),(0:Int),(0:Int),(0:Int),(0:Int),(0:Int)]) (by kernel_rfl) (by kernel_rfl) (by kernel_rfl) (by kernel_rfl) qV rfl),?_⟩;conv=>whnf
 refine bs h (fun rK h=>?_) fun rK h=>?_
 ·rw [rK];conv=>whnf
  exact p7 h jw rfl rfl
 ·rw [rK];conv=>whnf
  obtain ⟨rj,h⟩:=qn h;refine ⟨by simp [rj],?_⟩;rw [Td hP xZ (fun _=>rfl) rj];conv=>whnf
  subst rm;refine ak8 ?_ (by exact rfl) h;intro oi p6 h qh;obtain ⟨qS,rfl⟩:=qh.ex;conv=>whnf
  exact p7 h jw rfl rfl

noncomputable def Rz:ez :=
 .loop (some (Ez false [1,1,1,2,33])) (.seq (Gz [Gn 8 4,gM 9 [.sl 1] (.oP 1),Gl 10 9,Gk 11 10,F1 12 8 11 .lss] (.cond (.sl 12) .skip (.exit 0))) (.seq (.block 1 (Gz [Gn 15 3,gM 16 [.sl 1] (.oP 1),Gl 17 16,Gn 18 4,Gh 19 17 18 2,F6 20 19 0,Gl 21 20,gM 22 [.sl 15,.sl 21] (.pM 1),Gl 23 22,FZ 24 23 1,Gh 25 15 21 1,⟨none,[.hG 25,.hG 24],none,none,.st 1⟩] (Gs [Gn 26 3,gM 27 [.sl 1] (.oP 1),Gl 28 27,Gn 29 4,Gh 30 28 29 2,F6 31 30 1,Gl 32 31,gM 33 [.sl 26,.sl 32] (.pM 1),Gl 34 33,FZ 35 34 1,Gh 36 26 32 1,⟨none,[.hG 36,.hG 35],none,none,.st 1⟩]))) (Gs [Gp 13 4,FZ 14 13 1,Gp 4 14])))
noncomputable def abn:ez :=
 Gz [gM 1 [.hG 0] .box,gM 2 [.iA (.ay [] 0 .full)] (.nil 1)] (Gz [gM 5 [.sl 1] (.oP 0),Gl 6 5,gM 7 [.sl 6,.hJ 6] (.zy [.int .i64 0] 1 8),Gp 3 7] (.seq (Gz [Gm 4 0] (.block 0 Rz)) (Gz [Gp 37 3,Gp 2 37] .ret)))
theorem agi:zf Tryz.prog R2 55=some (abn,38,[.tmp 2]):=by kernel_rfl
def Mx (b:qa) (p9:p5→Option p5):Nat→Int→p5→Option p5
 | 0,_,_=>none
 | m+1,s1,s2 =>
   if (decide (s1<(b.2.length:Int)))=true then
    p8 (0≤s1∧s1<(b.2.length:Int)) <|
    p8 (0≤(ix b.2 s1).1∧(ix b.2 s1).1<((b.1.toNat:Nat):Int)∧b.1.toNat=s2.length) <|
    p8 (0≤(ix b.2 s1).1∧(ix b.2 s1).1<((b.1.toNat:Nat):Int)∧b.1.toNat=s2.length) <|
    p8 (0≤s1∧s1<(b.2.length:Int)) <|
    p8 (0≤(ix b.2 s1).2∧(ix b.2 s1).2<((b.1.toNat:Nat):Int)∧b.1.toNat=(s2.set ((ix b.2 s1).1).toNat (w ((ix s2 ((ix b.2 s1).1))+(1:Int)))).length) <|
    p8 (0≤(ix b.2 s1).2∧(ix b.2 s1).2<((b.1.toNat:Nat):Int)∧b.1.toNat=(s2.set ((ix b.2 s1).1).toNat (w ((ix s2 ((ix b.2 s1).1))+(1:Int)))).length) <|
    Mx b p9 m (w (s1+(1:Int))) ((s2.set ((ix b.2 s1).1).toNat (w ((ix s2 ((ix b.2 s1).1))+(1:Int)))).set ((ix b.2 s1).2).toNat (w ((ix (s2.set ((ix b.2 s1).1).toNat (w ((ix s2 ((ix b.2 s1).1))+(1:Int)))) ((ix b.2 s1).2))+(1:Int))))
   else
    p9 s2
def Pr (b:qa):Option p5 :=
 p8 (0≤b.1∧b.1≤b.1∧b.1.toNat*8≤140737488355328) <|
 Mx b (fun xZ =>
   p8 (b.1.toNat=xZ.length) <|
   some xZ) p_ (0:Int) (List.replicate b.1.toNat (0:Int))
theorem akX {b:qa} {p9:p5→Option p5} {s1:Int} {s2:p5} {v:p5} {Q:q'}   (q8:∀ (xZ:p5) (bA:au) (p6:List I),p9 xZ=some v→qU 38 [(3,(.ref 1 0 b.1.toNat (some b.1.toNat) 1))] p6→Q (.exit 0) p6 [bA,au.cells (xZ.map hP)]) {T:List I} (bX:eR (Ez false [1,1,1,2,33]) T=GG 38 [(1,(.ptr 0 0)),(3,(.ref 1 0 b.1.toNat (some b.1.toNat) 1)),(4,(hP s1))]) (h:Mx b p9 p_ s1 s2=some v) :
  dC Tryz.prog R2 55 0 none Rz T [Hv b,au.cells (s2.map hP)] Q:=by
 unfold Rz;refine wp_loop bX ?_;refine .intro (fun m T H=>∃ (s1:Int) (s2:p5),T=GG 38 [(1,(.ptr 0 0)),(3,(.ref 1 0 b.1.toNat (some b.1.toNat) 1)),(4,(hP s1))]∧H=[Hv b,au.cells (s2.map hP)]∧Mx b p9 m s1 s2=some v) p_ ⟨s1,s2,rfl,rfl,h⟩ ?_;clear h bX;rintro m T H ⟨s1,s2,rfl,rfl,h⟩;cases m
 ·exact q7 h
 rename_i m;rw [Mx.eq_2] at h;conv=>whnf
 refine bs h (fun fk h=>?_) fun fk h=>?_
 ·rw [fk];conv=>whnf
  refine qk h id fun qf h=>?_;rw [qW p1 2 qw b.2 s1 qf];conv=>whnf
  obtain ⟨qo,h⟩:=qn h;refine ⟨⟨qo.1,qo.2.1⟩,?_⟩;replace qo:0≤(ix b.2 s1).1∧(ix b.2 s1).1<(s2.length:Int):=⟨qo.1,by have:=qo.2;omega⟩;conv=>whnf
  refine IL hP s2 ((ix b.2 s1).1) qo ?_;conv=>whnf
  obtain ⟨qD,h⟩:=qn h;refine ⟨⟨qD.1,qD.2.1⟩,?_⟩;replace qD:0≤(ix b.2 s1).1∧(ix b.2 s1).1<(s2.length:Int):=⟨qD.1,by have:=qD.2;omega⟩;conv=>whnf
  refine Kq hP s2 ((ix b.2 s1).1) (w ((ix s2 ((ix b.2 s1).1))+(1:Int))) qD ?_;conv=>whnf
  refine qk h id fun rr h=>?_;rw [qW p1 2 qw b.2 s1 rr];conv=>whnf
  obtain ⟨qN,h⟩:=qn h;refine ⟨⟨qN.1,qN.2.1⟩,?_⟩;replace qN:0≤(ix b.2 s1).2∧(ix b.2 s1).2<((s2.set ((ix b.2 s1).1).toNat (w ((ix s2 ((ix b.2 s1).1))+(1:Int)))).length:Int):=⟨qN.1,by have:=qN.2;omega⟩;conv=>whnf
  refine IL hP (s2.set ((ix b.2 s1).1).toNat (w ((ix s2 ((ix b.2 s1).1))+(1:Int)))) ((ix b.2 s1).2) qN ?_;conv=>whnf
  obtain ⟨qQ,h⟩:=qn h;refine ⟨⟨qQ.1,qQ.2.1⟩,?_⟩;replace qQ:0≤(ix b.2 s1).2∧(ix b.2 s1).2<((s2.set ((ix b.2 s1).1).toNat (w ((ix s2 ((ix b.2 s1).1))+(1:Int)))).length:Int):=⟨qQ.1,by have:=qQ.2;omega⟩;conv=>whnf
  refine Kq hP (s2.set ((ix b.2 s1).1).toNat (w ((ix s2 ((ix b.2 s1).1))+(1:Int)))) ((ix b.2 s1).2) (w ((ix (s2.set ((ix b.2 s1).1).toNat (w ((ix s2 ((ix b.2 s1).1))+(1:Int)))) ((ix b.2 s1).2))+(1:Int))) qQ ?_;conv=>whnf
  exact ⟨m,sm m,(w (s1+(1:Int))),((s2.set ((ix b.2 s1).1).toNat (w ((ix s2 ((ix b.2 s1).1))+(1:Int)))).set ((ix b.2 s1).2).toNat (w ((ix (s2.set ((ix b.2 s1).1).toNat (w ((ix s2 ((ix b.2 s1).1))+(1:Int)))) ((ix b.2 s1).2))+(1:Int)))),rfl,rfl,h⟩
 ·rw [fk];conv=>whnf
  exact q8 _ _ _ h ⟨rfl,rfl⟩
theorem aat {b:qa} {v:p5} (h:Pr b=some v):ql 55 [(.agg [(hP b.1),(.ay (b.2.flatMap p1) b.2.length .shared)])] (.ay (v.map hP) v.length .shared):=by
 refine qM dI agi rfl (rp (fun _=>rfl) _ _ _) fun Q bl=>?_;have jw:qu [.tmp 2] Q (fun v=>(qe v .shared)) v:=fun T H bI=>bl _ T H bI;unfold Pr at h;unfold abn;obtain ⟨Ho,qz⟩:∃ c,Rz=c:=⟨_,rfl⟩;rw [qz];conv=>whnf
 obtain ⟨eU,h⟩:=qn h;refine ⟨eU.1,eU.2.1,eU.2.2,?_⟩;rw [Uy hP (0:Int)];conv=>whnf
 subst qz;refine akX ?_ (by exact rfl) h;intro xZ bA p6 h qh;obtain ⟨qS,rfl⟩:=qh.ex;conv=>whnf
 obtain ⟨q5,h⟩:=qn h;obtain rfl:=Option.some.inj h;exact jw _ _ ⟨.inr rfl,_,rfl,_,(ad3 (f:=hP) (l:=xZ) (by first | exact qi.h | rfl | (simp [sc,I.settle];done)) q5 (fun _=>rfl) (fun _=>rfl)),by rw [ajV,q5]⟩

end Go.Proofs.YtfakoboiahbhaaaGreat.Ab


namespace Go.Proofs.YtfakoboiahbhaaaGreat.Ab
open Go
theorem Zz (n:Nat):(upto n).Pairwise (·<·):=by
 unfold upto;exact uD.2 (List.pairwise_lt_range.imp fun h=>Int.ofNat_lt.2 h)
section
variable {b t:p4}
def q2 (b:p4) (S:List Int):List Int:=(upto 6).filter fun f=>decide (qH b S f % 2=1)
theorem Lp {S:List Int} {f:Int}:f∈q2 b S↔(0≤f∧f<6)∧qH b S f % 2=1:=by
 unfold q2;rw [sK,rL,decide_eq_true_eq];rfl
theorem Qo (S:List Int):(q2 b S).Pairwise (·<·):=(Zz 6).filter _
theorem agN {S S':List Int} (h:S.Perm S'):q2 b S=q2 b S':=by
 unfold q2;simp only [Le h]
theorem adG (e:Int×Int) (v:Int):Ie e v≤2:=by unfold Ie;split <;> split <;> omega
theorem Wx (S:List Int) (v:Int):qH b S v≤2*S.length:=by
 induction S with
 | nil=>simp [LX]
 | cons i S a_=>rw [MS,sI];have:=adG (ix b.2 i) v;omega
def LV (S:List Int) (x:Int):List Int:=S.set x.toNat (w (ix S x+1))
theorem PS (S:List Int) (x:Int):(LV S x).length=S.length:=by simp [LV]
theorem Xz {S:List Int} {x f:Int} (al:0≤x∧x<(S.length:Int)) (aQ:0≤f∧f<(S.length:Int)) (ai:0≤ix S x∧ix S x≤100000):ix (LV S x) f=ix S f+if x=f then 1 else 0:=by
 obtain ⟨a,rfl⟩:∃ a:Nat,x=(a:Int):=⟨x.toNat,by omega⟩;obtain ⟨c,rfl⟩:∃ c:Nat,f=(c:Int):=⟨f.toNat,by omega⟩;unfold LV;rw [I8 (by omega),tB];by_cases h:a=c
 ·subst h;rw [Mc (by omega),if_pos rfl]
 ·rw [KK (Ne.symm h),if_neg (by omega),Int.add_zero]
structure Ja (b:p4) (n:Nat) (Hw S:List Int):Prop where
 len:S.length=n
 val:∀ f:Int,0≤f→f<(n:Int)→ix S f=(qH b Hw f:Int)
theorem Ja.step {n:Nat} {Hw S:List Int} {i:Int} (h:Ja b n Hw S) (aZ:Hw.length≤1000) (ad:0≤(ix b.2 i).1∧(ix b.2 i).1<(n:Int)) (af:0≤(ix b.2 i).2∧(ix b.2 i).2<(n:Int)):Ja b n (Hw++[i]) (LV (LV S (ix b.2 i).1) (ix b.2 i).2):=by
 have ak:=h.len;have d':=h.val _ ad.1 ad.2;have alV:=Wx (b:=b) Hw (ix b.2 i).1;have dB:=h.val _ af.1 af.2;have alW:=Wx (b:=b) Hw (ix b.2 i).2;refine ⟨by rw [PS,PS,ak],fun f Kg Co=>?_⟩;have e1:∀ f:Int,0≤f→f<(n:Int)→ix (LV S (ix b.2 i).1) f=ix S f+if (ix b.2 i).1=f then 1 else 0:=fun f aB aH=>Xz ⟨ad.1,by omega⟩ ⟨aB,by omega⟩ ⟨by omega,by omega⟩;rw [Xz ⟨af.1,by rw [PS];omega⟩ ⟨Kg,by rw [PS];omega⟩ (by rw [e1 _ af.1 af.2,dB];split <;> omega),e1 f Kg Co,h.val f Kg Co,N0,MS,LX];unfold Ie;split <;> split <;> omega
theorem Ja.zero (n:Nat):Ja b n [] (List.replicate n 0):=⟨by simp,fun f ad af=>by rw [Tc];rfl⟩
theorem aaE (pZ:qm t) {S:List Int} (cm:q6 t S) (ak:S.length≤1000) {k:List Int→Option (List Int)}:∀ (m i:Nat) (z:Int) (C:List Int),z=i→i≤S.length→S.length-i<m→Ja t 6 (S.take i) C →
  ∃ NP,Ja t 6 S NP∧MA t S k m z C=k NP
 | 0,_,_,_,_,_,h,_=>absurd h (by omega)
 | m+1,i,_,C,rfl,hi,hm,GL=>by
   rw [MA];have bt:=GL.len;have bV:=pZ.f6;by_cases h:(i:Int)<(S.length:Int)
   ·(have ra:i<S.length:=by omega);have nn:=cm _ (sD ra);have kq:=Ow (l:=t.2) (i:=S[i]) ⟨nn.1,nn.2⟩;have ad:=pZ.left _ kq;have af:=pZ.right _ kq;have cJ:=GL.step (i:=S[i]) (by simp;omega) ⟨ad.1,by omega⟩ ⟨af.1,by omega⟩;rw [←LB ra] at cJ;rw [if_pos (decide_eq_true h),qc ⟨by omega,h⟩,re ra,qc nn,qc ⟨ad.1,by omega,bt.symm⟩,qc ⟨ad.1,by omega,bt.symm⟩,qc nn,qc ⟨af.1,by omega,by simp [bt]⟩,qc ⟨af.1,by omega,by simp [bt]⟩,rz i (by omega)];exact aaE pZ cm ak m (i+1) _ _ rfl (by omega) (by omega) cJ
   ·rw [if_neg (by simpa using h)]
    have:i=S.length:=by omega
    subst this;rw [tQ] at GL;exact ⟨C,GL,rfl⟩
theorem Zs (n:Nat):((n:Int).tmod 2=1)↔n % 2=1:=by
 rw [Int.tmod_eq_emod_of_nonneg (by omega)];omega
theorem Q1 (q:Int→Bool) (i:Nat):(upto (i+1)).filter q=(upto i).filter q++if q (i:Int) then [(i:Int)] else []:=by
 rw [Nl,tW,tp,List.filter_nil]
theorem U3 {S C:List Int} (GL:Ja t 6 S C) {k:List Int→Option (List Int)}:∀ (m i:Nat) (z:Int),z=i→i≤6→6-i<m →
  K4 C k m ((upto i).filter fun f=>decide (qH t S f % 2=1)) z=k (q2 t S)
 | 0,_,_,_,_,h=>absurd h (by omega)
 | m+1,i,_,rfl,hi,hm=>by
   rw [K4];have ak:((upto i).filter fun f=>decide (qH t S f % 2=1)).length≤6:=sH (tq _ _) (by rw [rF];exact hi);by_cases h:(i:Int)<6
   ·rw [if_pos (decide_eq_true h),qc ⟨by omega,h,GL.len⟩,qc (by decide),GL.val i (by omega) h];by_cases aq:qH t S (i:Int) % 2=1
    ·rw [if_pos (decide_eq_true ((Zs _).2 aq)),qc ⟨rfl,by omega,by omega⟩,tB,tQ,qc (by omega),rz i (by omega)];have ai:=Q1 (fun f=>decide (qH t S f % 2=1)) i;rw [if_pos (decide_eq_true aq)] at ai;rw [←ai];exact U3 GL m (i+1) _ rfl (by omega) (by omega)
    ·rw [if_neg (by simpa [Zs] using aq),rz i (by omega)];have ai:=Q1 (fun f=>decide (qH t S f % 2=1)) i;rw [if_neg (by simpa using aq),sP] at ai;rw [←ai];exact U3 GL m (i+1) _ rfl (by omega) (by omega)
   ·rw [if_neg (by simpa using h)]
    have:i=6:=by omega
    subst this;rfl
theorem aaD (pZ:qm t) {S:List Int} (cm:q6 t S) (ak:S.length≤1000):Mz t S=some (q2 t S):=by
 rw [Mz]
 obtain ⟨C,GL,aj⟩:=aaE pZ cm ak (k:=fun xZ =>
   p8 (xZ.length=6) <|
   p8 (xZ.length=6) <|
   if (decide (xZ=[(0:Int),(0:Int),(0:Int),(0:Int),(0:Int),(0:Int)]))=true then
    some []
   else
    p8 (xZ.length=6) <|
    K4 xZ (fun oi =>
      some oi) p_ ([]:List Int) (0:Int)) p_ 0 0 _ rfl (by omega) (rn (by omega)) (by rw [tg];exact Ja.zero 6)
 rw [aj,qc GL.len,qc GL.len];split
 ·rename_i h;have h:=of_decide_eq_true h;congr 1
  symm
  refine List.filter_eq_nil_iff.2 fun f aQ=>?_;have aQ:=rL.1 aQ;have ae:=GL.val f aQ.1 aQ.2;have e:C=List.replicate 6 (0:Int):=h;rw [e,Tc] at ae
  have:qH t S f=0:=by omega
  simp [this]
 ·rw [qc GL.len];exact U3 GL p_ 0 0 rfl (by omega) (rn (by omega))
theorem aaG (ag:t.2.length≤1000) {k:List Int→Option (List Int)}:∀ (m i:Nat) (z:Int),z=i→i≤t.2.length→t.2.length-i<m→MB t k m (upto i) z=k (upto t.2.length)
 | 0,_,_,_,_,h=>absurd h (by omega)
 | m+1,i,_,rfl,hi,hm=>by
   rw [MB];by_cases h:(i:Int)<(t.2.length:Int)
   ·rw [if_pos (decide_eq_true h),qc (by rw [rF];omega),rz i (by omega),←Nl];exact aaG ag m (i+1) _ rfl (by omega) (by omega)
   ·rw [if_neg (by simpa using h),show i=t.2.length by omega]
theorem aaF (ag:t.2.length≤1000):Pv t=some (upto t.2.length):=aaG ag p_ 0 0 rfl (by omega) (rn (by omega))
def Iy (b:p4):List Int:=q2 b (upto b.2.length)
theorem aas (pZ:qm b) {k:List Int→Option (List Int)}:∀ (m i:Nat) (z:Int) (C:List Int),z=i→i≤b.2.length→b.2.length-i<m→Ja b b.1.toNat (upto i) C →
  ∃ NP,Ja b b.1.toNat (upto b.2.length) NP∧Mx b k m z C=k NP
 | 0,_,_,_,_,_,h,_=>absurd h (by omega)
 | m+1,i,_,C,rfl,hi,hm,GL=>by
   rw [Mx];have bt:=GL.len;have hlen:=pZ.len;by_cases h:(i:Int)<(b.2.length:Int)
   ·(have ra:i<b.2.length:=by omega);have ai:=Ko pZ ra;have cJ:=GL.step (i:=(i:Int)) (by rw [rF];omega) ⟨ai.1,by omega⟩ ⟨ai.2.2.1,by omega⟩;rw [←Nl] at cJ;rw [if_pos (decide_eq_true h),qc ⟨by omega,h⟩,qc ⟨ai.1,by omega,bt.symm⟩,qc ⟨ai.1,by omega,bt.symm⟩,qc ⟨by omega,h⟩,qc ⟨ai.2.2.1,by omega,by simp [bt]⟩,qc ⟨ai.2.2.1,by omega,by simp [bt]⟩,rz i (by omega)];exact aas pZ m (i+1) _ _ rfl (by omega) (by omega) cJ
   ·rw [if_neg (by simpa using h)]
    have:i=b.2.length:=by omega
    subst this;exact ⟨C,GL,rfl⟩
theorem akW (pZ:qm b):∃ C,Ja b b.1.toNat (upto b.2.length) C∧Pr b=some C:=by
 have bV:=pZ.f6;have ad:=pZ.f1;have hlen:=pZ.len;rw [Pr,qc ⟨by omega,by omega,by omega⟩];obtain ⟨C,GL,aj⟩:=aas pZ (k:=fun xZ=>p8 (b.1.toNat=xZ.length) <| some xZ) p_ 0 0 _ rfl (by omega) (rn (by omega)) (Ja.zero _);exact ⟨C,GL,by rw [aj,qc GL.len.symm]⟩
end
end Go.Proofs.YtfakoboiahbhaaaGreat.Ab


namespace Go.Proofs.YtfakoboiahbhaaaGreat.Ab
open Go
theorem YT {α:Type} [BEq α] [LawfulBEq α]:∀ (a b:List α),a.Nodup→(∀ x∈a,x∈b)→a.length≤b.length
 | [],_,_,_=>sr _
 | x::a,b,aN,h=>by
   obtain ⟨ad,af⟩:=ue.1 aN;have al:=h x (by simp);have:=YT a (b.erase x) af fun y a0=>by
    have bM:y≠x:=fun e=>ad (e ▸ a0);exact (List.mem_erase_of_ne bM).2 (h y (by simp [a0]))
   rw [List.length_erase_of_mem al] at this;have:=List.length_pos_of_mem al;simp only [sI];omega
section
variable {b t:p4}
structure RowsOf (b:p4) (S:List Int) (R:List Row):Prop where
 ok:∀ r∈R,∀ p∈r,Im b p
 go:∀ r∈R,∃ a c,qE b a r=some c
 all:((R.flatten).map (·.1)).Perm S
theorem RowsOf.app {S S':List Int} {R Vj:List Row} (h:RowsOf b S R) (aX:RowsOf b S' Vj):RowsOf b (S++S') (R++Vj):=by
 refine ⟨fun r aj=>?_,fun r aj=>?_,?_⟩
 ·rcases sS.1 aj with aj | aj
  ·exact h.ok r aj
  ·exact aX.ok r aj
 ·rcases sS.1 aj with aj | aj
  ·exact h.go r aj
  ·exact aX.go r aj
 ·rw [vQ,td];exact h.all.append aX.all
theorem RowsOf.nil:RowsOf b [] []:=⟨fun r aj=>absurd aj (by simp),fun r aj=>absurd aj (by simp),by simp⟩
def N1 (b:p4):Row→List Int
 | []=>[]
 | p::r=>[qy b p,(qE b (qy b p) (p::r)).getD 0]
theorem adO {r:Row} {a c v:Int} (h:qE b a r=some c) (aq:qH b (r.map (·.1)) v % 2=1):v∈N1 b r:=by
 cases r with
 | nil=>simp [LX] at aq
 | cons p r =>
   have ag:=(Jr.1 h).1;have aC:=O' _ _ _ v h;show v∈[qy b p,(qE b (qy b p) (p::r)).getD 0];rw [ag,h];simp only [Option.getD_some,sk,List.not_mem_nil,or_false];by_cases ad:a=v
   ·exact .inl ad.symm
   ·by_cases af:c=v
    ·exact .inr af.symm
    ·rw [if_neg ad,if_neg af] at aC;omega
theorem Ww (v:Int):∀ (R:List Row),qH b ((R.flatten).map (·.1)) v % 2=1→∃ r∈R,qH b (r.map (·.1)) v % 2=1
 | [],h=>by simp [LX] at h
 | r::R,h=>by
   rw [uI,td,N0] at h;by_cases ad:qH b (r.map (·.1)) v % 2=1
   ·exact ⟨r,by simp,ad⟩
   ·obtain ⟨q,a3,af⟩:=Ww v R (by omega);exact ⟨q,by simp [a3],af⟩
theorem WA:∀ (R:List Row),(R.flatMap (N1 b)).length≤2*(R.filter fun r=>!r.isEmpty).length
 | []=>by simp
 | r::R=>by
   have a_:=WA R;rw [tV,su,tp];cases r with
   | nil=>simpa [N1] using a_
   | cons p r =>
     rw [if_pos (by simp)];simp only [N1,sI,uE] at *;omega
theorem RowsOf.few {S:List Int} {R:List Row} (h:RowsOf b S R):(q2 b S).length≤2*(R.filter fun r=>!r.isEmpty).length:=by
 refine sH (YT _ (R.flatMap (N1 b)) ((Qo S).imp fun h e=>by omega) fun v ae=>?_) (WA R);have ae:=(Lp.1 ae).2;rw [←Le h.all] at ae;obtain ⟨r,aj,ad⟩:=Ww v R ae;obtain ⟨a,c,I0⟩:=h.go r aj;exact List.mem_flatMap.2 ⟨r,aj,adO I0 ad⟩
def Jf (l:List (Int×Int)) (v:Int):Nat:=(l.map fun e=>Ie e v).sum
theorem adI (e:Int×Int) (l:List (Int×Int)) (v:Int):Jf (e::l) v=Ie e v+Jf l v:=by simp [Jf]
theorem adH (l l':List (Int×Int)) (v:Int):Jf (l++l') v=Jf l v+Jf l' v:=by simp [Jf]
theorem Sd (S:List Int) (v:Int):qH b S v=Jf (S.map (ix b.2)) v:=by
 unfold qH Jf;rw [tx];rfl
theorem XU {α:Type} [Inhabited α] (l:List α):(upto l.length).map (ix l)=l:=by
 refine List.ext_getElem (by simp [rF]) fun i ad af=>?_;simp only [upto,ub,List.getElem_range];exact re af
theorem Wv (v:Int):qH b (upto b.2.length) v=Jf b.2 v:=by rw [Sd,XU]
def G_:List Int→List (Int×Int)
 | x::y::r=>(x,y)::G_ r
 | _=>[]
theorem Zq:∀ (l:List Int),(G_ l).length=l.length / 2
 | []=>rfl
 | [_]=>by simp [G_]
 | x::y::r=>by simp only [G_,sI,Zq r];omega
theorem Zp:∀ (l:List Int) (v:Int),l.Nodup→l.length % 2=0→Jf (G_ l) v=if v∈l then 1 else 0
 | [],v,_,_=>by simp [G_,Jf]
 | [_],_,_,h=>by simp at h
 | x::y::r,v,aN,h=>by
   obtain ⟨ad,af⟩:=ue.1 aN;obtain ⟨aG,a6⟩:=ue.1 af;have a_:=Zp r v a6 (by simp only [sI] at h;omega);rw [G_,adI,a_];unfold Ie;have Ix:x≠y:=fun e=>ad (by simp [e]);by_cases e1:v=x
   ·subst e1
    have:v ∉ r:=fun hm=>ad (by simp [hm])
    simp [this,Ne.symm Ix]
   ·by_cases ck:v=y
    ·subst ck;simp [aG,Ix]
    ·simp [e1,ck,Ne.symm e1,Ne.symm ck]
theorem Zr:∀ (l:List Int) (e:Int×Int),e∈G_ l→e.1∈l∧e.2∈l
 | [],e,h=>by simp [G_] at h
 | [_],e,h=>by simp [G_] at h
 | x::y::r,e,h=>by
   rw [G_] at h;rcases sk.1 h with rfl | h
   ·simp
   ·have:=Zr r e h;exact ⟨by simp [this.1],by simp [this.2]⟩
theorem aiS:∀ (n:Nat) (S:List Int),(∀ i∈S,0≤(ix b.2 i).1∧(ix b.2 i).1<(n:Int)∧0≤(ix b.2 i).2∧(ix b.2 i).2<(n:Int))→((upto n).map fun v=>qH b S v).sum=2*S.length:=by
 have one:∀ (x:Int) (n:Nat),((upto n).map fun v=>if x=v then 1 else 0).sum=if 0≤x∧x<(n:Int) then 1 else 0:=by
  intro x n
  induction n with
  | zero=>rw [if_neg (by omega)];rfl
  | succ n a_ =>
    rw [Nl,td,List.sum_append,a_];simp only [ss,tz,uU,List.sum_nil];split <;> split <;> split <;> omega
 have add:∀ (l:List Int) (f g:Int→Nat),(l.map fun v=>f v+g v).sum=(l.map f).sum+(l.map g).sum:=by
  intro l f g
  induction l with
  | nil=>rfl
  | cons x l a_=>simp only [ss,uU,a_];omega
 intro n S h
 induction S with
 | nil =>
   have:∀ l:List Int,(l.map fun v=>qH b [] v).sum=0:=fun l=>by
    induction l with
    | nil=>rfl
    | cons x l a_=>rw [ss,uU,a_,LX]
   exact this _
 | cons i S a_ =>
   have hi:=h i (by simp);simp only [MS];rw [add,a_ fun j aw=>h j (by simp [aw])];unfold Ie;rw [add,one,one,if_pos ⟨hi.1,hi.2.1⟩,if_pos ⟨hi.2.2.1,hi.2.2.2⟩,sI];omega
theorem Oz (pZ:qm b) {S:List Int} (cm:q6 b S):(q2 b S).length % 2=0:=by
 have bV:=pZ.f6;have ai:=aiS (b:=b) 6 S fun i hi=>by
  have hm:=Ow (l:=b.2) (i:=i) (cm i hi);have ad:=pZ.left _ hm;have af:=pZ.right _ hm;exact ⟨ad.1,by omega,af.1,by omega⟩
 have key:∀ l:List Int,(l.filter fun f=>decide (qH b S f % 2=1)).length % 2=(l.map fun v=>qH b S v).sum % 2:=by
  intro l
  induction l with
  | nil=>rfl
  | cons x l a_ =>
    rw [tp,ss,uU];split
    ·rename_i h;have h:=of_decide_eq_true h;rw [sI];omega
    ·rename_i h;(have h:¬ qH b S x % 2=1:=by simpa using h);omega
 unfold q2;rw [key,ai];omega
def rQ (b:p4) (S:List Int):p4:=(b.1,S.map (ix b.2)++G_ (q2 b S))
theorem Nk (S:List Int):(rQ b S).2.length=S.length+(q2 b S).length / 2:=by
 unfold rQ;simp [Zq]
theorem Pb {S:List Int} {i:Nat} (h:i<S.length):ix (rQ b S).2 (i:Int)=ix b.2 S[i]:=by
 have aG:i<(S.map (ix b.2)++G_ (q2 b S)).length:=by simp;omega
 show ix (S.map (ix b.2)++G_ (q2 b S)) (i:Int)=_;rw [re aG,wx (by simpa using h),ub]
theorem ajb {S:List Int} {i:Nat} (h:S.length≤i) (af:i<(rQ b S).2.length):ix (rQ b S).2 (i:Int)∈G_ (q2 b S):=by
 have aG:i<(S.map (ix b.2)++G_ (q2 b S)).length:=af;show ix (S.map (ix b.2)++G_ (q2 b S)) (i:Int)∈_;rw [re aG,wy (by simpa using h)];exact sD _
theorem aja (pZ:qm b) {S:List Int} (cm:q6 b S) (v:Int):qH (rQ b S) (upto (rQ b S).2.length) v % 2=0:=by
 rw [Wv];show Jf (S.map (ix b.2)++G_ (q2 b S)) v % 2=0;rw [adH,←Sd,Zp _ _ ((Qo S).imp fun h e=>by omega) (Oz pZ cm)];split
 ·rename_i h;have:=(Lp.1 h).2;omega
 ·rename_i h;have bV:=pZ.f6;refine Classical.byContradiction fun aN=>h (Lp.2 ⟨?_,by omega⟩)
  have:qH b S v≠0:=fun e=>by rw [e] at aN;exact aN rfl
  refine Classical.byContradiction fun ae=>this (LY.2 fun i hi kq=>?_);have:=PW pZ (rL.2 (cm i hi)) kq;omega
theorem Za {S:List Int} {f g:Int} (h:qG b S f g):qG (rQ b S) (upto (rQ b S).2.length) f g:=by
 induction h with
 | refl=>exact .refl
 | step i _ hi aB aH a_ =>
   obtain ⟨k,av,e⟩:=tY hi;have ak:=Nk (b:=b) S;refine .step (k:Int) a_ (rL.2 ⟨by omega,by omega⟩) ?_ ?_
   ·unfold qv at aB ⊢;rw [Pb av,e];exact aB
   ·unfold qv at aH ⊢;rw [Pb av,e];exact aH
theorem round_part (pZ:qm b) {S:List Int} (cm:q6 b S) (ak:S.length≤990) (aS:S≠[]) (ao:∀ x∈S,∀ y∈S,∀ f g,qv b x f→qv b y g→qG b S f g) :
  ∃ l a,Mi (rQ b S)=some l∧Full (rQ b S) l∧qE (rQ b S) a l=some a:=by
 have hlen:=Nk (b:=b) S;have M5:0<S.length:=uc.2 aS;have aq:(q2 b S).length≤6:=sH (tq _ _) (by rw [rF];omega);have fR:ix (rQ b S).2 0=ix b.2 S[0]:=Pb (i:=0) M5;obtain ⟨l,ad,af,aG⟩:=aj2 (t:=rQ b S) (aja pZ cm) (by omega) (by omega) fun i hi=>by
  by_cases Xj:i<S.length
  ·refine ⟨(ix b.2 S[i]).1,.inl (by rw [Pb Xj]),?_⟩;rw [fR];exact Za (ao _ (sD _) _ (sD Xj) _ _ (.inl rfl) (.inl rfl))
  ·have hm:=ajb (b:=b) (S:=S) (by omega) hi;refine ⟨(ix (rQ b S).2 (i:Int)).1,.inl rfl,?_⟩;have Jm:=(Lp.1 (Zr _ _ hm).1).2
   have:¬ ∀ x∈S,¬ qv b x (ix (rQ b S).2 (i:Int)).1:=fun aN=>by
    rw [LY.2 aN] at Jm;simp at Jm
   have:∃ x∈S,qv b x (ix (rQ b S).2 (i:Int)).1:=Classical.byContradiction fun aN=>this fun x al aQ=>aN ⟨x,al,aQ⟩
   obtain ⟨x,al,aQ⟩:=this;rw [fR];exact Za (ao _ (sD M5) x al _ _ (.inl rfl) aQ)
 exact ⟨l,_,ad,af,aG⟩
theorem qZ.adz {S:List Int} {out:List (List Int)} (h:qZ b S out) {r:List Int} (aj:r∈out):∀ x∈r,∀ y∈r,∀ f g,qv b x f→qv b y g→qG b r f g:=by
 intro x al y a0 f g aQ aO;have ao:=h.IF r aj x al y a0 f g aQ aO;clear aO
 induction ao with
 | refl=>exact .refl
 | step i Cp hi aB aH a_=>exact .step i a_ (h.closed aj al aQ Cp i hi aB) aB aH
end
end Go.Proofs.YtfakoboiahbhaaaGreat.Ab


namespace Go.Proofs.YtfakoboiahbhaaaGreat.Ab
open Go
def rN (S:List Int):Row→Row→List Row
 | own,[]=>if 0<own.length then [own] else []
 | own,p::r=>if p.1<(S.length:Int) then rN S (own++[(ix S p.1,p.2)]) r else own::rN S [] r
section
variable {b:p4} {S:List Int}
theorem YR:∀ (m l:Row) (own:Row),(∀ p∈m,p.1<(S.length:Int))→rN S own (m++l)=rN S (own++m.map fun p=>(ix S p.1,p.2)) l
 | [],l,own,_=>by simp
 | p::m,l,own,h=>by
   rw [uQ,rN,if_pos (h p (by simp)),YR m l _ fun q a3=>h q (by simp [a3])];simp
theorem ac5 {p:Int×Int} (ad:0≤p.1) (af:p.1<(S.length:Int)):qy (rQ b S) p=qy b (ix S p.1,p.2)∧fin (rQ b S) p=fin b (ix S p.1,p.2):=by
 obtain ⟨i,hi⟩:∃ i:Nat,p.1=(i:Int):=⟨p.1.toNat,by omega⟩;unfold qy fin;rw [hi,Pb (by omega),re (by omega)];exact ⟨rfl,rfl⟩
theorem QW (cm:q6 b S):∀ (l own:Row),(∀ p∈own,Im b p)→(∀ p∈l,Im (rQ b S) p)→∀ r∈rN S own l,∀ p∈r,Im b p
 | [],own,ad,_=>by
   rw [rN];split
   ·intro r aj;rw [sN.1 aj];exact ad
   ·intro r aj;simp at aj
 | q::l,own,ad,af=>by
   rw [rN];have a3:=af q (by simp);split
   ·rename_i aU;refine QW cm l _ (fun p aC=>?_) fun p aC=>af p (by simp [aC]);rcases sS.1 aC with aC | aC
    ·exact ad p aC
    ·rw [sN.1 aC];have hm:ix S q.1∈S:=by
      obtain ⟨i,hi⟩:∃ i:Nat,q.1=(i:Int):=⟨q.1.toNat,by have:=a3.1;omega⟩;rw [hi,re (by omega)];exact sD _
     exact ⟨(cm _ hm).1,(cm _ hm).2,a3.2.2.1,a3.2.2.2⟩
   ·intro r aj;rcases sk.1 aj with rfl | aj
    ·exact ad
    ·exact QW cm l [] (fun p aC=>absurd aC (by simp)) (fun p aC=>af p (by simp [aC])) r aj
theorem QV:∀ (l own:Row) (jl a e:Int),qE b jl own=some a→qE (rQ b S) a l=some e→(∀ p∈l,Im (rQ b S) p)→∀ r∈rN S own l,∃ a c,qE b a r=some c
 | [],own,jl,a,e,ad,_,_=>by
   rw [rN];split
   ·intro r aj;rw [sN.1 aj];exact ⟨_,_,ad⟩
   ·intro r aj;simp at aj
 | q::l,own,jl,a,e,ad,af,aG=>by
   rw [rN];obtain ⟨cb,b8⟩:=Jr.1 af;have a3:=aG q (by simp);split
   ·rename_i aU;obtain ⟨bo,cI⟩:=ac5 (b:=b) a3.1 aU;refine QV l _ jl (fin (rQ b S) q) e ?_ b8 fun p aC=>aG p (by simp [aC]);rw [JY,ad,sb];exact KS.2 ⟨by rw [←bo];exact cb,cI.symm⟩
   ·intro r aj;rcases sk.1 aj with rfl | aj
    ·exact ⟨_,_,ad⟩
    ·exact QV l [] _ _ e rfl b8 (fun p aC=>aG p (by simp [aC])) r aj
def G0 (S:List Int) (p:Int×Int):Bool:=decide (p.1<(S.length:Int))
theorem QU:∀ (l own:Row),(rN S own l).flatten.map (·.1)=own.map (·.1)++(l.filter (G0 S)).map fun p=>ix S p.1
 | [],own=>by
   rw [rN];split
   ·simp
   ·have:own=[]:=tf.1 (by omega)
    simp [this]
 | q::l,own=>by
   rw [rN,tp];split
   ·rename_i h;have aX:G0 S q=true:=decide_eq_true h;rw [QU l,if_pos aX];simp
   ·rename_i h;(have aX:¬ G0 S q=true:=by simpa [G0] using h);rw [uI,td,QU l,if_neg aX];simp
theorem UI {q:Int×Int} (a3:G0 S q=false):∀ (m own:Row),(rN S own (m++[q])).length=(m.filter fun p=>!G0 S p).length+1
 | [],own=>by
   have:¬ q.1<(S.length:Int):=by simpa [G0] using a3
   rw [uh,rN,if_neg this];simp [rN]
 | p::m,own=>by
   rw [uQ,rN,tp];split
   ·rename_i h;have aX:G0 S p=true:=decide_eq_true h;rw [UI a3 m,aX];simp
   ·rename_i h;(have aX:G0 S p=false:=by simpa [G0] using h);rw [sI,UI a3 m,aX];simp
theorem Tv {α:Type} (p:α→Bool):∀ (l:List α) (i:Nat),(posOf p l i=-1∧∀ x∈l,p x=false)∨∃ dK q kI,l=dK++q::kI∧p q=true∧posOf p l i=((i+dK.length:Nat):Int)
 | [],i=>.inl ⟨rfl,fun x al=>by simp at al⟩
 | x::l,i=>by
   rw [posOf];by_cases h:p x=true
   ·rw [if_pos h];exact .inr ⟨[],x,l,rfl,h,rfl⟩
   ·rw [if_neg h];rcases Tv p l (i+1) with ⟨ad,af⟩ | ⟨dK,q,kI,rfl,af,aG⟩
    ·refine .inl ⟨ad,fun y a0=>?_⟩;rcases sk.1 a0 with rfl | a0
     ·simpa using h
     ·exact af y a0
    ·refine .inr ⟨x::dK,q,kI,rfl,af,?_⟩;rw [aG,sI];congr 1;omega
theorem Full.perm {t:p4} {l l':Row} (h:Full t l) (aC:l'.Perm l):Full t l' :=
 ⟨fun p ae6=>h.ok p (aC.mem_iff.1 ae6),(aC.map _).nodup_iff.2 h.r5,fun i hi=>(aC.map (·.1)).mem_iff.2 (h.all i hi)⟩
theorem Full.upto {t:p4} {l:Row} (h:Full t l):(l.map (·.1)).Perm (upto t.2.length):=by
 refine (uy h.r5 (Ju _)).2 fun x=>?_;rw [rL];constructor
 ·intro al;obtain ⟨p,aC,rfl⟩:=sv.1 al;have:=h.ok p aC;exact ⟨this.1,this.2.1⟩
 ·rintro ⟨ad,af⟩;obtain ⟨i,rfl⟩:∃ i:Nat,x=(i:Int):=⟨x.toNat,by omega⟩;exact h.all i (by omega)
theorem Full.own {l:Row} (h:Full (rQ b S) l):((l.filter (G0 S)).map fun p=>ix S p.1).Perm S:=by
 have ad:((l.filter (G0 S)).map (·.1)).Perm (Ab.upto S.length):=by
  refine (uy ((List.filter_sublist.map _).nodup h.r5) (Ju _)).2 fun x=>?_;rw [rL,sv];constructor
  ·rintro ⟨p,aC,rfl⟩;rw [sK] at aC;exact ⟨(h.ok p aC.1).1,by simpa [G0] using aC.2⟩
  ·rintro ⟨ad,af⟩;have hm:x∈l.map (·.1):=h.upto.mem_iff.2 (rL.2 ⟨ad,by rw [Nk];omega⟩);obtain ⟨p,aC,rfl⟩:=sv.1 hm;exact ⟨p,sK.2 ⟨aC,decide_eq_true af⟩,rfl⟩
 have af:=ad.map (ix S);rw [XU,tx] at af;exact af
theorem WJ {α:Type} (q:α→Bool):∀ l:List α,l.length=(l.filter q).length+(l.filter fun x=>!q x).length
 | []=>rfl
 | x::l=>by
   rw [tp,tp,sI,WJ q l];cases q x <;> simp <;> omega
theorem Full.threads {l:Row} (h:Full (rQ b S) l):(l.filter fun p=>!G0 S p).length=(q2 b S).length / 2:=by
 have ad:=h.upto.length_eq;have af:=h.own.length_eq;rw [sZ] at ad af;rw [rF,Nk] at ad;have aG:=WJ (G0 S) l;omega
def Kn (S:List Int) (l:Row):Row:=let c:=posOf (fun p=>!G0 S p) l 0;if 0≤c then l.drop (c+1).toNat++l.take (c+1).toNat else l
theorem aiq (l:Row):(Kn S l=l∧∀ p∈l,G0 S p=true)∨∃ dK q kI,l=dK++q::kI∧G0 S q=false∧Kn S l=(kI++dK)++[q]:=by
 unfold Kn;rcases Tv (fun p=>!G0 S p) l 0 with ⟨ad,af⟩ | ⟨dK,q,kI,rfl,af,aG⟩
 ·left;rw [ad];exact ⟨rfl,fun p aC=>by simpa using af p aC⟩
 ·right;refine ⟨dK,q,kI,rfl,by simpa using af,?_⟩;rw [aG];simp only [sO];rw [if_pos (by omega),show ((dK.length:Int)+1).toNat=dK.length+1 by omega];have e:dK++q::kI=(dK++[q])++kI:=by simp
  rw [e,List.drop_left' (by simp),List.take_left' (by simp),sj]
structure Vh (b:p4) (S:List Int) (R:List Row):Prop extends RowsOf b S R where
 ne:∀ r∈R,r≠[]
 len:R.length=max 1 ((q2 b S).length / 2)
theorem X6 (pZ:qm b) (cm:q6 b S) (aS:S≠[]) {l:Row} {a:Int} (bB:Full (rQ b S) l) (aO:qE (rQ b S) a l=some a):Vh b S (rN S [] (Kn S l)):=by
 have M5:0<S.length:=uc.2 aS;have S7:=bB.threads;have lS:=Oz pZ cm;rcases aiq (S:=S) l with ⟨ad,af⟩ | ⟨dK,q,kI,rfl,af,aG⟩
 ·rw [ad];have jw:RowsOf b S (rN S [] l):=⟨QW cm l [] (fun p aC=>absurd aC (by simp)) bB.ok,QV l [] a a a rfl aO bB.ok,by rw [QU];simpa using bB.own⟩;have e:(l.filter fun p=>!G0 S p)=[]:=List.filter_eq_nil_iff.2 fun p aC=>by simp [af p aC]
  rw [e] at S7;simp only [uE] at S7;have ak:0<l.length:=by
   have:=bB.upto.length_eq;rw [sZ,rF,Nk] at this;omega
  have ai:rN S [] l=[l.map fun p=>(ix S p.1,p.2)]:=by
   have:=YR (S:=S) l [] [] fun p aC=>of_decide_eq_true (af p aC);rw [sP,uh] at this;rw [this,rN,if_pos (by simpa using ak)]
  refine ⟨jw,fun r aj=>?_,?_⟩
  ·rw [ai] at aj;rw [sN.1 aj];intro e;have:=congrArg List.length e;simp at this;rw [this] at ak;simp at ak
  ·rw [ai,←S7];rfl
 ·rw [aG];have Jn:(kI++dK++[q]).Perm (dK++q::kI):=by
   rw [show dK++q::kI=(dK++[q])++kI by simp,sj];exact wA
  have P5:=bB.perm Jn;have SU:∃ aM,qE (rQ b S) aM (kI++dK++[q])=some aM:=by
   rw [show dK++q::kI=(dK++[q])++kI by simp,JY] at aO;obtain ⟨c,cb,b8⟩:=qd aO;refine ⟨c,?_⟩;rw [sj,JY,b8];exact cb
  obtain ⟨aM,SU⟩:=SU;have jw:RowsOf b S (rN S [] (kI++dK++[q])):=⟨QW cm _ [] (fun p aC=>absurd aC (by simp)) P5.ok,QV _ [] aM aM aM rfl SU P5.ok,by rw [QU];simpa using P5.own⟩;have afe:=P5.threads;rw [tW,su] at afe;have al2:([q].filter fun p=>!G0 S p).length=1:=by simp [af]
  have hlen:=UI af (kI++dK) [];have SR:=jw.few;have hle:=tq (fun r:Row=>!r.isEmpty) (rN S [] (kI++dK++[q]));refine ⟨jw,fun r aj=>?_,by omega⟩;have heq:((rN S [] (kI++dK++[q])).filter fun r=>!r.isEmpty).length=(rN S [] (kI++dK++[q])).length:=by omega
  have:=List.length_filter_eq_length_iff.1 heq r aj;intro e;rw [e] at this;simp at this
end
end Go.Proofs.YtfakoboiahbhaaaGreat.Ab


namespace Go.Proofs.YtfakoboiahbhaaaGreat.Ab
open Go
set_option maxRecDepth 20000
set_option maxHeartbeats 4000000
theorem Rel.Ti {J:List Nat} {S:Nat→Nat→Prop} {w:World} {cells:List I} {v:Value} (h:Rel J S w (.bU cells) v):Rel J S w (.bU (cells.map I.gR)) v:=by
 cases h with
 | bU _ b o f k eM =>
   refine .bU _ b o f (fun j u aw=>?_) (fun j u aw=>?_)
   ·rw [sA] at aw;simp only [r_] at aw;obtain ⟨x,al,rfl⟩:=aw;obtain ⟨aB,aH,aR,bj⟩:=k j x al;exact ⟨aB,aH,yf aR,bj⟩
   ·rw [sA] at aw;simp only [r_] at aw;obtain ⟨x,al,rfl⟩:=aw;exact (eM j x al).gR
theorem lg.Ti {P:Program} {k:FuncId} {cs:List I} {v:I} (h:lg P k [.bU (cs.map I.gR)] v):lg P k [.bU cs] v :=
 ⟨⟨h.1.1,h.1.2.1,fun B U J S w vs ah aN ae=>h.1.2.2 B U J S w vs ah aN ⟨by simpa using ae.len,fun i u x hu al=>by
   cases i with
   | zero =>
     obtain rfl:=Option.some.inj hu;exact (ae.rel 0 _ x rfl al).Ti
   | succ i=>simp at hu,fun i u x hu al=>by
   cases i with
   | zero=>obtain rfl:=Option.some.inj hu;exact aV.b3 rfl
   | succ i=>simp at hu⟩⟩,h.2⟩
theorem call7 {P:Program} {k:FuncId} {H:List au} {lo id:Nat} {l cs:List I} {v:I} (bD:lo≤id) (ah:H[id]?=some (.cells l)) (ao:l.map I.view=cs) (aC:cq 8 (.bU cs)=true) {ds:List I} (aZ:cs.map I.gR=ds) (h:lg P k [.bU ds] v):om P 7 lo (.fn k) [.ptr id 0] H v.cr (H.set id .dead):=by
 have h:lg P k [.bU cs] v:=lg.Ti (by rw [aZ];exact h);refine ⟨_,D2 (YI (by simp [aC]) h []),?_⟩;simp only [eT,bD,if_true,ah,ao,aC];show ((kP (.fn k) [.bU cs] [] 0 v []) (.fn k) [.bU cs] [] 0).bind _=_;rw [D1,sb];show (bJ [] 0 0 0 8 v).map _=_;rw [oR h.2];rfl
theorem ad5:((List.range 24).all fun n=>match QM [] 129 [.ay [] 0 .full,.int .i64 ((n+1:Nat):Int)] with | some v=>IQ 3 v (.ay [] 0 (.own 2)) | none=>false)=true:=by kernel_rfl
def UX (s:List (Int×Int)) (n:Int):Option (List (Int×Int)):=p8 (s=[]∧0<n∧n≤24) (some s)
theorem akc {s v:List (Int×Int)} {n:Int} (h:UX s n=some v):ql 129 [.ay [] 0 .full,hP n] (.ay (v.flatMap p1) v.length (.own 2)):=by
 obtain ⟨⟨rfl,aS,ad⟩,h⟩:=qn h;obtain rfl:=Option.some.inj h;obtain ⟨k,rfl⟩:∃ k:Nat,n=((k+1:Nat):Int):=⟨n.toNat-1,by omega⟩;have:=sC.1 ad5 k (sJ.2 (by omega));split at this
 ·rename_i v ae;rw [MQ _ _ _ this] at ae;exact GO (l:=[]) (by simp) ae
 ·cases this

noncomputable def aaW:ez :=
 Gz [gM 2 [.hG 0] .box,gM 3 [.iA (.bool false)] .iQ] (Gz [F6 4 2 0,Gl 5 4,Gl 6 1,Gk 7 6,F1 8 5 7 .geq,Gp 3 8] .ret)
theorem afR:zf Tryz.prog Vy 105=some (aaW,9,[.tmp 3]):=by kernel_rfl
def Pe (p:(Int×Int)) (c0:p5):Option Bool :=
 some (decide ((c0.length:Int)≤p.1))
theorem US {p:(Int×Int)} {c0:p5} {v:Bool} (h:Pe p c0=some v):ql 105 [(.agg [(hP p.1),(hP p.2)]),(.bU [(.ay (c0.map hP) c0.length .shared)])] (B v):=by
 refine qM dI afR rfl rfl fun Q bl=>?_;have jw:qu [.tmp 3] Q (fun v=>(B v)) v:=fun T H bI=>bl _ T H bI;unfold Pe at h;unfold aaW;conv=>whnf
 exact p7 h jw rfl rfl

noncomputable def Rg:ez :=
 .loop (some (Ez false [0, 1, 2, 1, 5, 3, 24])) (Gz [gM 12 [.sl 11, .sl 10] (.bin .lss)] (.seq (.cond (.sl 12) .skip (.exit 0)) (.seq (.block 1 (Gz [gM 13 [.sl 9, .sl 11] (.pM 1), Gl 14 13, Gp 5 14] (Gz [Gp 15 3, Gp 16 5, Gk 17 16, F1 18 15 17 .add, Gp 3 18] (Gz [Gn 19 3, F0 20 19 0 .lss] (.cond (.sl 20) (Gs [gM 21 [.iA (.str (ByteArray.mk (Array.mk [108, 101, 110, 32, 111, 117, 116, 32, 111, 102, 32, 114, 97, 110, 103, 101])))] (.other (Oper.mk (some 21) (Op.makeInterface 9 (Operand.const (Value.string (ByteArray.mk (Array.mk [108, 101, 110, 32, 111, 117, 116, 32, 111, 102, 32, 114, 97, 110, 103, 101]))))) 20 "slices.go:496" (Array.mk []) none) 0), ⟨none, [.hJ 21], none, none, .other (Oper.mk none (Op.panic (Operand.tmp 21)) 0 "slices.go:496" (Array.mk [Edge.mk 0 Ground.data]) none) 0⟩]) .skip))))) (Gs [FZ 22 11 1, Gp 11 22]))))
noncomputable def Rh:ez :=
 .loop (some (Ez false [6,1,18,3,8])) (Gz [gM 28 [.sl 27,.sl 26] (.bin .lss)] (.seq (.cond (.sl 28) .skip (.exit 2)) (.seq (.block 3 (Gz [gM 29 [.sl 25,.sl 27] (.pM 1),Gl 30 29,Gp 8 30] (Gs [Gp 31 6,Gp 32 8,gM 33 [.hG 31,.hG 32] (.app 2 16),Gp 6 33]))) (Gs [FZ 34 27 1,Gp 27 34]))))
noncomputable def aaX:ez :=
 Gz [gM 2 [.iA (.ay [] 0 .full)] (.nil 2)] (Gz [Gm 3 0] (.seq (Gz [Gn 9 0,gM 10 [.sl 9] .pV,Gm 11 0] (.block 0 Rg)) (Gz [Gp 23 3,gM 24 [.iA (.func 129 [] []),.iA (.ay [] 0 .full),.sl 23] (.call 0),Gp 6 24] (.seq (Gz [Gp 25 0,gM 26 [.sl 25] .pV,Gm 27 0] (.block 2 Rh)) (Gz [Gp 35 6,Gp 2 35] .ret)))))
theorem afS:zf Tryz.prog PM 106=some (aaX,36,[.tmp 2]):=by kernel_rfl
def LD (slices:qP) (p9:Int→Option qb):Nat→Int→Int→Option qb
 | 0,_,_=>none
 | m+1,s1,s2 =>
   if (decide (s2<(slices.length:Int)))=true then
    p8 (0≤s2∧s2<(slices.length:Int)) <|
    if (decide ((w (s1+((ix slices s2).length:Int)))<(0:Int)))=true then
     none
    else
     LD slices p9 m (w (s1+((ix slices s2).length:Int))) (w (s2+(1:Int)))
   else
    p9 s1
def LF (slices:qP) (qB:qb→Option qb):Nat→qb→Int→Option qb
 | 0,_,_=>none
 | m+1,s3,Gy =>
   if (decide (Gy<(slices.length:Int)))=true then
    p8 (0≤Gy∧Gy<(slices.length:Int)) <|
    p8 ((s3.length+(ix slices Gy).length)*16≤140737488355328) <|
    LF slices qB m (s3++(ix slices Gy)) (w (Gy+(1:Int)))
   else
    qB s3
def Nq (slices:qP):Option qb :=
 LD slices (fun xZ =>
   (UX [] xZ).bind fun r1 =>
   LF slices (fun oi =>
     some oi) p_ r1 (0:Int)) p_ (0:Int) (0:Int)
theorem aj3 {slices:qP} {p9:Int→Option qb} {s1:Int} {s2:Int} {v:qb} {Q:q'}   (q8:∀ (xZ:Int) (p6:List I),p9 xZ=some v→qU 36 [(0,(.ay (slices.map (rv p1)) slices.length .shared)),(3,(hP xZ))] p6→Q (.exit 0) p6 []) {T:List I} (bX:eR (Ez false [0,1,2,1,5,3,24]) T=GG 36 [(0,(.ay (slices.map (rv p1)) slices.length .shared)),(3,(hP s1)),(9,(.ay (slices.map (rv p1)) slices.length .shared)),(10,(hP (slices.length:Int))),(11,(hP s2))]) (h:LD slices p9 p_ s1 s2=some v) :
  dC Tryz.prog PM 106 0 none Rg T [] Q:=by
 unfold Rg;refine wp_loop bX ?_;refine .intro (fun m T H=>∃ (s1 s2:Int),T=GG 36 [(0,(.ay (slices.map (rv p1)) slices.length .shared)),(3,(hP s1)),(9,(.ay (slices.map (rv p1)) slices.length .shared)),(10,(hP (slices.length:Int))),(11,(hP s2))]∧H=[]∧LD slices p9 m s1 s2=some v) p_ ⟨s1,s2,rfl,rfl,h⟩ ?_;clear h bX;rintro m T H ⟨s1,s2,rfl,rfl,h⟩;cases m
 ·exact q7 h
 rename_i m;rw [LD.eq_2] at h;conv=>whnf
 refine bs h (fun eU h=>?_) fun eU h=>?_
 ·rw [eU];conv=>whnf
  refine qk h id fun fk h=>?_;rw [rT (rv p1) slices s2 fk];conv=>whnf
  refine bs h (fun qf h=>?_) fun qf h=>?_
  ·rw [qf];(conv=>whnf);exact q7 h
  ·rw [qf];(conv=>whnf);exact ⟨m,sm m,(w (s1+((ix slices s2).length:Int))),(w (s2+(1:Int))),rfl,rfl,h⟩
 ·rw [eU];conv=>whnf
  exact q8 _ _ h ⟨rfl,rfl⟩
theorem aj4 {slices:qP} {qB:qb→Option qb} {s3:qb} {Gy:Int} {v:qb} {Q:q'}   (IK:∀ (oi:qb) (p6:List I),qB oi=some v→qU 36 [(6,(p3 oi (.own 2)))] p6→Q (.exit 2) p6 []) {T:List I} (bX:eR (Ez false [6,1,18,3,8]) T=GG 36 [(6,(p3 s3 (.own 2))),(25,(.ay (slices.map (rv p1)) slices.length .shared)),(26,(hP (slices.length:Int))),(27,(hP Gy))]) (h:LF slices qB p_ s3 Gy=some v) :
  dC Tryz.prog PM 106 0 none Rh T [] Q:=by
 unfold Rh;refine wp_loop bX ?_;refine .intro (fun m T H=>∃ (s3:qb) (Gy:Int),T=GG 36 [(6,(p3 s3 (.own 2))),(25,(.ay (slices.map (rv p1)) slices.length .shared)),(26,(hP (slices.length:Int))),(27,(hP Gy))]∧H=[]∧LF slices qB m s3 Gy=some v) p_ ⟨s3,Gy,rfl,rfl,h⟩ ?_;clear h bX;rintro m T H ⟨s3,Gy,rfl,rfl,h⟩;cases m
 ·exact q7 h
 rename_i m;rw [LF.eq_2] at h;conv=>whnf
 refine bs h (fun qD h=>?_) fun qD h=>?_
 ·rw [qD];conv=>whnf
  refine qk h id fun rr h=>?_;rw [rT (rv p1) slices Gy rr];conv=>whnf
  obtain ⟨qN,h⟩:=qn h;refine ⟨by first | rfl | (simp;done) | exact Iv p1 _ qw _,by have:=qN;omega,rfl,qN,?_⟩
  erw [acY p1 s3 (ix slices Gy)];conv=>whnf
  exact ⟨m,sm m,(s3++(ix slices Gy)),(w (Gy+(1:Int))),rfl,rfl,h⟩
 ·rw [qD];conv=>whnf
  exact IK _ _ h ⟨rfl,rfl⟩
theorem UT {slices:qP} {v:qb} (h:Nq slices=some v):ql 106 [(.ay (slices.map (rv p1)) slices.length .shared)] (.ay (v.flatMap p1) v.length .shared):=by
 refine qM dI afS rfl (qL (fun _=>(pY rfl (pY rfl rfl))) _ _ _) fun Q bl=>?_;have jw:qu [.tmp 2] Q (fun v=>(p3 v .shared)) v:=fun T H bI=>bl _ T H bI;unfold Nq at h;unfold aaX;obtain ⟨Ho,qz⟩:∃ c,Rg=c:=⟨_,rfl⟩;rw [qz];obtain ⟨J8,rm⟩:∃ c,Rh=c:=⟨_,rfl⟩;rw [rm];conv=>whnf
 subst qz;refine aj3 ?_ (by exact rfl) h;intro xZ p6 h qh;obtain ⟨qS,rfl⟩:=qh.ex;conv=>whnf
 obtain ⟨r1,qo,h⟩:=qd h;refine ⟨_,_,adj (pY rfl (pY rfl rfl)) (akc qo) _ _,?_⟩;conv=>whnf
 subst rm;refine aj4 ?_ (by exact rfl) h;intro oi p6 h qh;obtain ⟨qS,rfl⟩:=qh.ex;conv=>whnf
 exact p7 h jw rfl rfl

noncomputable def RF:ez :=
 .loop (some (Ez false [0,1,2,1,1,2,12,3,10,3,98])) (Gz [gM 35 [.sl 34,.sl 33] (.bin .lss)] (.seq (.cond (.sl 35) .skip (.exit 2)) (.seq (.block 3 (Gz [gM 36 [.sl 32,.sl 34] (.pM 1),Gl 37 36,Gp 8 37] (Gt [gM 38 [.sl 6] (.oP 0),F6 39 38 1,gM 40 [.hJ 39] .take,Gn 41 0,gM 42 [.hJ 41] .zB,F6 43 42 0,F6 44 43 1,Gl 45 44,Gp 46 8,Gh 47 45 46 2,gM 48 [.hJ 47] (.pT (.str 2)),gM 49 [.hJ 48] (.x' 1 2 [.int .i64 0,.int .i64 0] [0]),gM 50 [.hG 40,.hG 49] (.app 2 16),gM 51 [.sl 6] (.oP 0),F6 52 51 1,⟨none,[.hG 52,.hG 50],none,none,.st 1⟩]))) (Gs [FZ 53 34 1,Gp 34 53]))))
noncomputable def NM:ez :=
 .loop (some (Ez false [0,1,2,1,1,2,2,2,8,3,111])) (.seq (Gz [Gn 57 10,FZ 58 57 1,Gn 59 9,Gk 60 59,F1 61 58 60 .lss] (.cond (.sl 61) .skip (.exit 4))) (.seq (.block 5 (Gt [gM 64 [.sl 6] (.oP 0),F6 65 64 1,gM 66 [.hJ 65] .take,Gn 67 9,Gn 68 10,Gh 69 67 68 1,Gl 70 69,Gn 71 9,Gn 72 10,FZ 73 72 1,Gh 74 71 73 1,Gl 75 74,gM 76 [.hJ 70,.hJ 75] (.build [.int .i64 0,.int .i64 0] [(0,1),(1,1)]),gM 77 [.hJ 76] (.x' 1 2 [.int .i64 0,.int .i64 0] [0]),gM 78 [.hG 66,.hG 77] (.app 2 16),gM 79 [.sl 6] (.oP 0),F6 80 79 1,⟨none,[.hG 80,.hG 78],none,none,.st 1⟩])) (Gs [Gp 62 10,FZ 63 62 2,Gp 10 63])))
noncomputable def RG:ez :=
 .loop (some (Ez false [0,1,2,1,1,1,7,1,5,3,75,3,33])) (Gz [gM 100 [.sl 99,.sl 98] (.bin .lss)] (.seq (.cond (.sl 100) .skip (.exit 6)) (.seq (.block 7 (Gz [gM 101 [.sl 97,.sl 99] (.pM 2),gM 102 [.hJ 101] (.pT (.str 2)),gM 15 [] (.alloc [.int .i64 0,.int .i64 0]),⟨none,[.sl 15,.hG 102],none,none,.st 2⟩] (.seq (Gz [gM 103 [.sl 15] (.oP 0),Gl 104 103,gM 105 [.sl 5] (.pT .one),Gk 106 105,F1 107 104 106 .lss] (.cond (.sl 107) (.seq (Gt [Gp 108 13,gM 109 [.sl 5] (.pT .one),gM 110 [.sl 15] (.oP 0),Gl 111 110,Gh 112 109 111 1,Gl 113 112,gM 114 [.sl 15] (.oP 1),Gl 115 114,gM 116 [.hJ 113,.hJ 115] (.build [.int .i64 0,.int .i64 0] [(0,1),(1,1)]),gM 117 [.hJ 116] (.x' 1 2 [.int .i64 0,.int .i64 0] [0]),gM 118 [.hG 108,.hG 117] (.app 2 16),Gp 13 118]) (.exit 7)) .skip)) (Gs [Gp 119 3,Gp 120 13,gM 121 [.hJ 120] (.x' 1 1 [.ay [] 0 .full] [0]),gM 122 [.hG 119,.hG 121] (.app 1 24),Gp 3 122,gM 13 [.iA (.ay [] 0 .full)] (.nil 2)])))) (Gs [FZ 123 99 1,Gp 99 123]))))
noncomputable def RH:ez :=
 Gz [gM 13 [.iA (.ay [] 0 .full)] (.nil 2)] (.seq (Gz [Gp 97 11,gM 98 [.sl 97] .pV,Gm 99 0] (.block 6 RG)) (Gz [Gn 124 13,Gk 125 124,F0 126 125 0 .gtr] (.cond (.sl 126) (Gs [Gp 127 3,Gp 128 13,gM 129 [.hJ 128] (.x' 1 1 [.ay [] 0 .full] [0]),gM 130 [.hG 127,.hG 129] (.app 1 24),Gp 3 130]) .skip)))
noncomputable def RI:ez :=
 .loop (some (Ez false [0,1,2,1,15,3,111])) (Gz [gM 22 [.sl 21,.sl 20] (.bin .lss)] (.seq (.cond (.sl 22) .skip (.exit 0)) (.seq (.block 1 (Gz [gM 23 [.sl 19,.sl 21] (.pM 1),Gl 24 23,gM 5 [] (.alloc [.ay [] 0 .full]),⟨none,[.sl 5,.hG 24],none,none,.st 1⟩] (Gz [Gn 25 0,gM 26 [.hJ 25] .zB,F6 27 26 0,F6 28 27 0,Gl 29 28,gM 30 [.hJ 29] (.build [.int .i64 0,.ay [] 0 .full] [(0,1)]),gM 31 [.hJ 30] (.build [.int .i64 0,.ay [] 0 .full] [(0,2)]),gM 6 [] (.alloc [.int .i64 0,.ay [] 0 .full]),⟨none,[.sl 6,.hG 31],none,none,.st 2⟩] (.seq (Gz [gM 32 [.sl 5] (.pT .one),gM 33 [.sl 32] .pV,Gm 34 0] (.block 2 RF)) (Gz [Gn 54 0,gM 55 [.sl 5] (.pT .one),gM 56 [.iA (.func 76 [] []),.sl 54,.sl 55] (.call 3),Gp 9 56] (.seq (Gz [Gm 10 0] (.block 4 NM)) (Gz [gM 81 [.iA (.func 104 [] []),.sl 6] (.call 7),Gp 11 81] (.seq (Gz [Gn 82 11,gM 83 [.sl 5] (.zv 105 0 1),gM 84 [.iA (.func 94 [] []),.sl 82,.sl 83] (.call 6),Gp 12 84] (Gz [Gn 85 12,F0 86 85 0 .geq] (.cond (.sl 86) (Gt [Gn 87 11,Gn 88 12,FZ 89 88 1,gM 90 [.hG 87,.hG 89] (.AX 2 true false false),Gn 91 11,Gn 92 12,FZ 93 92 1,gM 94 [.hG 91,.hG 93] (.AX 2 false true false),gM 95 [.hJ 90,.hJ 94] (.x' 2 1 [.ay [] 0 .full] [0,1]),gM 96 [.iA (.func 106 [] []),.sl 95] (.call 3),Gp 11 96]) .skip))) RH)))))))) (Gs [FZ 131 21 1,Gp 21 131]))))
noncomputable def abD:ez :=
 Gz [gM 2 [.iA (.ay [] 0 .full)] (.nil 1)] (Gz [gM 3 [.iA (.ay [] 0 .full)] (.nil 1)] (.seq (Gz [Gn 16 0,Gn 17 0,gM 18 [.iA (.func 77 [] []),.sl 17] (.call 3),gM 19 [.iA (.func 79 [] []),.sl 16,.sl 18] (.call 3),gM 20 [.sl 19] .pV,Gm 21 0] (.block 0 RI)) (Gz [Gp 132 3,Gp 2 132] .ret)))
theorem agx:zf Tryz.prog La 83=some (abD,133,[.tmp 2]):=by kernel_rfl
def MF (t:qa) (r2:rf) (s2:Int) (qB:qb→Option qP):Nat→Int→qb→Option qP
 | 0,_,_=>none
 | m+1,s3,Gy =>
   if (decide (s3<((ix r2 s2).length:Int)))=true then
    p8 (0≤s3∧s3<((ix r2 s2).length:Int)) <|
    p8 (0≤(ix (ix r2 s2) s3)∧(ix (ix r2 s2) s3)<(t.2.length:Int)) <|
    p8 ((Gy.length+1)*16≤140737488355328) <|
    MF t r2 s2 qB m (w (s3+(1:Int))) (Gy++[(ix t.2 (ix (ix r2 s2) s3))])
   else
    qB Gy
def J3 (r3:p5) (rV:qb→Option qP):Nat→Int→qb→Option qP
 | 0,_,_=>none
 | m+1,qg,qp =>
   if (decide ((w (qg+(1:Int)))<(r3.length:Int)))=true then
    p8 (0≤qg∧qg<(r3.length:Int)) <|
    p8 (0≤(w (qg+(1:Int)))∧(w (qg+(1:Int)))<(r3.length:Int)) <|
    p8 ((qp.length+1)*16≤140737488355328) <|
    J3 r3 rV m (w (qg+(2:Int))) (qp++[((ix r3 qg),(ix r3 (w (qg+(1:Int)))))])
   else
    rV qp
def LO (r2:rf) (s2:Int) (dt:qb) (Me:qP→qb→Option qP):Nat→qP→qb→Int→Option qP
 | 0,_,_,_=>none
 | m+1,Ip,Iz,rJ =>
   if (decide (rJ<(dt.length:Int)))=true then
    p8 (0≤rJ∧rJ<(dt.length:Int)) <|
    if (decide ((ix dt rJ).1<((ix r2 s2).length:Int)))=true then
     p8 (0≤(ix dt rJ).1∧(ix dt rJ).1<((ix r2 s2).length:Int)) <|
     p8 ((Iz.length+1)*16≤140737488355328) <|
     LO r2 s2 dt Me m Ip (Iz++[((ix (ix r2 s2) ((ix dt rJ).1)),(ix dt rJ).2)]) (w (rJ+(1:Int)))
    else
     p8 ((Ip.length+1)*24≤140737488355328) <|
     LO r2 s2 dt Me m (Ip++[Iz]) [] (w (rJ+(1:Int)))
   else
    Me Ip Iz
def LN (r2:rf) (s1:qP) (s2:Int) (Oy:qP→Option qP) (dt:qb):Option qP :=
 LO r2 s2 dt (fun xZ oi =>
   if (decide ((0:Int)<(oi.length:Int)))=true then
    p8 ((xZ.length+1)*24≤140737488355328) <|
    Oy (xZ++[oi])
   else
    Oy xZ) p_ s1 ([]:List (Int×Int)) (0:Int)
def I' (t:qa) (r2:rf) (p9:qP→Option qP):Nat→qP→Int→Option qP
 | 0,_,_=>none
 | m+1,s1,s2 =>
   if (decide (s2<(r2.length:Int)))=true then
    p8 (0≤s2∧s2<(r2.length:Int)) <|
    MF t r2 s2 (fun xZ =>
      (Mz t (ix r2 s2)).bind fun r3 =>
      J3 r3 (fun xZ =>
        (Mi (t.1,xZ)).bind fun r4 =>
        (LP r4 (fun qA=>Pe qA (ix r2 s2))).bind fun qC =>
        if (decide ((0:Int)≤qC))=true then
         p8 (0≤(w (qC+(1:Int)))∧(w (qC+(1:Int)))≤(r4.length:Int)) <|
         p8 (0≤(w (qC+(1:Int)))∧(w (qC+(1:Int)))≤(r4.length:Int)) <|
         (Nq [(r4.drop (w (qC+(1:Int))).toNat),(r4.take (w (qC+(1:Int))).toNat)]).bind fun qs =>
         LN r2 s1 s2 (fun FW =>
           I' t r2 p9 m FW (w (s2+(1:Int)))) qs
        else
         LN r2 s1 s2 (fun FW =>
           I' t r2 p9 m FW (w (s2+(1:Int)))) r4) p_ (0:Int) xZ) p_ (0:Int) ([]:List (Int×Int))
   else
    p9 s1
def Pw (t:qa):Option qP :=
 (Pv t).bind fun r1 =>
 (K5 t r1).bind fun r2 =>
 I' t r2 (fun LQ =>
   some LQ) p_ ([]:List qb) (0:Int)
theorem ale {t:qa} {r2:rf} {s2:Int} {qB:qb→Option qP} {s3:Int} {Gy:qb} {s1:qP} {v:qP} {Q:q'}  {qT:List au} {Ic:il} (IK:∀ (xZ:qb) (p6:List I),qB xZ=some v→qU 133 [(0,(.bU [(hP t.1),(p3 t.2 .shared)])),(3,(.ay (s1.map (rv p1)) s1.length (.uniq 1))),(5,(.ptr (qT).length 0)),(6,(.ptr ((qT)++[au.cells [(qe (ix r2 s2) .shared)]]).length 0)),(19,(.ay (r2.map jh) r2.length .shared)),(20,(hP (r2.length:Int))),(21,(hP s2))] p6→Q (.exit 2) p6 (((qT)++[au.cells [(qe (ix r2 s2) .shared)]])++[au.cells [(hP t.1),(p3 xZ .full)]])) (aeO:∀ (xZ:qb) (p6:List I),qB xZ=some v→qU 133 [(0,(.bU [(hP t.1),(p3 t.2 .shared)])),(3,(.ay (s1.map (rv p1)) s1.length (.uniq 1))),(5,(.ptr (qT).length 0)),(6,(.ptr ((qT)++[au.cells [(qe (ix r2 s2) .shared)]]).length 0)),(19,(.ay (r2.map jh) r2.length .shared)),(20,(hP (r2.length:Int))),(21,(hP s2))] p6→Q (.exit 2) p6 (((qT)++[au.cells [(qe (ix r2 s2) .shared)]])++[au.cells [(hP t.1),(p3 xZ (.own 2))]])) (L6:(Ic=il.full∨Ic=(.own 2))) {T:List I} (bX:eR (Ez false [0,1,2,1,1,2,12,3,10,3,98]) T=GG 133 [(0,(.bU [(hP t.1),(p3 t.2 .shared)])),(3,(.ay (s1.map (rv p1)) s1.length (.uniq 1))),(5,(.ptr (qT).length 0)),(6,(.ptr ((qT)++[au.cells [(qe (ix r2 s2) .shared)]]).length 0)),(19,(.ay (r2.map jh) r2.length .shared)),(20,(hP (r2.length:Int))),(21,(hP s2)),(32,(qe (ix r2 s2) .shared)),(33,(hP ((ix r2 s2).length:Int))),(34,(hP s3))]) (h:MF t r2 s2 qB p_ s3 Gy=some v) :
  dC Tryz.prog La 83 0 none RF T (((qT)++[au.cells [(qe (ix r2 s2) .shared)]])++[au.cells [(hP t.1),(.ay (Gy.flatMap p1) Gy.length Ic)]]) Q:=by
 unfold RF;refine wp_loop bX ?_;refine .intro (fun m T H=>∃ (s3:Int) (Gy:qb) (Ic:il),(Ic=il.full∨Ic=(.own 2))∧T=GG 133 [(0,(.bU [(hP t.1),(p3 t.2 .shared)])),(3,(.ay (s1.map (rv p1)) s1.length (.uniq 1))),(5,(.ptr (qT).length 0)),(6,(.ptr ((qT)++[au.cells [(qe (ix r2 s2) .shared)]]).length 0)),(19,(.ay (r2.map jh) r2.length .shared)),(20,(hP (r2.length:Int))),(21,(hP s2)),(32,(qe (ix r2 s2) .shared)),(33,(hP ((ix r2 s2).length:Int))),(34,(hP s3))]∧H=(((qT)++[au.cells [(qe (ix r2 s2) .shared)]])++[au.cells [(hP t.1),(.ay (Gy.flatMap p1) Gy.length Ic)]])∧MF t r2 s2 qB m s3 Gy=some v) p_ ⟨s3,Gy,_,L6,rfl,rfl,h⟩ ?_;clear h bX;rintro m T H ⟨s3,Gy,Ic,L6,rfl,rfl,h⟩;cases m
 ·exact q7 h
 rename_i m;rw [MF.eq_2] at h;rcases L6 with rfl | rfl
 ·conv=>whnf
  refine bs h (fun qD h=>?_) fun qD h=>?_
  ·rw [qD];(conv=>whnf);refine qk h id fun rr h=>?_;rw [rT hP (ix r2 s2) s3 rr];(conv=>whnf);refine DW (x:=au.cells [(hP t.1),(p3 Gy .full)]) (by first | exact qi.h | rfl | (simp [sc,I.settle];done)) ?_
   (conv=>whnf);refine qk h id fun qN h=>?_;rw [qW p1 2 qw t.2 (ix (ix r2 s2) s3) qN];(conv=>whnf);obtain ⟨qQ,h⟩:=qn h;refine ⟨by first | rfl | (simp;done) | exact Iv p1 _ qw _,by have:=qQ;omega,by decide,qQ,by first | rfl | (simp;done) | exact Iv p1 _ qw _,?_⟩
   erw [Jd p1 Gy (ix t.2 (ix (ix r2 s2) s3))];(conv=>whnf);refine DW (x:=au.cells [(hP t.1),(p3 Gy .full)]) (by first | exact qi.h | rfl | (simp [sc,I.settle];done)) ?_
   (conv=>whnf);rw [rk];exact ⟨m,sm m,(w (s3+(1:Int))),(Gy++[(ix t.2 (ix (ix r2 s2) s3))]),_,(.inr rfl),rfl,rfl,h⟩
  ·rw [qD];(conv=>whnf);exact IK _ _ h ⟨rfl,rfl⟩
 ·conv=>whnf
  refine bs h (fun qD h=>?_) fun qD h=>?_
  ·rw [qD];(conv=>whnf);refine qk h id fun rr h=>?_;rw [rT hP (ix r2 s2) s3 rr];(conv=>whnf);refine DW (x:=au.cells [(hP t.1),(p3 Gy (.own 2))]) (by first | exact qi.h | rfl | (simp [sc,I.settle];done)) ?_
   (conv=>whnf);rw [rk];refine qk h id fun qN h=>?_;rw [qW p1 2 qw t.2 (ix (ix r2 s2) s3) qN];(conv=>whnf);obtain ⟨qQ,h⟩:=qn h;refine ⟨by first | rfl | (simp;done) | exact Iv p1 _ qw _,by have:=qQ;omega,rfl,qQ,?_⟩
   erw [Jd p1 Gy (ix t.2 (ix (ix r2 s2) s3))];(conv=>whnf);refine DW (x:=au.cells [(hP t.1),(p3 Gy .shared)]) (by first | exact qi.h | rfl | (simp [sc,I.settle];done)) ?_
   (conv=>whnf);rw [rk];exact ⟨m,sm m,(w (s3+(1:Int))),(Gy++[(ix t.2 (ix (ix r2 s2) s3))]),_,(.inr rfl),rfl,rfl,h⟩
  ·rw [qD];(conv=>whnf);exact aeO _ _ h ⟨rfl,rfl⟩
theorem alf {r3:p5} {rV:qb→Option qP} {qg:Int} {qp:qb} {t:qa} {r2:rf} {s1:qP} {s2:Int} {v:qP} {Q:q'}  {qT:List au} {Ic:il} (L_:∀ (xZ:qb) (p6:List I),rV xZ=some v→qU 133 [(0,(.bU [(hP t.1),(p3 t.2 .shared)])),(3,(.ay (s1.map (rv p1)) s1.length (.uniq 1))),(5,(.ptr (qT).length 0)),(6,(.ptr ((qT)++[au.cells [(qe (ix r2 s2) .shared)]]).length 0)),(19,(.ay (r2.map jh) r2.length .shared)),(20,(hP (r2.length:Int))),(21,(hP s2))] p6→Q (.exit 4) p6 (((qT)++[au.cells [(qe (ix r2 s2) .shared)]])++[au.cells [(hP t.1),(p3 xZ .full)]])) (aeP:∀ (xZ:qb) (p6:List I),rV xZ=some v→qU 133 [(0,(.bU [(hP t.1),(p3 t.2 .shared)])),(3,(.ay (s1.map (rv p1)) s1.length (.uniq 1))),(5,(.ptr (qT).length 0)),(6,(.ptr ((qT)++[au.cells [(qe (ix r2 s2) .shared)]]).length 0)),(19,(.ay (r2.map jh) r2.length .shared)),(20,(hP (r2.length:Int))),(21,(hP s2))] p6→Q (.exit 4) p6 (((qT)++[au.cells [(qe (ix r2 s2) .shared)]])++[au.cells [(hP t.1),(p3 xZ (.own 2))]])) (L6:(Ic=il.full∨Ic=(.own 2))) {T:List I} (bX:eR (Ez false [0,1,2,1,1,2,2,2,8,3,111]) T=GG 133 [(0,(.bU [(hP t.1),(p3 t.2 .shared)])),(3,(.ay (s1.map (rv p1)) s1.length (.uniq 1))),(5,(.ptr (qT).length 0)),(6,(.ptr ((qT)++[au.cells [(qe (ix r2 s2) .shared)]]).length 0)),(9,(qe r3 .shared)),(10,(hP qg)),(19,(.ay (r2.map jh) r2.length .shared)),(20,(hP (r2.length:Int))),(21,(hP s2))]) (h:J3 r3 rV p_ qg qp=some v) :
  dC Tryz.prog La 83 0 none NM T (((qT)++[au.cells [(qe (ix r2 s2) .shared)]])++[au.cells [(hP t.1),(.ay (qp.flatMap p1) qp.length Ic)]]) Q:=by
 unfold NM;refine wp_loop bX ?_;refine .intro (fun m T H=>∃ (qg:Int) (qp:qb) (Ic:il),(Ic=il.full∨Ic=(.own 2))∧T=GG 133 [(0,(.bU [(hP t.1),(p3 t.2 .shared)])),(3,(.ay (s1.map (rv p1)) s1.length (.uniq 1))),(5,(.ptr (qT).length 0)),(6,(.ptr ((qT)++[au.cells [(qe (ix r2 s2) .shared)]]).length 0)),(9,(qe r3 .shared)),(10,(hP qg)),(19,(.ay (r2.map jh) r2.length .shared)),(20,(hP (r2.length:Int))),(21,(hP s2))]∧H=(((qT)++[au.cells [(qe (ix r2 s2) .shared)]])++[au.cells [(hP t.1),(.ay (qp.flatMap p1) qp.length Ic)]])∧J3 r3 rV m qg qp=some v) p_ ⟨qg,qp,_,L6,rfl,rfl,h⟩ ?_;clear h bX;rintro m T H ⟨qg,qp,Ic,L6,rfl,rfl,h⟩;cases m
 ·exact q7 h
 rename_i m;rw [J3.eq_2] at h;rcases L6 with rfl | rfl
 ·conv=>whnf
  refine bs h (fun qV h=>?_) fun qV h=>?_
  ·rw [qV];(conv=>whnf);refine DW (x:=au.cells [(hP t.1),(p3 qp .full)]) (by first | exact qi.h | rfl | (simp [sc,I.settle];done)) ?_
   (conv=>whnf);refine qk h id fun rK h=>?_;rw [rT hP r3 qg rK];(conv=>whnf);refine qk h id fun rj h=>?_;rw [rT hP r3 (w (qg+(1:Int))) rj];(conv=>whnf);obtain ⟨rA,h⟩:=qn h;refine ⟨by first | rfl | (simp;done) | exact Iv p1 _ qw _,by have:=rA;omega,by decide,rA,by first | rfl | (simp;done) | exact Iv p1 _ qw _,?_⟩
   erw [Jd p1 qp ((ix r3 qg),(ix r3 (w (qg+(1:Int)))))];(conv=>whnf);refine DW (x:=au.cells [(hP t.1),(p3 qp .full)]) (by first | exact qi.h | rfl | (simp [sc,I.settle];done)) ?_
   (conv=>whnf);rw [rk];exact ⟨m,sm m,(w (qg+(2:Int))),(qp++[((ix r3 qg),(ix r3 (w (qg+(1:Int)))))]),_,(.inr rfl),rfl,rfl,h⟩
  ·rw [qV];(conv=>whnf);exact L_ _ _ h ⟨rfl,rfl⟩
 ·conv=>whnf
  refine bs h (fun qV h=>?_) fun qV h=>?_
  ·rw [qV];(conv=>whnf);refine DW (x:=au.cells [(hP t.1),(p3 qp (.own 2))]) (by first | exact qi.h | rfl | (simp [sc,I.settle];done)) ?_
   (conv=>whnf);rw [rk];refine qk h id fun rK h=>?_;rw [rT hP r3 qg rK];(conv=>whnf);refine qk h id fun rj h=>?_;rw [rT hP r3 (w (qg+(1:Int))) rj];(conv=>whnf);obtain ⟨rA,h⟩:=qn h;refine ⟨by first | rfl | (simp;done) | exact Iv p1 _ qw _,by have:=rA;omega,rfl,rA,?_⟩
   erw [Jd p1 qp ((ix r3 qg),(ix r3 (w (qg+(1:Int)))))];(conv=>whnf);refine DW (x:=au.cells [(hP t.1),(p3 qp .shared)]) (by first | exact qi.h | rfl | (simp [sc,I.settle];done)) ?_
   (conv=>whnf);rw [rk];exact ⟨m,sm m,(w (qg+(2:Int))),(qp++[((ix r3 qg),(ix r3 (w (qg+(1:Int)))))]),_,(.inr rfl),rfl,rfl,h⟩
  ·rw [qV];(conv=>whnf);exact aeP _ _ h ⟨rfl,rfl⟩
theorem alh {r2:rf} {s2:Int} {dt:qb} {Me:qP→qb→Option qP} {Ip:qP} {Iz:qb} {rJ:Int} {t:qa} {v:qP} {Q:q'} {bQ:au} {qT:List au} {NV:List au} (aeQ:∀ (xZ:qP) (oi:qb) (q_:List au) (p6:List I),Me xZ oi=some v→qU 133 [(0,(.bU [(hP t.1),(p3 t.2 .shared)])),(3,(.ay (xZ.map (rv p1)) xZ.length (.uniq 1))),(13,(p3 oi (.uniq 2))),(19,(.ay (r2.map jh) r2.length .shared)),(20,(hP (r2.length:Int))),(21,(hP s2))] p6→Q (.exit 6) p6 (q_)) {T:List I} (bX:eR (Ez false [0,1,2,1,1,1,7,1,5,3,75,3,33]) T=GG 133 [(0,(.bU [(hP t.1),(p3 t.2 .shared)])),(3,(.ay (Ip.map (rv p1)) Ip.length (.uniq 1))),(5,(.ptr (qT).length 0)),(13,(p3 Iz (.uniq 2))),(19,(.ay (r2.map jh) r2.length .shared)),(20,(hP (r2.length:Int))),(21,(hP s2)),(97,(p3 dt .shared)),(98,(hP (dt.length:Int))),(99,(hP rJ))]) (h:LO r2 s2 dt Me p_ Ip Iz rJ=some v) :
  dC Tryz.prog La 83 0 none RG T ((((qT)++[au.cells [(qe (ix r2 s2) .shared)]])++[bQ])++NV) Q:=by
 unfold RG;refine wp_loop bX ?_;refine .intro (fun m T H=>∃ (Ip:qP) (Iz:qb) (rJ:Int) (NV:List au),T=GG 133 [(0,(.bU [(hP t.1),(p3 t.2 .shared)])),(3,(.ay (Ip.map (rv p1)) Ip.length (.uniq 1))),(5,(.ptr (qT).length 0)),(13,(p3 Iz (.uniq 2))),(19,(.ay (r2.map jh) r2.length .shared)),(20,(hP (r2.length:Int))),(21,(hP s2)),(97,(p3 dt .shared)),(98,(hP (dt.length:Int))),(99,(hP rJ))]∧H=((((qT)++[au.cells [(qe (ix r2 s2) .shared)]])++[bQ])++NV)∧LO r2 s2 dt Me m Ip Iz rJ=some v) p_ ⟨Ip,Iz,rJ,NV,rfl,rfl,h⟩ ?_;clear h bX;rintro m T H ⟨Ip,Iz,rJ,NV,rfl,rfl,h⟩;cases m
 ·exact q7 h
 rename_i m;rw [LO.eq_2] at h;conv=>whnf
 refine bs h (fun G9 h=>?_) fun G9 h=>?_
 ·rw [G9];conv=>whnf
  refine qk h id fun Jk h=>?_;rw [qW p1 2 qw dt rJ Jk];conv=>whnf
  refine DW (x:=au.cells [(hP (0:Int)),(hP (0:Int))]) (by first | exact qi.h | rfl | (simp [sc,I.settle];done)) ?_
  conv=>whnf
  rw [rk];refine DW (x:=au.cells [(hP (ix dt rJ).1),(hP (ix dt rJ).2)]) (by first | exact qi.h | rfl | (simp [sc,I.settle];done)) ?_
  conv=>whnf
  refine DW (x:=au.cells [(qe (ix r2 s2) .shared)]) (by first | exact qi.h | rfl | (simp [sc,I.settle];done)) ?_
  conv=>whnf
  refine bs h (fun JP h=>?_) fun JP h=>?_
  ·rw [JP];(conv=>whnf);refine DW (x:=au.cells [(qe (ix r2 s2) .shared)]) (by first | exact qi.h | rfl | (simp [sc,I.settle];done)) ?_
   (conv=>whnf);refine DW (x:=au.cells [(hP (ix dt rJ).1),(hP (ix dt rJ).2)]) (by first | exact qi.h | rfl | (simp [sc,I.settle];done)) ?_
   (conv=>whnf);refine qk h id fun Jl h=>?_;rw [rT hP (ix r2 s2) ((ix dt rJ).1) Jl];(conv=>whnf);refine DW (x:=au.cells [(hP (ix dt rJ).1),(hP (ix dt rJ).2)]) (by first | exact qi.h | rfl | (simp [sc,I.settle];done)) ?_
   (conv=>whnf);obtain ⟨Kf,h⟩:=qn h;refine ⟨by first | rfl | (simp;done) | exact Iv p1 _ qw _,by have:=Kf;omega,rfl,Kf,?_⟩
   erw [Jd p1 Iz ((ix (ix r2 s2) ((ix dt rJ).1)),(ix dt rJ).2)];(conv=>whnf);exact ⟨m,sm m,Ip,(Iz++[((ix (ix r2 s2) ((ix dt rJ).1)),(ix dt rJ).2)]),(w (rJ+(1:Int))),_,rfl,(Wa _ _ _),h⟩
  ·rw [JP];(conv=>whnf);obtain ⟨IZ,h⟩:=qn h;refine ⟨by first | rfl | simp,by have:=IZ;omega,rfl,IZ,?_⟩
   erw [Lb (rv p1) Ip Iz];(conv=>whnf);exact ⟨m,sm m,(Ip++[Iz]),[],(w (rJ+(1:Int))),_,rfl,(Wa _ _ _),h⟩
 ·rw [G9];conv=>whnf
  exact aeQ _ _ _ _ h ⟨rfl,rfl⟩
theorem NH {r2:rf} {s1:qP} {s2:Int} {Oy:qP→Option qP} {dt:qb} {t:qa} {v:qP} {Q:q'} {bQ:au} {p6:List I} {qT:List au} (Xm:∀ (FW:qP) (q_:List au) (p6:List I),Oy FW=some v→qU 133 [(0,(.bU [(hP t.1),(p3 t.2 .shared)])),(3,(.ay (FW.map (rv p1)) FW.length (.uniq 1))),(19,(.ay (r2.map jh) r2.length .shared)),(20,(hP (r2.length:Int))),(21,(hP s2))] p6→Q .normal p6 (q_)) (qh:qU 133 [(0,(.bU [(hP t.1),(p3 t.2 .shared)])),(3,(.ay (s1.map (rv p1)) s1.length (.uniq 1))),(5,(.ptr (qT).length 0)),(11,(p3 dt .shared)),(19,(.ay (r2.map jh) r2.length .shared)),(20,(hP (r2.length:Int))),(21,(hP s2))] p6) (h:LN r2 s1 s2 Oy dt=some v) :
  dC Tryz.prog La 83 0 none RH p6 (((qT)++[au.cells [(qe (ix r2 s2) .shared)]])++[bQ]) Q:=by
 obtain ⟨qS,rfl⟩:=qh.ex;unfold LN at h;unfold RH;obtain ⟨NZ,Hq⟩:∃ c,RG=c:=⟨_,rfl⟩;rw [Hq];conv=>whnf
 subst Hq;refine ajZ ?_;refine alh ?_ (by exact rfl) h;intro xZ oi q_ p6 h qh;obtain ⟨qS,rfl⟩:=qh.ex;conv=>whnf
 refine bs h (fun Ii h=>?_) fun Ii h=>?_
 ·rw [Ii];conv=>whnf
  obtain ⟨JC,h⟩:=qn h;refine ⟨by first | rfl | simp,by have:=JC;omega,rfl,JC,?_⟩
  erw [Lb (rv p1) xZ oi];conv=>whnf
  exact Xm _ _ _ h ⟨rfl,rfl⟩
 ·rw [Ii];conv=>whnf
  exact Xm _ _ _ h ⟨rfl,rfl⟩
theorem alg {Io:p5} {rV:qb→Option qP} {I4:Int} {JZ:qb} {t:qa} {r2:rf} {s1:qP} {s2:Int} {v:qP} {Q:q'}  {qT:List au} (L_:∀ (NN:qb) (p6:List I),rV NN=some v→qU 133 [(0,(.bU [(hP t.1),(p3 t.2 .shared)])),(3,(.ay (s1.map (rv p1)) s1.length (.uniq 1))),(5,(.ptr (qT).length 0)),(6,(.ptr ((qT)++[au.cells [(qe (ix r2 s2) .shared)]]).length 0)),(19,(.ay (r2.map jh) r2.length .shared)),(20,(hP (r2.length:Int))),(21,(hP s2))] p6→Q (.exit 4) p6 (((qT)++[au.cells [(qe (ix r2 s2) .shared)]])++[au.cells [(hP t.1),(p3 NN (.own 2))]])) {T:List I} (bX:eR (Ez false [0,1,2,1,1,2,2,2,8,3,111]) T=GG 133 [(0,(.bU [(hP t.1),(p3 t.2 .shared)])),(3,(.ay (s1.map (rv p1)) s1.length (.uniq 1))),(5,(.ptr (qT).length 0)),(6,(.ptr ((qT)++[au.cells [(qe (ix r2 s2) .shared)]]).length 0)),(9,(qe Io .shared)),(10,(hP I4)),(19,(.ay (r2.map jh) r2.length .shared)),(20,(hP (r2.length:Int))),(21,(hP s2))]) (h:J3 Io rV p_ I4 JZ=some v) :
  dC Tryz.prog La 83 0 none NM T (((qT)++[au.cells [(qe (ix r2 s2) .shared)]])++[au.cells [(hP t.1),(p3 JZ (.own 2))]]) Q:=by
 unfold NM;refine wp_loop bX ?_;refine .intro (fun m T H=>∃ (I4:Int) (JZ:qb),T=GG 133 [(0,(.bU [(hP t.1),(p3 t.2 .shared)])),(3,(.ay (s1.map (rv p1)) s1.length (.uniq 1))),(5,(.ptr (qT).length 0)),(6,(.ptr ((qT)++[au.cells [(qe (ix r2 s2) .shared)]]).length 0)),(9,(qe Io .shared)),(10,(hP I4)),(19,(.ay (r2.map jh) r2.length .shared)),(20,(hP (r2.length:Int))),(21,(hP s2))]∧H=(((qT)++[au.cells [(qe (ix r2 s2) .shared)]])++[au.cells [(hP t.1),(p3 JZ (.own 2))]])∧J3 Io rV m I4 JZ=some v) p_ ⟨I4,JZ,rfl,rfl,h⟩ ?_;clear h bX;rintro m T H ⟨I4,JZ,rfl,rfl,h⟩;cases m
 ·exact q7 h
 rename_i m;rw [J3.eq_2] at h;conv=>whnf
 refine bs h (fun JR h=>?_) fun JR h=>?_
 ·rw [JR];conv=>whnf
  refine DW (x:=au.cells [(hP t.1),(p3 JZ (.own 2))]) (by first | exact qi.h | rfl | (simp [sc,I.settle];done)) ?_
  conv=>whnf
  rw [rk];refine qk h id fun SK h=>?_;rw [rT hP Io I4 SK];conv=>whnf
  refine qk h id fun aeo h=>?_;rw [rT hP Io (w (I4+(1:Int))) aeo];conv=>whnf
  obtain ⟨Xc,h⟩:=qn h;refine ⟨by first | rfl | (simp;done) | exact Iv p1 _ qw _,by have:=Xc;omega,rfl,Xc,?_⟩
  erw [Jd p1 JZ ((ix Io I4),(ix Io (w (I4+(1:Int)))))];conv=>whnf
  refine DW (x:=au.cells [(hP t.1),(p3 JZ .shared)]) (by first | exact qi.h | rfl | (simp [sc,I.settle];done)) ?_
  conv=>whnf
  rw [rk];exact ⟨m,sm m,(w (I4+(2:Int))),(JZ++[((ix Io I4),(ix Io (w (I4+(1:Int)))))]),rfl,rfl,h⟩
 ·rw [JR];conv=>whnf
  exact L_ _ _ h ⟨rfl,rfl⟩
theorem ald {t:qa} {r2:rf} {p9:qP→Option qP} {s1:qP} {s2:Int} {v:qP} {Q:q'}   (q8:∀ (LQ:qP) (q_:List au) (p6:List I),p9 LQ=some v→qU 133 [(3,(.ay (LQ.map (rv p1)) LQ.length (.uniq 1)))] p6→Q (.exit 0) p6 (q_)) {T:List I} (bX:eR (Ez false [0,1,2,1,15,3,111]) T=GG 133 [(0,(.bU [(hP t.1),(p3 t.2 .shared)])),(3,(.ay (s1.map (rv p1)) s1.length (.uniq 1))),(19,(.ay (r2.map jh) r2.length .shared)),(20,(hP (r2.length:Int))),(21,(hP s2))]) (h:I' t r2 p9 p_ s1 s2=some v) :
  dC Tryz.prog La 83 0 none RI T [] Q:=by
 unfold RI;obtain ⟨Ho,qz⟩:∃ c,RF=c:=⟨_,rfl⟩;rw [qz];obtain ⟨J8,rm⟩:∃ c,NM=c:=⟨_,rfl⟩;rw [rm];obtain ⟨Wj,Jh⟩:∃ c,RH=c:=⟨_,rfl⟩;rw [Jh];refine wp_loop bX ?_;refine .intro (fun m T H=>∃ (s1:qP) (s2:Int) (qT:List au),T=GG 133 [(0,(.bU [(hP t.1),(p3 t.2 .shared)])),(3,(.ay (s1.map (rv p1)) s1.length (.uniq 1))),(19,(.ay (r2.map jh) r2.length .shared)),(20,(hP (r2.length:Int))),(21,(hP s2))]∧H=(qT)∧I' t r2 p9 m s1 s2=some v) p_ ⟨s1,s2,[],rfl,rfl,h⟩ ?_;clear h bX;rintro m T H ⟨s1,s2,qT,rfl,rfl,h⟩;cases m
 ·exact q7 h
 rename_i m;rw [I'.eq_2] at h;conv=>whnf
 refine bs h (fun qf h=>?_) fun qf h=>?_
 ·rw [qf];conv=>whnf
  refine qk h id fun qo h=>?_;rw [rT jh r2 s2 qo];conv=>whnf
  refine DW (x:=au.cells [(.ay [] 0 .full)]) (by first | exact qi.h | rfl | (simp [sc,I.settle];done)) ?_
  conv=>whnf
  rw [rk];refine DW (x:=au.cells [(hP (0:Int)),(.ay [] 0 .full)]) (by first | exact qi.h | rfl | (simp [sc,I.settle];done)) ?_
  conv=>whnf
  rw [rk];refine DW (x:=au.cells [(qe (ix r2 s2) .shared)]) (by first | exact qi.h | rfl | (simp [sc,I.settle];done)) ?_
  conv=>whnf
  subst qz;refine ale ?_ ?_ (.inl rfl) (by exact rfl) h
  ·intro xZ p6 h qh;obtain ⟨qS,rfl⟩:=qh.ex;(conv=>whnf);refine DW (x:=au.cells [(qe (ix r2 s2) .shared)]) (by first | exact qi.h | rfl | (simp [sc,I.settle];done)) ?_
   (conv=>whnf);obtain ⟨r3,q5,h⟩:=qd h;refine ⟨qj.pl,_,U4 q5,?_⟩;(conv=>whnf);subst rm;refine alf ?_ ?_ (.inl rfl) (by exact rfl) h
   ·intro xZ p6 h qh;obtain ⟨qS,rfl⟩:=qh.ex;(conv=>whnf);obtain ⟨r4,rW,h⟩:=qd h;refine ⟨_,_,call7 (l:=[(hP t.1),(p3 xZ .full)]) (cs:=[(hP t.1),(p3 xZ .full)]) (sr _) (by first | exact qi.h | rfl | (simp [sc,I.settle];done)) rfl (qO (pY rfl (pY (qL (fun _=>(pY rfl (pY rfl rfl))) _ _ _) rfl))) (ds:=[(hP t.1),(p3 xZ .shared)]) rfl (UR rW),?_⟩
    rw [rk];(conv=>whnf);obtain ⟨qC,rH,h⟩:=qd h;refine ⟨_,_,IU (cs:=[(p3 r4 .shared),(.func 105 [] [(.bU [(qe (ix r2 s2) .shared)])])]) (bs:=[(p3 r4 .shared),(.func 105 [] [(.bU [(qe (ix r2 s2) .shared)])])]) (qX rfl (qX (Kp ry (qX (I5 (cs:=[(qe (ix r2 s2) .shared)]) (by first | exact qi.h | rfl | (simp [sc,I.settle];done)) rfl) ry)) ry)) (by rfl) (by exact (pY (qL (fun _=>(pY rfl (pY rfl rfl))) _ _ _) (pY (JX rfl (pY (qO (pY (rp (fun _=>rfl) _ _ _) rfl)) rfl)) rfl))) (Rd ⟨(pY (qO (pY (rp (fun _=>rfl) _ _ _) rfl)) rfl),by simp⟩ (fun _ _ a0=>US a0) rH) rfl,?_⟩
    (conv=>whnf);refine bs h (fun q9 h=>?_) fun q9 h=>?_
    ·rw [q9];(conv=>whnf);refine qk h id fun GM h=>?_;erw [QQ p1 2 qw r4 (w (qC+(1:Int))) GM];(conv=>whnf);refine qk h id fun ru h=>?_;erw [QP p1 2 qw r4 (w (qC+(1:Int))) ru];(conv=>whnf);obtain ⟨qs,Hr,h⟩:=qd h;refine ⟨(pY (Ty (pY (qL (fun _=>(pY rfl (pY rfl rfl))) _ _ _) (pY (qL (fun _=>(pY rfl (pY rfl rfl))) _ _ _) rfl))) rfl),_,UT Hr,Kz,?_⟩;(conv=>whnf);subst Jh;refine NH ?_ (by exact ⟨rfl,rfl⟩) h;intro FW q_ p6 h qh;obtain ⟨qS,rfl⟩:=qh.ex;(conv=>whnf);exact ⟨m,sm m,FW,(w (s2+(1:Int))),_,rfl,rfl,h⟩
    ·rw [q9];(conv=>whnf);subst Jh;refine NH ?_ (by exact ⟨rfl,rfl⟩) h;intro FW q_ p6 h qh;obtain ⟨qS,rfl⟩:=qh.ex;(conv=>whnf);exact ⟨m,sm m,FW,(w (s2+(1:Int))),_,rfl,rfl,h⟩
   ·intro xZ p6 h qh;obtain ⟨qS,rfl⟩:=qh.ex;(conv=>whnf);obtain ⟨qK,KD,h⟩:=qd h;refine ⟨_,_,call7 (l:=[(hP t.1),(p3 xZ (.own 2))]) (cs:=[(hP t.1),(p3 xZ .shared)]) (sr _) (by first | exact qi.h | rfl | (simp [sc,I.settle];done)) rfl (qO (pY rfl (pY (qL (fun _=>(pY rfl (pY rfl rfl))) _ _ _) rfl))) (ds:=[(hP t.1),(p3 xZ .shared)]) rfl (UR KD),?_⟩
    rw [rk];(conv=>whnf);obtain ⟨rE,Oj,h⟩:=qd h;refine ⟨_,_,IU (cs:=[(p3 qK .shared),(.func 105 [] [(.bU [(qe (ix r2 s2) .shared)])])]) (bs:=[(p3 qK .shared),(.func 105 [] [(.bU [(qe (ix r2 s2) .shared)])])]) (qX rfl (qX (Kp ry (qX (I5 (cs:=[(qe (ix r2 s2) .shared)]) (by first | exact qi.h | rfl | (simp [sc,I.settle];done)) rfl) ry)) ry)) (by rfl) (by exact (pY (qL (fun _=>(pY rfl (pY rfl rfl))) _ _ _) (pY (JX rfl (pY (qO (pY (rp (fun _=>rfl) _ _ _) rfl)) rfl)) rfl))) (Rd ⟨(pY (qO (pY (rp (fun _=>rfl) _ _ _) rfl)) rfl),by simp⟩ (fun _ _ a0=>US a0) Oj) rfl,?_⟩
    (conv=>whnf);refine bs h (fun JQ h=>?_) fun JQ h=>?_
    ·rw [JQ];(conv=>whnf);refine qk h id fun KE h=>?_;erw [QQ p1 2 qw qK (w (rE+(1:Int))) KE];(conv=>whnf);refine qk h id fun Ol h=>?_;erw [QP p1 2 qw qK (w (rE+(1:Int))) Ol];(conv=>whnf);obtain ⟨Lx,Om,h⟩:=qd h;refine ⟨(pY (Ty (pY (qL (fun _=>(pY rfl (pY rfl rfl))) _ _ _) (pY (qL (fun _=>(pY rfl (pY rfl rfl))) _ _ _) rfl))) rfl),_,UT Om,Kz,?_⟩;(conv=>whnf);subst Jh;refine NH ?_ (by exact ⟨rfl,rfl⟩) h;intro Vg q_ p6 h qh;obtain ⟨qS,rfl⟩:=qh.ex;(conv=>whnf);exact ⟨m,sm m,Vg,(w (s2+(1:Int))),_,rfl,rfl,h⟩
    ·rw [JQ];(conv=>whnf);subst Jh;refine NH ?_ (by exact ⟨rfl,rfl⟩) h;intro Vg q_ p6 h qh;obtain ⟨qS,rfl⟩:=qh.ex;(conv=>whnf);exact ⟨m,sm m,Vg,(w (s2+(1:Int))),_,rfl,rfl,h⟩
  ·intro xZ p6 h qh;obtain ⟨qS,rfl⟩:=qh.ex;(conv=>whnf);refine DW (x:=au.cells [(qe (ix r2 s2) .shared)]) (by first | exact qi.h | rfl | (simp [sc,I.settle];done)) ?_
   (conv=>whnf);obtain ⟨Io,KF,h⟩:=qd h;refine ⟨qj.pl,_,U4 KF,?_⟩;(conv=>whnf);subst rm;refine alg ?_ (by exact rfl) h;intro NN p6 h qh;obtain ⟨qS,rfl⟩:=qh.ex;(conv=>whnf);obtain ⟨Lw,aep,h⟩:=qd h;refine ⟨_,_,call7 (l:=[(hP t.1),(p3 NN (.own 2))]) (cs:=[(hP t.1),(p3 NN .shared)]) (sr _) (by first | exact qi.h | rfl | (simp [sc,I.settle];done)) rfl (qO (pY rfl (pY (qL (fun _=>(pY rfl (pY rfl rfl))) _ _ _) rfl))) (ds:=[(hP t.1),(p3 NN .shared)]) rfl (UR aep),?_⟩
   rw [rk];(conv=>whnf);obtain ⟨Nf,aeq,h⟩:=qd h;refine ⟨_,_,IU (cs:=[(p3 Lw .shared),(.func 105 [] [(.bU [(qe (ix r2 s2) .shared)])])]) (bs:=[(p3 Lw .shared),(.func 105 [] [(.bU [(qe (ix r2 s2) .shared)])])]) (qX rfl (qX (Kp ry (qX (I5 (cs:=[(qe (ix r2 s2) .shared)]) (by first | exact qi.h | rfl | (simp [sc,I.settle];done)) rfl) ry)) ry)) (by rfl) (by exact (pY (qL (fun _=>(pY rfl (pY rfl rfl))) _ _ _) (pY (JX rfl (pY (qO (pY (rp (fun _=>rfl) _ _ _) rfl)) rfl)) rfl))) (Rd ⟨(pY (qO (pY (rp (fun _=>rfl) _ _ _) rfl)) rfl),by simp⟩ (fun _ _ a0=>US a0) aeq) rfl,?_⟩
   (conv=>whnf);refine bs h (fun SL h=>?_) fun SL h=>?_
   ·rw [SL];(conv=>whnf);refine qk h id fun aer h=>?_;erw [QQ p1 2 qw Lw (w (Nf+(1:Int))) aer];(conv=>whnf);refine qk h id fun aes h=>?_;erw [QP p1 2 qw Lw (w (Nf+(1:Int))) aes];(conv=>whnf);obtain ⟨Qx,aet,h⟩:=qd h;refine ⟨(pY (Ty (pY (qL (fun _=>(pY rfl (pY rfl rfl))) _ _ _) (pY (qL (fun _=>(pY rfl (pY rfl rfl))) _ _ _) rfl))) rfl),_,UT aet,Kz,?_⟩;(conv=>whnf);subst Jh;refine NH ?_ (by exact ⟨rfl,rfl⟩) h;intro Vf q_ p6 h qh;obtain ⟨qS,rfl⟩:=qh.ex;(conv=>whnf);exact ⟨m,sm m,Vf,(w (s2+(1:Int))),_,rfl,rfl,h⟩
   ·rw [SL];(conv=>whnf);subst Jh;refine NH ?_ (by exact ⟨rfl,rfl⟩) h;intro Vf q_ p6 h qh;obtain ⟨qS,rfl⟩:=qh.ex;(conv=>whnf);exact ⟨m,sm m,Vf,(w (s2+(1:Int))),_,rfl,rfl,h⟩
 ·rw [qf];conv=>whnf
  exact q8 _ _ _ h ⟨rfl,rfl⟩
theorem ali {t:qa} {v:qP} (h:Pw t=some v):ql 83 [(.bU [(hP t.1),(.ay (t.2.flatMap p1) t.2.length .shared)])] (.ay (v.map (rv p1)) v.length .shared):=by
 refine qM dI agx rfl (rp (fun _=>(qL (fun _=>(pY rfl (pY rfl rfl))) _ _ _)) _ _ _) fun Q bl=>?_;have jw:qu [.tmp 2] Q (fun v=>(.ay (v.map (rv p1)) v.length .shared)) v:=fun T H bI=>bl _ T H bI;unfold Pw at h;unfold abD;obtain ⟨Wk,Lg⟩:∃ c,RI=c:=⟨_,rfl⟩;rw [Lg];conv=>whnf
 obtain ⟨r1,eU,h⟩:=qd h;refine ⟨qj.pl,_,aaH eU,?_⟩;conv=>whnf
 obtain ⟨r2,fk,h⟩:=qd h;refine ⟨qj.pl,_,Q' fk,?_⟩;conv=>whnf
 subst Lg;refine ald ?_ (by exact rfl) h;intro LQ q_ p6 h qh;obtain ⟨qS,rfl⟩:=qh.ex;conv=>whnf
 exact p7 h jw rfl rfl
end Go.Proofs.YtfakoboiahbhaaaGreat.Ab


namespace Go.Proofs.YtfakoboiahbhaaaGreat.Ab
open Go
theorem aj5 {x y:Row} (h:0<x.length+y.length) (af:x.length+y.length≤24):Nq [x,y]=some (x++y):=by
 have fR:ix [x,y] (0:Int)=x:=rfl;have e1:ix [x,y] (1:Int)=y:=rfl;have w0:w ((0:Int)+1)=1:=by decide
 have bC:w ((1:Int)+1)=2:=by decide
 have ak:([x,y]:List Row).length=2:=rfl;rw [Nq,show p_=18446744073709551613+3 from rfl,LD,ak,if_pos (by decide),qc (by decide),fR,I8 (n:=(0:Int)+(x.length:Int)) (by omega),if_neg (by simp),w0,LD,ak,if_pos (by decide),qc (by decide),e1,I8 (n:=(0:Int)+(x.length:Int)+(y.length:Int)) (by omega),if_neg (by simp;omega),bC,LD,ak,if_neg (by decide),UX,qc ⟨rfl,by omega,by omega⟩,sb,LF,ak,if_pos (by decide),qc (by decide),fR,qc (by simp;omega),w0,LF,ak,if_pos (by decide),qc (by decide),e1,qc (by simp;omega),bC,LF,ak,if_neg (by decide)];rfl
section
variable {b t:p4} {S:List Int} {r2:List (List Int)} {s2:Int}
theorem aaN (he:ix r2 s2=S) (cm:q6 t S) (ak:S.length≤1000) {k:Row→Option (List Row)}:∀ (m i:Nat) (z:Int),z=i→i≤S.length→S.length-i<m→MF t r2 s2 k m z ((S.take i).map (ix t.2))=k (S.map (ix t.2))
 | 0,_,_,_,_,h=>absurd h (by omega)
 | m+1,i,_,rfl,hi,hm=>by
   rw [MF,he];by_cases h:(i:Int)<(S.length:Int)
   ·(have ra:i<S.length:=by omega);have ai:=cm _ (sD ra);rw [if_pos (decide_eq_true h),qc ⟨by omega,h⟩,re ra,qc ai,qc (by simp;omega),rz i (by omega)];(have e:(S.take i).map (ix t.2)++[ix t.2 S[i]]=(S.take (i+1)).map (ix t.2):=by rw [LB ra,td];rfl);rw [e];exact aaN he cm ak m (i+1) _ rfl (by omega) (by omega)
   ·rw [if_neg (by simpa using h),show i=S.length by omega,tQ]
theorem aaO {o:List Int} (aq:o.length≤1000) {k:Row→Option (List Row)}:∀ (m i:Nat) (z:Int) (acc:Row),z=i→acc.length+o.length≤10000+i→o.length+2-i<m→i≤o.length+1→acc.length≤10000+i→J3 o k m z acc=k (acc++G_ (o.drop i))
 | 0,_,_,_,_,_,h,_,_=>absurd h (by omega)
 | m+1,i,_,acc,rfl,cd,hm,hi,alT=>by
   rw [J3,rz i (by omega)];by_cases h:((i+1:Nat):Int)<(o.length:Int)
   ·(have ad:i<o.length:=by omega);(have af:i+1<o.length:=by omega);rw [if_pos (decide_eq_true h),qc ⟨by omega,by omega⟩,qc ⟨by omega,h⟩,qc (by omega),re ad,re af,I8 (n:=(i:Int)+2) (by omega),aaO aq m (i+2) _ _ (by omega) (by simp;omega) (by omega) (by omega) (by simp;omega)];rw [sW ad,sW af,G_];simp
   ·rw [if_neg (by simpa using h)]
    have:G_ (o.drop i)=[]:=by
     have ak:(o.drop i).length≤1:=by simp;omega
     match o.drop i,ak with
     | [],_=>rfl
     | [_],_=>rfl
     | _::_::_,h=>simp at h
    rw [this,sP]
theorem U7 (he:ix r2 s2=S) {dt:Row} {T:p4} (aw:∀ p∈dt,Im T p) (ak:dt.length≤1000) {k:List Row→Option (List Row)}:∀ (m i:Nat) (z:Int) (out:List Row) (own:Row),z=i→i≤dt.length→dt.length-i<m→out.length≤1000+i→own.length≤i →
  LO r2 s2 dt (fun xZ oi=>if (decide ((0:Int)<(oi.length:Int)))=true then p8 ((xZ.length+1)*24≤140737488355328) <| k (xZ++[oi]) else k xZ) m out own z=k (out++rN S own (dt.drop i))
 | 0,_,_,_,_,_,_,h,_,_=>absurd h (by omega)
 | m+1,i,_,out,own,rfl,hi,hm,ad,af=>by
   rw [LO,he];by_cases h:(i:Int)<(dt.length:Int)
   ·(have ra:i<dt.length:=by omega);have aC:=aw _ (sD ra);rw [if_pos (decide_eq_true h),qc ⟨by omega,h⟩,re ra,sW ra,rN,rz i (by omega)];by_cases aU:dt[i].1<(S.length:Int)
    ·rw [if_pos (decide_eq_true aU),if_pos aU,qc ⟨aC.1,aU⟩,qc (by omega)];exact U7 he aw ak m (i+1) _ out _ rfl (by omega) (by omega) (by omega) (by simp;omega)
    ·rw [if_neg (by simpa using aU),if_neg aU,qc (by omega),U7 he aw ak m (i+1) _ (out++[own]) [] rfl (by omega) (by omega) (by simp;omega) (by simp)];simp
   ·rw [if_neg (by simpa using h),List.drop_eq_nil_of_le (by omega),rN];by_cases aS:0<own.length
    ·rw [if_pos (by simpa using aS),if_pos aS,qc (by omega)]
    ·rw [if_neg (by simpa using aS),if_neg aS,sP]
theorem aln {s:List (Int×Int)} {f:Int×Int→Option Bool} {p:Int×Int→Bool} (aQ:∀ x∈s,f x=some (p x)) (ai:s.length≤140737488355328):LP s f=some (posOf p s 0):=by
 have:=U_ aQ ai p_ 0 0 rfl (sr _) (rn (by omega));rw [sQ] at this;rw [LP,this]
def JW (b:p4) (r:List Int):Nat:=max 1 ((q2 b r).length / 2)
theorem agK (r:List Int):JW b r≤3:=by
 have aq:(q2 b r).length≤6:=sH (tq _ _) (by rw [rF];omega);unfold JW;omega
def IV (b:p4):Nat:=((parts b).map (JW b)).sum
theorem aaM (pZ:qm b) {P:List (List Int)} (B_:qZ b (upto b.2.length) P) {k:List Row→Option (List Row)}:∀ (m i:Nat) (z:Int) (out:List Row),z=i→i≤P.length→P.length-i<m→RowsOf b (P.take i).flatten out→(∀ r∈out,r≠[])→out.length=((P.take i).map (JW b)).sum →
  ∃ GN,I' b P k m out z=k GN∧RowsOf b P.flatten GN∧(∀ r∈GN,r≠[])∧GN.length=(P.map (JW b)).sum
 | 0,_,_,_,_,_,h,_,_,_=>absurd h (by omega)
 | m+1,i,_,out,rfl,hi,hm,jw,bM,hlen=>by
   have dz:=pZ.len;have bV:=pZ.f6;have SR:=B_.few Kr;rw [I'];by_cases h:(i:Int)<(P.length:Int)
   ·(have ra:i<P.length:=by omega);obtain ⟨S,P6⟩:∃ S,S=P[i]:=⟨_,rfl⟩;(have P7:S∈P:=by rw [P6];exact sD ra);(have he:ix P (i:Int)=S:=by rw [re ra,P6]);have Oi:q6 b S:=B_.Mb Kr S P7;(have aef:S.Nodup:=(B_.so S P7).imp fun h e=>by omega);have aee:S.length≤b.2.length:=KM aef Oi;have Kc:=B_.ne S P7;obtain ⟨l,a,al,bB,aO⟩:=round_part pZ Oi (by omega) Kc (B_.adz P7);have SD:=X6 pZ Oi Kc bB aO;have aq:(q2 b S).length≤6:=sH (tq _ _) (by rw [rF];omega);have Gb:l.length=S.length+(q2 b S).length / 2:=by
     have:=bB.upto.length_eq
     rwa [sZ,rF,Nk] at this
    (have aeU:0<l.length:=by have:=uc.2 Kc;omega);have afd:∀ l:List (List Int),(l.map (JW b)).sum≤3*l.length:=fun l=>by
     induction l with
     | nil=>simp
     | cons x l a_=>rw [ss,uU,sI];have:=agK (b:=b) x;omega
    have CT:out.length≤30:=by
     have:=afd (P.take i);rw [sV] at this;omega
    have Kj:∃ GN,I' b P k m (out++rN S [] (Kn S l)) (w ((i:Int)+1))=k GN∧RowsOf b P.flatten GN∧(∀ r∈GN,r≠[])∧GN.length=(P.map (JW b)).sum:=by
     rw [rz i (by omega)];refine aaM pZ B_ m (i+1) _ _ rfl (by omega) (by omega) ?_ ?_ ?_
     ·rw [LB ra,vQ,←P6];simpa using jw.app SD.toRowsOf
     ·intro r aj;rcases sS.1 aj with aj | aj
      ·exact bM r aj
      ·exact SD.ne r aj
     ·rw [su,hlen,SD.len,LB ra,td,List.sum_append,←P6];simp [JW]
    have aw:∀ (g4:Nat) (l':Row),l'=Kn S l→(∀ p∈l',Im (rQ b S) p)→l'.length≤1000→LN P out (i:Int) (fun FW=>I' b P k m FW (w ((i:Int)+1))) l'=I' b P k m (out++rN S [] (Kn S l)) (w ((i:Int)+1)):=fun _ l' e dA e_=>by
     rw [LN];refine (U7 (T:=rQ b S) (k:=fun FW=>I' b P k m FW (w ((i:Int)+1))) he dA e_ p_ 0 0 out [] rfl (by omega) (rn (by omega)) (by omega) (by simp)).trans ?_;rw [sQ,e]
    rw [if_pos (decide_eq_true h),qc ⟨by omega,h⟩]
    have e_:=aaN (t:=b) (r2:=P) (s2:=(i:Int)) (S:=S) he Oi (by omega) (k:=fun xZ =>
      (Mz b (ix P (i:Int))).bind fun r3 =>
      J3 r3 (fun xZ =>
        (Mi (b.1,xZ)).bind fun r4 =>
        (LP r4 (fun qA=>Pe qA (ix P (i:Int)))).bind fun qC =>
        if (decide ((0:Int)≤qC))=true then
         p8 (0≤(w (qC+(1:Int)))∧(w (qC+(1:Int)))≤(r4.length:Int)) <|
         p8 (0≤(w (qC+(1:Int)))∧(w (qC+(1:Int)))≤(r4.length:Int)) <|
         (Nq [(r4.drop (w (qC+(1:Int))).toNat),(r4.take (w (qC+(1:Int))).toNat)]).bind fun qs =>
         LN P out (i:Int) (fun FW =>
           I' b P k m FW (w ((i:Int)+(1:Int)))) qs
        else
         LN P out (i:Int) (fun FW =>
           I' b P k m FW (w ((i:Int)+(1:Int)))) r4) p_ (0:Int) xZ) p_ 0 0 rfl (by omega) (rn (by omega))
    rw [tg,tz] at e_;rw [e_,he,aaD pZ Oi (by omega),sb,aaO (by omega) p_ 0 0 _ rfl (by simp;omega) (rn (by omega)) (by omega) (by simp;omega),sQ];have nx:Mi (b.1,S.map (ix b.2)++G_ (q2 b S))=some l:=al;rw [nx,sb,aln (p:=fun p=>!G0 S p) (fun p _=>by rw [Pe];unfold G0;congr 1;by_cases ao:p.1<(S.length:Int) <;> simp [ao] <;> omega) (by omega),sb];rcases Tv (fun p=>!G0 S p) l 0 with ⟨ad,af⟩ | ⟨dK,q,kI,aeR,af,aG⟩
    ·rw [ad,if_neg (by decide),aw 0 l (by unfold Kn;rw [ad];rfl) bB.ok (by omega)];exact Kj
    ·(have cC:dK.length+1≤l.length:=by rw [aeR];simp);have afa:Kn S l=l.drop (dK.length+1)++l.take (dK.length+1):=by
      unfold Kn;rw [aG];simp only [sO];rw [if_pos (by omega),show ((dK.length:Int)+1).toNat=dK.length+1 by omega]
     rw [aG,sO,if_pos (by simp),rz _ (by omega),qc ⟨by omega,by omega⟩,qc ⟨by omega,by omega⟩,tB,aj5 (by simp;omega) (by simp;omega),sb,aw 0 _ afa.symm ?_ ?_]
     ·exact Kj
     ·intro p aC;rcases sS.1 aC with aC | aC
      ·exact bB.ok p (List.mem_of_mem_drop aC)
      ·exact bB.ok p (List.mem_of_mem_take aC)
     ·simp;omega
   ·rw [if_neg (by simpa using h)]
    have:i=P.length:=by omega
    subst this;rw [tQ] at jw hlen;exact ⟨out,rfl,jw,bM,hlen⟩
structure RT (b:p4) (R:List Row):Prop extends RowsOf b (upto b.2.length) R where
 ne:∀ r∈R,r≠[]
 len:R.length=IV b
theorem qZ.flat {P:List (List Int)} {S:List Int} (cm:S.Nodup) (B_:qZ b S P):P.flatten.Perm S:=by
 refine (uy B_.WO cm).2 fun x=>?_;rw [B_.mem x,vi]
theorem aaL (pZ:qm b):∃ R,Pw b=some R∧RT b R:=by
 obtain ⟨ad,af,_⟩:=Ku pZ;have hlen:=pZ.len;obtain ⟨R,r1,r2,r3,r4⟩:=aaM pZ af (k:=fun LQ=>some LQ) p_ 0 0 [] rfl (by omega) (rn (by have:=af.few Kr;omega)) (by rw [tg];exact RowsOf.nil) (fun r aj=>absurd aj (by simp)) (by simp);refine ⟨R,?_,⟨⟨r2.ok,r2.go,r2.all.trans (af.flat (Ju _))⟩,r3,r4⟩⟩;rw [Pw,aaF (by omega),sb,ad,sb];exact r1
end
end Go.Proofs.YtfakoboiahbhaaaGreat.Ab
