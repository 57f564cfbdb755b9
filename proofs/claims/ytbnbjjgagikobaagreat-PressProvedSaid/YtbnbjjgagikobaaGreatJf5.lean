
import Derived.Test.YtbnbjjgagikobaaGreatJf4
import Derived.KernelRfl
set_option linter.unusedSimpArgs false
set_option linter.unusedVariables false
set_option linter.unusedSectionVars false

namespace Go.Proofs.YtbnbjjgagikobaaGreat.Ab
open Go
set_option maxRecDepth 20000
set_option maxHeartbeats 4000000
def wants (ps:List (Int×Int)) (heat:Int) (i:Nat):Bool:=decide ((ix ps (i:Int)).1=heat)
def idxs (ps:List (Int×Int)) (heat:Int):List Int:=((List.range ps.length).filter (wants ps heat)).map fun (i:Nat)=>(i:Int)
theorem filt_get (p:Nat→Bool) {j:Nat} (hp:p j=true):∀ {n:Nat},j<n→((List.range n).filter p)[((List.range j).filter p).length]?=some j
 | 0,h=>absurd h (by omega)
 | n+1,h=>by
   rw [List.range_succ,List.filter_append]
   by_cases hj:j<n
   ·have:=filt_get p hp hj
    rw [List.getElem?_append_left (List.getElem?_eq_some_iff.1 this).1,this]
   ·obtain rfl:j=n:=by omega
    rw [List.getElem?_append_right (Nat.le_refl _)]
    simp [hp]
theorem filt_succ (p:Nat→Bool) (j:Nat):((List.range (j+1)).filter p).length=((List.range j).filter p).length+if p j=true then 1 else 0:=by
 rw [List.range_succ,List.filter_append,List.length_append]
 by_cases h:p j=true
 ·rw [if_pos h];simp [h]
 ·rw [if_neg h];simp [h]
theorem step_rec {α:Type} (Y:α) (step:Nat→α→α):∃ Z:Nat→α,Z 0=Y∧∀ j,Z (j+1)=step j (Z j):=⟨fun n=>Nat.rec Y (fun j z=>step j z) n,rfl,fun _=>rfl⟩
theorem s108_ok (x:Bench) (heat:Int) (hx:x.2.1.length≤1000):Seq Tryz.prog 108 [.lptr [.lptr (I x.1.1::.lst (x.1.2.1.map I) x.1.2.1.length .shared::I x.1.2.2.1::I x.1.2.2.2::.lst (x.2.1.flatMap pr) x.2.1.length .shared::.lst (x.2.2.1.map I) x.2.2.1.length .shared::x.2.2.2.map I)],.lptr [I heat]] ((idxs x.2.1 heat).map I):=by
 intro L N Pre hlen hL hr Y
 obtain ⟨p,hp⟩:∃ p,p=wants x.2.1 heat:=⟨_,rfl⟩
 obtain ⟨n,hn⟩:∃ n,n=x.2.1.length:=⟨_,rfl⟩
 obtain ⟨c,hc⟩:∃ c:Nat→Nat,c=fun j=>((List.range j).filter p).length:=⟨_,rfl⟩
 have hcs:∀ j,c (j+1)=c j+if p j=true then 1 else 0:=fun j=>by rw [hc];exact filt_succ p j
 have hE:((idxs x.2.1 heat).map I).length=c n:=by rw [hc];simp only [idxs,List.length_map,←hp,←hn]
 have hr':∀ (j:Nat) (Y:List AObj),∃ Y',j<n→p j=true→Sem Tryz.prog (.yield L) [I (j:Int)] (Pre (c j)++Y) 0 (.bool true) (Pre (c (j+1))++Y'):=fun j Y=>by
  by_cases hj:j<n∧p j=true
  ·have hg:=filt_get p hj.2 hj.1
   have hlt:c j<((idxs x.2.1 heat).map I).length:=by rw [hE,hc];exact (List.getElem?_eq_some_iff.1 hg).1
   obtain ⟨Y',h⟩:=hr (c j) hlt Y
   have e:((idxs x.2.1 heat).map I)[c j]=I (j:Int):=by
    have:((idxs x.2.1 heat).map I)[c j]?=some (I (j:Int)):=by
     rw [idxs,List.map_map,List.getElem?_map,←hp,←hn,hc,hg];rfl
    rw [List.getElem?_eq_getElem hlt] at this
    exact Option.some.inj this
   rw [e] at h
   exact ⟨Y',fun _ _=>by rw [hcs,if_pos hj.2];exact h⟩
  ·exact ⟨[],fun a b=>absurd ⟨a,b⟩ hj⟩
 obtain ⟨g,hg⟩:∃ g:Nat→List AObj→List AObj,∀ (j:Nat) (Y:List AObj),j<n→p j=true→Sem Tryz.prog (.yield L) [I (j:Int)] (Pre (c j)++Y) 0 (.bool true) (Pre (c (j+1))++g j Y) :=
  ⟨fun j Y=>Classical.choose (hr' j Y),fun j Y=>Classical.choose_spec (hr' j Y)⟩
 clear hr'
 obtain ⟨Z,hZ0,hZ⟩:=step_rec Y fun j Y=>if p j=true then g j (Y++[AObj.cells [I (ix x.2.1 (j:Int)).1,I (ix x.2.1 (j:Int)).2]]) else Y++[AObj.cells [I (ix x.2.1 (j:Int)).1,I (ix x.2.1 (j:Int)).2]]
 refine ⟨Z n,?_⟩
 rw [hE]
 have hle:∀ j,j≤n→(Pre 0++Y).length≤(Pre (c j)++Z j).length:=fun j=>by
  induction j with
  | zero=>intro _;rw [hZ0,List.length_append,List.length_append,hlen,hlen];exact Nat.le_refl _
  | succ j ih =>
    intro hj
    refine Nat.le_trans (ih (by omega)) ?_
    by_cases hpj:p j=true
    ·have h1:=(hg j (Z j++[AObj.cells [I (ix x.2.1 (j:Int)).1,I (ix x.2.1 (j:Int)).2]]) (by omega) hpj).1.1
     rw [hZ j]
     simp only [if_pos hpj]
     refine Nat.le_trans ?_ h1
     rw [←List.append_assoc];simp
    ·rw [hZ j,hcs,if_neg hpj]
     simp only [if_neg hpj]
     rw [←List.append_assoc];simp
 refine fn_semQ hmix lk108 rfl (low0 (hle n (Nat.le_refl _))) fun Q hQ=>?_
 unfold rc108
 conv=>whnf
 rw [←hn]
 refine .intro (fun m T H=>∃ j:Nat,j≤n∧m=n-j∧T=slots 27 [(0,.yield L),(2,.lptr [I heat]),(9,.lst (x.2.1.flatMap pr) n .shared),(10,I (n:Int)),(11,I (j:Int))]∧H=Pre (c j)++Z j) n ⟨0,Nat.zero_le _,rfl,rfl,by rw [hZ0];rw [hc];rfl⟩ ?_
 rintro m T H ⟨j,hj,rfl,rfl,rfl⟩
 conv=>whnf
 refine dcase (fun hc'=>?_) (fun hc'=>?_)
 ·have hlt:j<n:=by omega
  have hb:0≤(j:Int)∧(j:Int)<(x.2.1.length:Int):=by omega
  conv=>whnf
  refine ⟨by omega,?_⟩
  rw [dropS pr 2 pr_len x.2.1 (j:Int) hb]
  conv=>whnf
  refine nthK_of (x:=AObj.cells [I (0:Int),I (0:Int)]) (by first | with_reducible exact get_concat _ _ | exact get_concat _ _ | exact ga (get_concat _ _) | rfl | (simp [List.getElem?_append,AV.settle];done)) ?_
  conv=>whnf
  rw [set_concat]
  refine nthK_of (x:=AObj.cells [I (ix x.2.1 (j:Int)).1,I (ix x.2.1 (j:Int)).2]) (by first | with_reducible exact get_concat _ _ | exact get_concat _ _ | exact ga (get_concat _ _) | rfl | (simp [List.getElem?_append,AV.settle];done)) ?_
  conv=>whnf
  rcases bt (decide ((ix x.2.1 (j:Int)).1=heat)) with hb2 | hb2
  ·have hpj:p j=true:=by rw [hp];exact hb2
   rw [hb2]
   conv=>whnf
   rw [List.append_assoc]
   refine ⟨_,_,call1 (hg j _ hlt hpj),?_⟩
   conv=>whnf
   refine ⟨n-(j+1),by omega,j+1,by omega,rfl,?_,?_⟩
   ·rw [show IntKind.i64.wrap ((j:Int)+1)=((j+1:Nat):Int) by rw [wrapI _ (by omega) (by omega)];omega];rfl
   ·rw [hZ j];simp only [if_pos hpj];rfl
  ·have hpj:¬ p j=true:=by rw [hp];show ¬ decide _=true;rw [hb2];decide
   rw [hb2]
   conv=>whnf
   refine ⟨n-(j+1),by omega,j+1,by omega,rfl,?_,?_⟩
   ·rw [show IntKind.i64.wrap ((j:Int)+1)=((j+1:Nat):Int) by rw [wrapI _ (by omega) (by omega)];omega];rfl
   ·rw [hZ j,hcs,if_neg hpj];simp only [if_neg hpj];rw [List.append_assoc];rfl
 ·obtain rfl:j=n:=by omega
  conv=>whnf
  exact hQ _ _ _ ⟨.inl rfl,Fgt.refl _,rfl⟩

noncomputable def rcA109:RC :=
 .reg false [I_ 5 [.tk 7] .mv]
theorem lkA109:linkC Tryz.prog ann109 (rngA Tryz.prog 109 0) 0=some rcA109:=by kernel_rfl
noncomputable def rcB109:RC :=
 .block 1 (.reg false [I_ 8 [.sl 2] .take,I_ 9 [.tk 5] .mv,I_ 10 [.tv 9] (.buildS 1 1 [.int .i64 0] [0]),I_ 11 [.tk 8,.tk 10] (.app 1 8),⟨none,[.tk 2,.tk 11],none,none,.stR⟩])
theorem lkB109:linkC Tryz.prog ann109 (rngB Tryz.prog 109 0) 0=some rcB109:=by kernel_rfl
def rawL (l:List Int):AV:=match l with | []=>.lst [] 0 .full | _=>.raw (l.map I) l.length 1
def colL (l:List Int):AV:=match l with | []=>.lst [] 0 .full | _=>.lst (l.map I) l.length (.uniq 1)
theorem app109 {l:List Int} {e:Int} {u0 u1 u3 u4 u5 u6 u7 u8 u9 u10 u11 u12:AV} (hl:l.length≤1000) (Y:List AObj) :
  ∃ Y',Sem Tryz.prog (.yield [AObj.cells [rawL l]].length) [I e] (([AObj.cells [rawL l]]++[AObj.loop .ready none 109 [u0,u1,.ptr 0 0,u3,u4,u5,u6,u7,u8,u9,u10,u11,u12] [7] (rngA Tryz.prog 109 0) (rngB Tryz.prog 109 0) ann109])++Y) 0 (.bool true) (([AObj.cells [rawL (l++[e])]]++[AObj.loop .ready none 109 [u0,u1,.ptr 0 0,u3,u4,u5,u6,u7,u8,u9,u10,u11,u12] [7] (rngA Tryz.prog 109 0) (rngB Tryz.prog 109 0) ann109])++Y'):=by
 refine ⟨Y,sem_round hmix lkA109 lkB109 (get_mid _ _ _) rfl (low0 (by simp)) ?_⟩
 unfold rcA109
 conv=>whnf
 refine ⟨rfl,get_mid _ _ _,?_⟩
 rw [set_mid]
 unfold rcB109
 cases l with
 | nil =>
   conv=>whnf
   refine ⟨rfl,by omega,?_⟩
   conv=>whnf
   refine ⟨by decide,by decide,rfl,?_⟩
   conv=>whnf
   refine ⟨rfl,by decide,updK_of (by decide) ?_⟩
   conv=>whnf
   show _∧(([AObj.cells [rawL ([]++[e])]]++[AObj.loop .busy none 109 [u0,u1,.ptr 0 0,u3,u4,u5,u6,u7,u8,u9,u10,u11,u12] [7] (rngA Tryz.prog 109 0) (rngB Tryz.prog 109 0) ann109])++Y)[[AObj.cells [rawL ([]++[e])]].length]?=_∧Fgt ((([AObj.cells [rawL ([]++[e])]]++[AObj.loop .busy none 109 [u0,u1,.ptr 0 0,u3,u4,u5,u6,u7,u8,u9,u10,u11,u12] [7] (rngA Tryz.prog 109 0) (rngB Tryz.prog 109 0) ann109])++Y).set [AObj.cells [rawL ([]++[e])]].length _) _
   exact ⟨rfl,get_mid _ _ _,by rw [set_mid];exact Fgt.refl _⟩
 | cons a l =>
   conv=>whnf
   refine ⟨rfl,by omega,?_⟩
   conv=>whnf
   refine ⟨rfl,by simp only [List.length_cons] at hl ⊢;omega,?_⟩
   conv=>whnf
   refine ⟨?_,Nat.succ_ne_zero _,updK_of (by simp) ?_⟩
   ·show ((a::l).map I++[I e]).all scal0=true
    rw [←List.map_singleton (f:=I),←List.map_append];exact List.all_eq_true.2 fun x hx=>by obtain ⟨y,_,rfl⟩:=List.mem_map.1 hx;rfl
   conv=>whnf
   have e1:AV.raw ((a::l).map I++[I e]) ((a::l).length+1) 1=rawL ((a::l)++[e]):=by
    show _=AV.raw (((a::l)++[e]).map I) ((a::l)++[e]).length 1
    rw [List.map_append,List.length_append];rfl
   show _∧(([AObj.cells [AV.raw ((a::l).map I++[I e]) ((a::l).length+1) 1]]++[AObj.loop .busy none 109 [u0,u1,.ptr 0 0,u3,u4,u5,u6,u7,u8,u9,u10,u11,u12] [7] (rngA Tryz.prog 109 0) (rngB Tryz.prog 109 0) ann109])++Y)[[AObj.cells [AV.raw ((a::l).map I++[I e]) ((a::l).length+1) 1]].length]?=_∧Fgt ((([AObj.cells [AV.raw ((a::l).map I++[I e]) ((a::l).length+1) 1]]++[AObj.loop .busy none 109 [u0,u1,.ptr 0 0,u3,u4,u5,u6,u7,u8,u9,u10,u11,u12] [7] (rngA Tryz.prog 109 0) (rngB Tryz.prog 109 0) ann109])++Y).set [AObj.cells [AV.raw ((a::l).map I++[I e]) ((a::l).length+1) 1]].length _) _
   rw [e1]
   exact ⟨rfl,get_mid _ _ _,by rw [set_mid];exact Fgt.refl _⟩
theorem colL_pu (l:List Int):pureD 8 (colL l)=true:=by
 cases l with
 | nil=>rfl
 | cons a l=>exact pu_map (fun _=>rfl) _ _ _
theorem collect_ok {k:FuncId} {cap:List AV} {l:List Int} (hseq:Seq Tryz.prog k cap (l.map I)) (hl:l.length≤1000):PO 109 [.lst [] 0 .full,.func k [] cap] (colL l):=by
 refine fn_pureQ hmix lk109 rfl (colL_pu l) fun Q hQ=>?_
 unfold rc109
 obtain ⟨c1,g1⟩:∃ c,RC.rng (.sl 6) [7] (rngA Tryz.prog 109 0) (rngB Tryz.prog 109 0)=c:=⟨_,rfl⟩
 rw [g1]
 conv=>whnf
 subst g1
 refine rng_wp (f:=I) hseq (fun i=>[AObj.cells [rawL (l.take i)]]) (by exact rfl) (by exact rfl) (fun _=>rfl) ?_ (rl:=none) (by exact rfl) (Hn:=[AObj.cells [rawL l]]) (by show [AObj.cells [rawL (l.take l.length)]]=_;rw [List.take_length]) ?_
 ·intro i hi Y
  rw [show l.take (i+1)=l.take i++[l[i]] by rw [List.take_add_one,List.getElem?_eq_getElem hi];rfl]
  exact app109 (l:=l.take i) (e:=l[i]) (by rw [List.length_take];omega) Y
 ·intro Y'
  cases l with
  | nil =>
    conv=>whnf
    exact hQ _ _ _ (ret_pure (.inr rfl) (colL_pu _) rfl)
  | cons a l =>
    conv=>whnf
    exact hQ _ _ _ (ret_pure (.inr rfl) (colL_pu _) rfl)
theorem collectS_ok {k:FuncId} {cap:List AV} {l:List Int} (hcap:cap.all (pureD 7)=true) (hseq:Seq Tryz.prog k cap (l.map I)) (hl:l.length≤1000):PO 102 [.func k [] cap] (colL l):=by
 refine fn_pureQ hmix lk102 rfl (colL_pu l) fun Q hQ=>?_
 unfold rc102
 conv=>whnf
 refine ⟨_,_,call0 (allc rfl (allc (pu_fn rfl hcap) rfl)) (collect_ok hseq hl) _ _,?_⟩
 cases l with
 | nil =>
   conv=>whnf
   exact hQ _ _ _ (ret_pure (.inr rfl) (colL_pu _) rfl)
 | cons a l =>
   conv=>whnf
   exact hQ _ _ _ (ret_pure (.inr rfl) (colL_pu _) rfl)

theorem swp_get (d:Array Int) (i j x:Nat) (hi:i<d.size) (hj:j<d.size):∃ y,y<d.size∧(x<d.size→(Sort.swp d i j)[x]! = d[y]!):=by
 by_cases hx:x<d.size
 ·by_cases h2:x=j
  ·exact ⟨i,hi,fun _=>by subst h2;simp [Sort.swp,hj]⟩
  ·by_cases h1:x=i
   ·exact ⟨j,hj,fun _=>by subst h1;simp [Sort.swp,hi,Array.getElem_setIfInBounds,Ne.symm h2]⟩
   ·exact ⟨x,hx,fun _=>by simp [Sort.swp,hx,Array.getElem_setIfInBounds,Ne.symm h1,Ne.symm h2]⟩
 ·exact ⟨i,hi,fun h=>absurd h hx⟩
theorem insI_size (lt:Int→Int→Bool) (a:Nat):∀ (j:Nat) (d:Array Int),(Sort.insInner lt a j d).size=d.size
 | 0,d=>rfl
 | j+1,d=>by
   rw [Sort.insInner]
   split
   ·rw [insI_size lt a j,swp_size]
   ·rfl
theorem insI_pr {Pr:Int→Prop} (lt:Int→Int→Bool) (a:Nat):∀ (j:Nat) (d:Array Int),j<d.size→(∀ x,x<d.size→Pr d[x]!)→∀ x,x<d.size→Pr (Sort.insInner lt a j d)[x]!
 | 0,d,_,h=>h
 | j+1,d,hj,h=>by
   rw [Sort.insInner]
   split
   ·intro x hx
    refine insI_pr lt a j _ (by rw [swp_size];omega) (fun y hy=>?_) x (by rw [swp_size];exact hx)
    rw [swp_size] at hy
    obtain ⟨z,hz,h5⟩:=swp_get d (j+1) j y (by omega) (by omega)
    rw [h5 hy];exact h z hz
   ·exact h
theorem insO_size (lt:Int→Int→Bool) (a b i:Nat) (d:Array Int):(Sort.insOuter lt a b i d).size=d.size:=by
 induction h:b-i generalizing i d with
 | zero=>rw [Sort.insOuter.eq_1,if_neg (by omega)]
 | succ n ih=>rw [Sort.insOuter.eq_1,if_pos (by omega),ih _ _ (by omega),insI_size]
theorem insO_pr {Pr:Int→Prop} (lt:Int→Int→Bool) (a b i:Nat) (d:Array Int) (hb:b≤d.size) (hP:∀ x,x<d.size→Pr d[x]!):∀ x,x<d.size→Pr (Sort.insOuter lt a b i d)[x]!:=by
 induction h:b-i generalizing i d with
 | zero=>rw [Sort.insOuter.eq_1,if_neg (by omega)];exact hP
 | succ n ih =>
   rw [Sort.insOuter.eq_1,if_pos (by omega)]
   intro x hx
   exact ih _ _ (by rw [insI_size];exact hb) (fun y hy=>insI_pr lt a i d (by omega) hP y (by rw [insI_size] at hy;exact hy)) (by omega) x (by rw [insI_size];exact hx)
theorem ins_size (lt:Int→Int→Bool) (d:Array Int) (a b:Nat):(Sort.insertionSort lt d a b).size=d.size:=insO_size lt a b _ d
theorem ins_pr {Pr:Int→Prop} {lt:Int→Int→Bool} {d:Array Int} {a b:Nat} (hP:∀ x,x<d.size→Pr d[x]!) (hb:b≤d.size):∀ x,x<d.size→Pr (Sort.insertionSort lt d a b)[x]!:=insO_pr lt a b _ d hb hP
theorem ins_same (lt:Int→Int→Bool) (d:Array Int) (a:Nat):Sort.insertionSort lt d a a=d:=by
 show Sort.insOuter lt a a (a+1) d=d
 rw [Sort.insOuter.eq_1,if_neg (by omega)]
def CmpOk (fk:FuncId) (fc:AV) (Pr:Int→Prop) (lt:Int→Int→Bool):Prop :=
 ∀ a b,Pr a→Pr b→∃ r:Int,PO fk [I a,I b,fc] (I r)∧decide (r<0)=lt a b
section
variable {H:List AObj} {id lo q:Nat} {fk:FuncId} {fc:AV} {Pr:Int→Prop} {lt:Int→Int→Bool} (hlo:lo≤id) (hf:∀ c,shz (H.set id c) (.ptr q 0)=fc) (hfd:fc.dim=fc) (hfp:pureD 8 fc=true) (hcmp:CmpOk fk fc Pr lt)
include hlo hf hfd hfp hcmp
theorem inscmp_sem (d:Array Int) (a b:Nat) (hd:d.size≤1000) (ha:a≤b) (hb:b≤d.size) (hH:H[id]?=some (Cd d)) (hPr:∀ x,x<d.size→Pr d[x]!) :
  Sem Go.Proofs.Tryz.prog (.fn 128) [Da id d.size,I a,I b,.func fk [] [.ptr q 0]] H lo (.tuple []) (H.set id (Cd (Sort.insertionSort lt d a b))):=by
 have hid:=(List.getElem?_eq_some_iff.1 hH).1
 refine fn_sem hmix lk128 rfl ⟨by simp,fun j h1 h2=>by rw [List.getElem?_set_ne (by omega)]⟩ ?_
 unfold rc128
 conv=>whnf
 have hbl:Nat.ble lo id=true:=Nat.ble_eq_true_of_le hlo
 have gs:∀ c:AObj,(H.set id c)[id]?=some c:=fun c=>by rw [List.getElem?_set_self hid]
 have gss:∀ c e:AObj,((H.set id c).set id e)[id]?=some e:=fun c e=>by rw [List.set_set,gs]
 rw [wrapS a (by omega)]
 refine .intro (fun m T H'=>∃ i d',a+1≤i∧(i≤b∨i=a+1)∧m=b+1-i∧d'.size=d.size∧(∀ x,x<d.size→Pr d'[x]!)∧Sort.insOuter lt a b i d'=Sort.insertionSort lt d a b∧T=slots 53 [(0,Da id d.size),(1,I a),(2,I b),(3,.func fk [] [.ptr q 0]),(8,I i)]∧H'=H.set id (Cd d')) (b-a) ⟨a+1,d,by omega,.inr rfl,by omega,rfl,hPr,rfl,rfl,?_⟩ ?_
 ·obtain ⟨h1,h2⟩:=List.getElem?_eq_some_iff.1 hH
  rw [←h2,List.set_getElem_self]
 rintro m T H' ⟨i,d',hi1,hi2,rfl,hds,hP,he,rfl,rfl⟩
 conv=>whnf
 refine dcase (fun h=>?_) (fun h=>?_)
 ·conv=>whnf
  refine .intro (fun j T H'=>∃ dj:Array Int,j≤i∧dj.size=d.size∧(∀ x,x<d.size→Pr dj[x]!)∧Sort.insInner lt a j dj=Sort.insInner lt a i d'∧T=slots 53 [(0,Da id d.size),(1,I a),(2,I b),(3,.func fk [] [.ptr q 0]),(8,I i),(9,I j)]∧H'=H.set id (Cd dj)) i ⟨d',Nat.le_refl _,hds,hP,rfl,rfl,rfl⟩ ?_
  rintro j T H' ⟨dj,hj,hdj,hPj,hej,rfl,rfl⟩
  conv=>whnf
  by_cases h3:(a:Int)<(j:Int)
  ·rw [decide_eq_true h3]
   obtain ⟨y,rfl⟩:∃ y,j=y+1:=⟨j-1,by omega⟩
   have hw:IntKind.i64.wrap (((y+1:Nat):Int)-1)=(y:Int):=by rw [wrapI _ (by omega) (by omega)];omega
   obtain ⟨r,hr,hrl⟩:=hcmp dj[y+1]! dj[y]! (hPj _ (by omega)) (hPj _ (by omega))
   conv=>whnf
   refine ⟨by omega,?_⟩
   conv=>whnf
   refine nthK_of (by first | exact gs _ | exact gss _ _ | assumption) ?_
   conv=>whnf
   refine rdK (y+1) (by omega) (by omega) ?_
   conv=>whnf
   rw [hw]
   refine ⟨by omega,?_⟩
   conv=>whnf
   refine nthK_of (by first | exact gs _ | exact gss _ _ | assumption) ?_
   conv=>whnf
   refine rdK (y) (by omega) (by omega) ?_
   conv=>whnf
   have hcs:[I dj[y+1]!,I dj[y]!,.ptr q 0].map (shz (H.set id (Cd dj)))=[I dj[y+1]!,I dj[y]!,fc]:=by
    rw [List.map_cons,List.map_cons,List.map_cons,hf];rfl
   refine ⟨(by erw [hcs];show (true && (true && (pureD 8 fc && true)))=true;rw [hfp];rfl),[I dj[y+1]!,I dj[y]!,fc],(by erw [hcs];rw [List.map_cons,List.map_cons,List.map_cons,hfd];rfl),_,rfl,hr,acc0,?_⟩
   conv=>whnf
   rw [hrl]
   by_cases h4:lt dj[y+1]! dj[y]! = true
   ·rw [h4]
    conv=>whnf
    rw [hw]
    refine ⟨by omega,?_⟩
    conv=>whnf
    refine nthK_of (by first | exact gs _ | exact gss _ _ | assumption) ?_
    conv=>whnf
    refine rdK (y) (by omega) (by omega) ?_
    conv=>whnf
    refine ⟨by omega,?_⟩
    conv=>whnf
    refine nthK_of (by first | exact gs _ | exact gss _ _ | assumption) ?_
    conv=>whnf
    refine rdK (y+1) (by omega) (by omega) ?_
    conv=>whnf
    refine ⟨by omega,?_⟩
    conv=>whnf
    rw [hbl]
    conv=>whnf
    refine nthK_of (by first | exact gs _ | exact gss _ _ | assumption) ?_
    conv=>whnf
    refine wrK (y+1) (by omega) (by first | omega | (simp only [Array.size_setIfInBounds];omega)) ?_
    conv=>whnf
    refine ⟨by omega,?_⟩
    conv=>whnf
    rw [hbl]
    conv=>whnf
    refine nthK_of (by first | exact gs _ | exact gss _ _ | assumption) ?_
    conv=>whnf
    refine wrK (y) (by omega) (by first | omega | (simp only [Array.size_setIfInBounds];omega)) ?_
    conv=>whnf
    refine ⟨y,by omega,Sort.swp dj (y+1) y,by omega,by rw [swp_size];exact hdj,?_,?_,?_,?_⟩
    ·intro x hx
     obtain ⟨z,hz,h5⟩:=swp_get dj (y+1) y x (by omega) (by omega)
     rw [h5 (by omega)];exact hPj z (by omega)
    ·rw [←hej,Sort.insInner,if_pos (by simp only [Bool.and_eq_true,decide_eq_true_eq];exact ⟨by omega,h4⟩)]
    ·rw [hw];rfl
    ·simp only [List.set_set];rfl
   ·rw [Bool.not_eq_true] at h4
    rw [h4]
    conv=>whnf
    have e:Sort.insInner lt a i d'=dj:=by
     rw [←hej,Sort.insInner,if_neg (by simp only [Bool.and_eq_true,decide_eq_true_eq];exact fun hh=>by rw [h4] at hh;exact absurd hh.2 (by decide))]
    exact ⟨b+1-(i+1),by omega,i+1,dj,by omega,by omega,rfl,hdj,hPj,by rw [←he,Sort.insOuter.eq_1 _ a b i,if_pos (by omega),e],by rw [←wrapS i (by omega)];rfl,rfl⟩
  ·rw [decide_eq_false h3]
   conv=>whnf
   have e:Sort.insInner lt a i d'=dj:=by
    rw [←hej]
    cases j with
    | zero=>rfl
    | succ y=>rw [Sort.insInner,if_neg (by simp only [Bool.and_eq_true,decide_eq_true_eq];exact fun hh=>by omega)]
   exact ⟨b+1-(i+1),by omega,i+1,dj,by omega,by omega,rfl,hdj,hPj,by rw [←he,Sort.insOuter.eq_1 _ a b i,if_pos (by omega),e],by rw [←wrapS i (by omega)];rfl,rfl⟩
 ·conv=>whnf
  have e:Sort.insertionSort lt d a b=d':=by
   rw [←he];unfold Sort.insOuter;rw [if_neg (by omega)]
  rw [e]
  exact ⟨.inl rfl,⟨by simp,fun j o hj=>.inr hj⟩,rfl⟩
theorem stable_sem (d:Array Int) (hd:d.size≤20) (hH:H[id]?=some (Cd d)) (hPr:∀ x,x<d.size→Pr d[x]!) :
  Sem Go.Proofs.Tryz.prog (.fn 121) [Da id d.size,I d.size,.func fk [] [.ptr q 0]] H lo (.tuple []) (H.set id (Cd (Sort.insertionSort lt d 0 d.size))):=by
 have hid:=(List.getElem?_eq_some_iff.1 hH).1
 refine fn_semQ hmix lk121 rfl ⟨by simp,fun j h1 h2=>by rw [List.getElem?_set_ne (by omega)]⟩ fun Q hQ=>?_
 have gs:∀ c:AObj,(H.set id c)[id]?=some c:=fun c=>by rw [List.getElem?_set_self hid]
 unfold rc121
 conv=>whnf
 refine .intro (fun m T H'=>∃ (x:Nat) (d1:Array Int),x≤d.size∧(m=1∧x=0∨m=0∧x=20)∧d1.size=d.size∧(∀ y,y<d.size→Pr d1[y]!)∧Sort.insertionSort lt d1 x d.size=Sort.insertionSort lt d 0 d.size∧T=slots 63 [(0,Da id d.size),(1,I d.size),(2,.func fk [] [.ptr q 0]),(6,I 20),(7,I x),(8,I ((x+20:Nat):Int))]∧H'=H.set id (Cd d1)) 1 ⟨0,d,Nat.zero_le _,.inl ⟨rfl,rfl⟩,rfl,hPr,rfl,rfl,?_⟩ ?_
 ·obtain ⟨h1,h2⟩:=List.getElem?_eq_some_iff.1 hH
  rw [←h2,List.set_getElem_self]
 rintro m T H' ⟨x,d1,hx,hm,hds,hP,he,rfl,rfl⟩
 have hf':∀ c,shz ((H.set id (Cd d1)).set id c) (.ptr q 0)=fc:=fun c=>by rw [List.set_set];exact hf c
 conv=>whnf
 refine dcase (fun h=>?_) (fun h=>?_)
 ·obtain ⟨rfl,rfl⟩:m=1∧x=0:=by omega
  have hn:d.size=20:=by omega
  conv=>whnf
  have hs:=inscmp_sem hlo hf' hfd hfp hcmp d1 0 20 (by omega) (by omega) (by omega) (gs _) (fun y hy=>hP y (by omega))
  rw [hds] at hs
  refine ⟨_,_,call1 hs,?_⟩
  conv=>whnf
  rw [List.set_set]
  refine ⟨0,by omega,20,Sort.insertionSort lt d1 0 20,by omega,.inr ⟨rfl,rfl⟩,?_,?_,?_,rfl,rfl⟩
  ·rw [ins_size,hds]
  ·exact fun y hy=>ins_pr (fun y hy=>hP y (by omega)) (by omega) y (by omega)
  ·rw [hn,ins_same,←hn,←he,hn]
 ·conv=>whnf
  have hs:=inscmp_sem hlo hf' hfd hfp hcmp d1 x d.size (by omega) hx (by omega) (gs _) (fun y hy=>hP y (by omega))
  rw [hds] at hs
  refine ⟨_,_,call1 hs,?_⟩
  conv=>whnf
  rw [List.set_set,he]
  refine .intro (fun m T H'=>T=slots 63 [(0,Da id d.size),(1,I d.size),(2,.func fk [] [.ptr q 0]),(6,I 20)]∧H'=H.set id (Cd (Sort.insertionSort lt d 0 d.size))) 0 ⟨rfl,rfl⟩ ?_
  rintro m T H' ⟨rfl,rfl⟩
  conv=>whnf
  rw [decide_eq_false (show ¬ (20:Int)<(d.size:Int) by omega)]
  conv=>whnf
  exact hQ _ _ _ ⟨.inl rfl,⟨by simp,fun j o hj=>.inr hj⟩,rfl⟩
theorem sortBy_sem (d:Array Int) (hd:d.size≤20) (hH:H[id]?=some (Cd d)) (hPr:∀ x,x<d.size→Pr d[x]!) :
  Sem Go.Proofs.Tryz.prog (.fn 107) [Da id d.size,.func fk [] [.ptr q 0]] H lo (.tuple []) (H.set id (Cd (Sort.insertionSort lt d 0 d.size))):=by
 refine fn_semQ hmix lk107 rfl ⟨by simp,fun j h1 h2=>by rw [List.getElem?_set_ne (by omega)]⟩ fun Q hQ=>?_
 unfold rc107
 conv=>whnf
 refine ⟨_,_,call1 (stable_sem hlo hf hfd hfp hcmp d hd hH hPr),?_⟩
 conv=>whnf
 exact hQ _ _ _ ⟨.inl rfl,⟨by simp,fun j o hj=>.inr hj⟩,rfl⟩
end

theorem inscmp0 {H:List AObj} {lo:Nat} {F:AV}:Sem Go.Proofs.Tryz.prog (.fn 128) [.lst [] 0 .full,I 0,I 0,F] H lo (.tuple []) H:=by
 refine fn_semQ hmix lk128 rfl (Low.refl _ _) fun Q hQ=>?_
 unfold rc128
 conv=>whnf
 refine .intro (fun m T H'=>T=slots 53 [(0,.lst [] 0 .full),(1,I 0),(2,I 0),(3,F),(8,I 1)]∧H=H') 0 ⟨rfl,rfl⟩ ?_
 rintro m T H' ⟨rfl,rfl⟩
 conv=>whnf
 exact hQ _ _ _ ⟨.inl rfl,⟨by simp,fun j o hj=>.inr hj⟩,rfl⟩
theorem stable0 {H:List AObj} {lo:Nat} {k:FuncId} {cap:List AV}:Sem Go.Proofs.Tryz.prog (.fn 121) [.lst [] 0 .full,I 0,.func k [] cap] H lo (.tuple []) H:=by
 refine fn_semQ hmix lk121 rfl (Low.refl _ _) fun Q hQ=>?_
 unfold rc121
 conv=>whnf
 refine .intro (fun m T H'=>T=slots 63 [(0,.lst [] 0 .full),(1,I 0),(2,.func k [] cap),(6,I 20),(7,I 0),(8,I 20)]∧H=H') 0 ⟨rfl,rfl⟩ ?_
 rintro m T H' ⟨rfl,rfl⟩
 conv=>whnf
 refine ⟨_,_,call1 inscmp0,?_⟩
 conv=>whnf
 refine .intro (fun m T H'=>T=slots 63 [(0,.lst [] 0 .full),(1,I 0),(2,.func k [] cap),(6,I 20)]∧H=H') 0 ⟨rfl,rfl⟩ ?_
 rintro m T H' ⟨rfl,rfl⟩
 conv=>whnf
 exact hQ _ _ _ ⟨.inl rfl,⟨by simp,fun j o hj=>.inr hj⟩,rfl⟩
theorem sortBy0 {H:List AObj} {lo:Nat} {k:FuncId} {cap:List AV}:Sem Go.Proofs.Tryz.prog (.fn 107) [.lst [] 0 .full,.func k [] cap] H lo (.tuple []) H:=by
 refine fn_semQ hmix lk107 rfl (Low.refl _ _) fun Q hQ=>?_
 unfold rc107
 conv=>whnf
 refine ⟨_,_,call1 stable0,?_⟩
 conv=>whnf
 exact hQ _ _ _ ⟨.inl rfl,⟨by simp,fun j o hj=>.inr hj⟩,rfl⟩

noncomputable def xrc92:RC :=
 .seq (.reg false [I_ 6 [.cv (.bool false)] .mv]) (.seq (.reg true [I_ 7 [.sl 0] .mv,I_ 8 [.tv 7] .nilc,I_ 9 [.tv 8] (.fa 4),I_ 10 [.tv 9] (.ld .one),I_ 11 [.tk 1] .mv,I_ 12 [.tv 10,.tv 11] (.ia 2),I_ 13 [.tv 12] (.fa 1),
 I_ 14 [.tv 13] (.ld .one),I_ 15 [.sl 0] .mv,I_ 16 [.tv 15] .nilc,I_ 17 [.tv 16] (.fa 4),I_ 18 [.tv 17] (.ld .one),I_ 19 [.tk 2] .mv,I_ 20 [.tv 18,.tv 19] (.ia 2),I_ 21 [.tv 20] (.fa 1),I_ 22 [.tv 21] (.ld .one),I_ 23
 [.tv 14,.tv 22] (.bin .gtr),I_ 6 [.tk 23] .mv]) .ret)
theorem lxx92:linkF Tryz.prog ann92 92=some (xrc92,24,[.tmp 6]):=by kernel_rfl
def x92 (x:((Int×(List Int)×Int×Int)×(List (Int×Int))×(List Int)×(List Int))) (i:Int) (k:Int):Option Bool :=
 gd (0≤i∧i<(x.2.1.length:Int)) <|
 gd (0≤k∧k<(x.2.1.length:Int)) <|
 some (decide ((ix x.2.1 k).2<(ix x.2.1 i).2))
theorem x92_ok {x:((Int×(List Int)×Int×Int)×(List (Int×Int))×(List Int)×(List Int))} {i:Int} {k:Int} {v:Bool} (h:x92 x i k=some v):PO 92 [(.lptr ((I x.1.1)::(.lst (x.1.2.1.map I) x.1.2.1.length .shared)::(I x.1.2.2.1)::(I x.1.2.2.2)::(.lst (x.2.1.flatMap pr) x.2.1.length .shared)::(.lst (x.2.2.1.map I) x.2.2.1.length .shared)::(x.2.2.2.map I))),(I i),(I k)] (B v):=by
 refine fn_pureW hmix lxx92 rfl rfl fun Q hQ=>?_
 have hR:∀ T H,RetW [.tmp 6] (B v) .ret T H→Q .ret T H:=fun T H hh=>hQ _ T H hh
 unfold x92 at h
 unfold xrc92
 skip
 conv=>whnf
 obtain ⟨hb1,h⟩:=gd_some h
 refine ⟨hb1,?_⟩
 rw [dropS pr 2 pr_len x.2.1 i hb1]
 conv=>whnf
 obtain ⟨hb2,h⟩:=gd_some h
 refine ⟨hb2,?_⟩
 rw [dropS pr 2 pr_len x.2.1 k hb2]
 conv=>whnf
 obtain rfl:=Option.some.inj h
 exact hR _ _ ⟨.inr rfl,_,rfl,_,frz_pure rfl,rfl⟩

noncomputable def xrc100:RC :=
 .seq (.reg false [I_ 2 [.tk 0] .box,I_ 3 [.tk 1] .box,I_ 4 [.cv .junk] .mv]) (.seq (.reg false [I_ 5 [.tv 2,.tv 3] (.mkF 108 0 2),I_ 4 [.tk 5] .mv]) .ret)
theorem lxx100:linkF Tryz.prog ann100 100=some (xrc100,6,[.tmp 4]):=by kernel_rfl
def x100 (x:((Int×(List Int)×Int×Int)×(List (Int×Int))×(List Int)×(List Int))) (heat:Int):Option Unit :=
 some ()
theorem x100_ok {x:((Int×(List Int)×Int×Int)×(List (Int×Int))×(List Int)×(List Int))} {heat:Int} {v:Unit} (h:x100 x heat=some v):PO 100 [(.lptr ((I x.1.1)::(.lst (x.1.2.1.map I) x.1.2.1.length .shared)::(I x.1.2.2.1)::(I x.1.2.2.2)::(.lst (x.2.1.flatMap pr) x.2.1.length .shared)::(.lst (x.2.2.1.map I) x.2.2.1.length .shared)::(x.2.2.2.map I))),(I heat)] (.func 108 [] [(.lptr [(.lptr ((I x.1.1)::(.lst (x.1.2.1.map I) x.1.2.1.length .shared)::(I x.1.2.2.1)::(I x.1.2.2.2)::(.lst (x.2.1.flatMap pr) x.2.1.length .shared)::(.lst (x.2.2.1.map I) x.2.2.1.length .shared)::(x.2.2.2.map I)))]),(.lptr [(I heat)])]):=by
 refine fn_pureW hmix lxx100 rfl (pu_fn rfl (allc (pu_lptr (allc (pu_lptr (allc rfl (allc (pu_map (fun _=>rfl) _ _ _) (allc rfl (allc rfl (allc (pu_flat (fun _=>(allc rfl (allc rfl rfl))) _ _ _) (allc (pu_map (fun _=>rfl) _ _ _) (pu_run (fun _=>rfl) _)))))))) rfl)) (allc (pu_lptr (allc rfl rfl)) rfl))) fun Q hQ=>?_
 have hR:∀ T H,RetW [.tmp 4] (.func 108 [] [(.lptr [(.lptr ((I x.1.1)::(.lst (x.1.2.1.map I) x.1.2.1.length .shared)::(I x.1.2.2.1)::(I x.1.2.2.2)::(.lst (x.2.1.flatMap pr) x.2.1.length .shared)::(.lst (x.2.2.1.map I) x.2.2.1.length .shared)::(x.2.2.2.map I)))]),(.lptr [(I heat)])]) .ret T H→Q .ret T H:=fun T H hh=>hQ _ T H hh
 unfold x100 at h
 unfold xrc100
 skip
 conv=>whnf
 exact hR _ _ ⟨.inr rfl,_,rfl,_,(frz_fn mapO_nil' (mapO_cons' (frz_ptr (l:=[(.lptr ((I x.1.1)::(.lst (x.1.2.1.map I) x.1.2.1.length .shared)::(I x.1.2.2.1)::(I x.1.2.2.2)::(.lst (x.2.1.flatMap pr) x.2.1.length .shared)::(.lst (x.2.2.1.map I) x.2.2.1.length .shared)::(x.2.2.2.map I)))]) (by first | with_reducible exact get_concat _ _ | exact get_concat _ _ | exact ga (get_concat _ _) | rfl | (simp [List.getElem?_append,AV.settle];done)) (allc (pu_lptr (allc rfl (allc (pu_map (fun _=>rfl) _ _ _) (allc rfl (allc rfl (allc (pu_flat (fun _=>(allc rfl (allc rfl rfl))) _ _ _) (allc (pu_map (fun _=>rfl) _ _ _) (pu_run (fun _=>rfl) _)))))))) rfl)) (mapO_cons' (frz_ptr (l:=[(I heat)]) (by first | with_reducible exact get_concat _ _ | exact get_concat _ _ | exact ga (get_concat _ _) | rfl | (simp [List.getElem?_append,AV.settle];done)) (allc rfl rfl)) mapO_nil'))),rfl⟩

def longer (ps:List (Int×Int)) (i k:Int):Bool:=decide ((ix ps k).2<(ix ps i).2)
def ofL (ps:List (Int×Int)) (heat:Int):List Int:=(Sort.insertionSort (longer ps) (idxs ps heat).toArray 0 (idxs ps heat).length).toList
abbrev bnP (x:Bench):AV:=.lptr (I x.1.1::.lst (x.1.2.1.map I) x.1.2.1.length .shared::I x.1.2.2.1::I x.1.2.2.2::.lst (x.2.1.flatMap pr) x.2.1.length .shared::.lst (x.2.2.1.map I) x.2.2.1.length .shared::x.2.2.2.map I)
def fcP (x:Bench):AV:=.lptr [.func 92 [.lptr (I x.1.1::.lst (x.1.2.1.map I) x.1.2.1.length .shared::I x.1.2.2.1::I x.1.2.2.2::.lst (x.2.1.flatMap pr) x.2.1.length .shared::.lst (x.2.2.1.map I) x.2.2.1.length .shared::x.2.2.2.map I)] []]
theorem bn_pu (x:Bench):pureD 6 (bnP x)=true:=pu_lptr (allc rfl (allc (pu_map (fun _=>rfl) _ _ _) (allc rfl (allc rfl (allc (pu_flat (fun _=>(allc rfl (allc rfl rfl))) _ _ _) (allc (pu_map (fun _=>rfl) _ _ _) (pu_run (fun _=>rfl) _)))))))
theorem longer_cmp (x:Bench):CmpOk 101 (fcP x) (fun a=>0≤a∧a<(x.2.1.length:Int)) (longer x.2.1):=by
 intro a b ha hb
 have h1:x92 x a b=some (longer x.2.1 a b):=by unfold x92;rw [gd_pos ha,gd_pos hb];rfl
 have h2:x92 x b a=some (longer x.2.1 b a):=by unfold x92;rw [gd_pos hb,gd_pos ha];rfl
 have hp:∀ a b:Int,[bnP x,I a,I b].all (pureD 8)=true:=fun a b=>(allc (pu_lptr (allc rfl (allc (pu_map (fun _=>rfl) _ _ _) (allc rfl (allc rfl (allc (pu_flat (fun _=>(allc rfl (allc rfl rfl))) _ _ _) (allc (pu_map (fun _=>rfl) _ _ _) (pu_run (fun _=>rfl) _)))))))) (allc rfl (allc rfl rfl)))
 cases hl:longer x.2.1 a b with
 | true =>
   rw [hl] at h1
   refine ⟨-1,?_,rfl⟩
   refine fn_pureQ hmix lk101 rfl rfl fun Q hQ=>?_
   unfold rc101 fcP
   conv=>whnf
   refine ⟨hp a b,_,x92_ok h1,?_⟩
   conv=>whnf
   exact hQ _ _ _ (ret_pure (.inr rfl) rfl rfl)
 | false =>
   rw [hl] at h1
   cases hl2:longer x.2.1 b a with
   | true =>
     rw [hl2] at h2
     refine ⟨1,?_,rfl⟩
     refine fn_pureQ hmix lk101 rfl rfl fun Q hQ=>?_
     unfold rc101 fcP
     conv=>whnf
     refine ⟨hp a b,_,x92_ok h1,?_⟩
     conv=>whnf
     refine ⟨hp b a,_,x92_ok h2,?_⟩
     conv=>whnf
     exact hQ _ _ _ (ret_pure (.inr rfl) rfl rfl)
   | false =>
     rw [hl2] at h2
     refine ⟨0,?_,rfl⟩
     refine fn_pureQ hmix lk101 rfl rfl fun Q hQ=>?_
     unfold rc101 fcP
     conv=>whnf
     refine ⟨hp a b,_,x92_ok h1,?_⟩
     conv=>whnf
     refine ⟨hp b a,_,x92_ok h2,?_⟩
     conv=>whnf
     exact hQ _ _ _ (ret_pure (.inr rfl) rfl rfl)
theorem call0v {P:Program} {k:FuncId} {args:List AV} {H H':List AObj} {lo:Nat} {v:AV} (hp:pureD 8 v=true) (h:Sem P (.fn k) args H H.length v H'):CallS P 0 lo (.fn k) args H v H:=by
 refine ⟨_,oneC_sound h,?_⟩
 simp only [callTo,oneC_self,Option.bind_some,frz_pure hp,Option.map_some]
theorem idxs_range (ps:List (Int×Int)) (heat:Int):∀ i∈idxs ps heat,0≤i∧i<(ps.length:Int):=by
 intro i hi
 obtain ⟨j,hj,rfl⟩:=List.mem_map.1 hi
 have:=List.mem_range.1 (List.mem_filter.1 hj).1
 omega
theorem idxs_len (ps:List (Int×Int)) (heat:Int):(idxs ps heat).length≤ps.length:=by
 rw [idxs,List.length_map]
 exact Nat.le_trans (List.length_filter_le _ _) (by simp)
theorem ofL_len (ps:List (Int×Int)) (heat:Int):(ofL ps heat).length=(idxs ps heat).length:=by
 rw [ofL,Array.length_toList,ins_size,List.size_toArray]
theorem sorted_ok (x:Bench) (heat:Int) (hx:x.2.1.length≤20) (H:List AObj) (hH:H[0]?=some (.cells [.func 92 [bnP x] []])) :
  ∃ H',Sem Tryz.prog (.fn 99) [.func 108 [] [.lptr [bnP x],.lptr [I heat]],.func 101 [] [.ptr 0 0]] H H.length (.lst ((ofL x.2.1 heat).map I) (ofL x.2.1 heat).length (match idxs x.2.1 heat with | []=>.full | _=>.shared)) H':=by
 have hH0:=(List.getElem?_eq_some_iff.1 hH).1
 have hc:=collectS_ok (allc (pu_lptr (allc (bn_pu x) rfl)) (allc (pu_lptr (allc rfl rfl)) rfl)) (s108_ok x heat (by omega)) (Nat.le_trans (idxs_len _ heat) (by omega))
 have hr:=idxs_range x.2.1 heat
 have hle:=Nat.le_trans (idxs_len x.2.1 heat) hx
 have hol:ofL x.2.1 heat=(Sort.insertionSort (longer x.2.1) (idxs x.2.1 heat).toArray 0 (idxs x.2.1 heat).length).toList:=rfl
 generalize idxs x.2.1 heat=L at hc hr hle hol ⊢
 cases L with
 | nil =>
   refine ⟨H,fn_semQ hmix lk99 rfl (Low.refl _ _) fun Q hQ=>?_⟩
   unfold rc99
   conv=>whnf
   refine ⟨_,_,call0 (allc (pu_fn rfl (allc (pu_lptr (allc (bn_pu x) rfl)) (allc (pu_lptr (allc rfl rfl)) rfl))) rfl) hc _ _,?_⟩
   conv=>whnf
   refine ⟨_,_,call1 sortBy0,?_⟩
   conv=>whnf
   refine ⟨_,_,fun C=>rfl,?_⟩
   conv=>whnf
   rw [show ofL x.2.1 heat=[] by rw [hol];exact congrArg Array.toList (ins_same (longer x.2.1) #[] 0)] at hQ
   exact hQ _ _ _ ⟨.inr rfl,⟨by simp,fun j o hj=>.inr hj⟩,rfl⟩
 | cons a L =>
   obtain ⟨d,hd⟩:∃ d:Array Int,d=(a::L).toArray:=⟨_,rfl⟩
   have hds:d.size=(a::L).length:=by rw [hd,List.size_toArray]
   have hdl:d.toList=a::L:=by rw [hd]
   have hPr:∀ y,y<d.size→0≤d[y]!∧d[y]!<(x.2.1.length:Int):=by
    intro y hy
    refine hr _ ?_
    rw [←hdl,getElem!_pos d y hy]
    exact Array.getElem_mem_toList hy
   have hf:∀ c,shz ((H++[Cd d]).set H.length c) (.ptr 0 0)=fcP x:=by
    intro c
    have h0:((H++[Cd d]).set H.length c)[0]?=some (.cells [.func 92 [bnP x] []]):=by
     rw [set_concat,List.getElem?_append_left hH0,hH]
    simp only [shz,shz0,h0];rfl
   have hS:=sortBy_sem (Nat.le_refl H.length) hf rfl (pu_lptr (allc (pu_fn (allc (bn_pu x) rfl) rfl) rfl)) (longer_cmp x) d (by rw [hds];exact hle) (get_concat H _) hPr
   rw [set_concat,hds] at hS
   rw [←hd] at hol
   refine ⟨H++[.dead],fn_semQ hmix lk99 rfl ⟨by simp,fun j h1 h2=>by rw [List.getElem?_append_left (by omega)]⟩ fun Q hQ=>?_⟩
   unfold rc99
   conv=>whnf
   refine ⟨_,_,call0 (allc (pu_fn rfl (allc (pu_lptr (allc (bn_pu x) rfl)) (allc (pu_lptr (allc rfl rfl)) rfl))) rfl) hc _ _,?_⟩
   conv=>whnf
   have e1:AObj.cells ((a::L).map I)=Cd d:=by unfold Cd;rw [hdl]
   refine .inl ⟨Nat.succ_ne_zero _,?_⟩
   conv=>whnf
   erw [e1]
   refine ⟨_,_,call1 hS,?_⟩
   conv=>whnf
   have hss:(a::L).length=(Sort.insertionSort (longer x.2.1) d 0 (a::L).length).toList.length:=hds.symm.trans (ins_size (longer x.2.1) d 0 (a::L).length).symm
   have hrow:rowOf (H++[Cd (Sort.insertionSort (longer x.2.1) d 0 (a::L).length)]) (.ref H.length 0 (a::L).length none 1)=some ((Sort.insertionSort (longer x.2.1) d 0 (a::L).length).toList.map I):=row_full (get_concat _ _) hss fun _=>rfl
   refine ⟨.lst ((Sort.insertionSort (longer x.2.1) d 0 (a::L).length).toList.map I) (a::L).length .shared,H++[.dead],fun C=>?_,?_⟩
   ·show (if H.length≤H.length then (rowOf (H++[Cd (Sort.insertionSort (longer x.2.1) d 0 (a::L).length)]) (.ref H.length 0 (a::L).length none 1)).bind fun row=>some (AV.lst row (a::L).length .shared,(H++[Cd (Sort.insertionSort (longer x.2.1) d 0 (a::L).length)]).set H.length .dead) else none)=_
    rw [if_pos (Nat.le_refl _),hrow,set_concat];rfl
   conv=>whnf
   rw [hol,←hss] at hQ
   exact hQ _ _ _ ⟨.inr rfl,⟨by simp,fun j o hj=>.inr hj⟩,rfl⟩
def x76 (x:Bench) (heat:Int):Option (List Int):=if x.2.1.length≤20 then some (ofL x.2.1 heat) else none
theorem x76_ok {x:Bench} {heat:Int} {v:List Int} (h:x76 x heat=some v):PO 76 [.lptr (I x.1.1::.lst (x.1.2.1.map I) x.1.2.1.length .shared::I x.1.2.2.1::I x.1.2.2.2::.lst (x.2.1.flatMap pr) x.2.1.length .shared::.lst (x.2.2.1.map I) x.2.2.1.length .shared::x.2.2.2.map I),I heat] (.lst (v.map I) v.length .shared):=by
 unfold x76 at h
 split at h
 ·rename_i hx
  obtain rfl:=Option.some.inj h
  refine fn_pureW hmix lk76 rfl (pu_map (fun _=>rfl) _ _ _) fun Q hQ=>?_
  have hR:∀ T H,RetW [.tmp 4] (.lst ((ofL x.2.1 heat).map I) (ofL x.2.1 heat).length .shared) .ret T H→Q .ret T H:=fun T H hh=>hQ _ T H hh
  unfold rc76
  conv=>whnf
  refine ⟨(allc (pu_lptr (allc rfl (allc (pu_map (fun _=>rfl) _ _ _) (allc rfl (allc rfl (allc (pu_flat (fun _=>(allc rfl (allc rfl rfl))) _ _ _) (allc (pu_map (fun _=>rfl) _ _ _) (pu_run (fun _=>rfl) _)))))))) (allc rfl rfl)),_,x100_ok rfl,?_⟩
  conv=>whnf
  obtain ⟨c,hc⟩:∃ c:Cap,c=(match idxs x.2.1 heat with | []=>.full | _=>.shared):=⟨_,rfl⟩
  have hc2:c=.full∨c=.shared:=by rw [hc];split;exact .inl rfl;exact .inr rfl
  obtain ⟨H1,hs⟩:=sorted_ok x heat hx [.cells [.func 92 [bnP x] []]] rfl
  rw [←hc] at hs
  clear hc
  rcases hc2 with rfl | rfl
  ·refine ⟨_,_,call0v (pu_map (fun _=>rfl) _ _ _) hs,?_⟩
   conv=>whnf
   exact hR _ _ ⟨.inr rfl,_,rfl,_,frz_pure (pu_map (fun _=>rfl) _ _ _),rfl⟩
  ·refine ⟨_,_,call0v (pu_map (fun _=>rfl) _ _ _) hs,?_⟩
   conv=>whnf
   exact hR _ _ ⟨.inr rfl,_,rfl,_,frz_pure (pu_map (fun _=>rfl) _ _ _),rfl⟩
 ·cases h

theorem eqInts_map (k:IntKind):∀ xs ys:List Int,xs.length=ys.length→eqInts (xs.map (.int k)) (ys.map (.int k))=some (decide (xs=ys))
 | [],[],_=>rfl
 | x::xs,y::ys,h=>by
   rw [List.map_cons,List.map_cons,eqInts,if_pos rfl,eqInts_map k xs ys (by simpa using h),Option.map_some]
   congr 1
   rw [Bool.eq_iff_iff]
   simp
 | [],y::ys,h=>by cases h
 | x::xs,[],h=>by cases h
theorem aBin_arr {P:Program} {t e:TypeId} {len:Nat} {kd:IntKind} (k:IntKind) (h1:P.underlying t=some (.array len e)) (h2:P.underlying e=some (.int kd)) (h3:szOf P e=some 1) (h4:P.eqGuardType P.depth t=false) {xs ys:List Int} (hx:xs.length=len) (hy:ys.length=len) :
  aBin P .eql t (.agg (xs.map (.int k))) (.agg (ys.map (.int k)))=some (.bool (decide (xs=ys))):=by
 unfold aBin
 simp only [h1,h2,h3]
 rw [if_pos ⟨by simp [hx],by simp [hy],h4⟩,eqInts_map k xs ys (by rw [hx,hy]),Option.map_some]
theorem view_I (l:List Int):(l.map I).map AV.view=l.map I:=by rw [List.map_map];exact List.map_congr_left fun _ _=>rfl
theorem arr77 (xs:List Int) (h:xs.length=21):aBin Tryz.prog .eql 77 (.agg (xs.map I)) (.agg ((List.replicate 21 (0:Int)).map I))=some (.bool (decide (xs=List.replicate 21 0))) :=
 aBin_arr .i64 (e:=3) (len:=21) (kd:=.i64) (by kernel_rfl) (by kernel_rfl) (by kernel_rfl) (by kernel_rfl) h (by simp)
theorem idx77 (xs:List Int) (h:xs.length=21) (i:Nat) (hi:i<21):aIndex Tryz.prog 77 (.agg (xs.map I)) (I (i:Int))=some (I (ix xs (i:Int))):=by
 have h1:Tryz.prog.underlying 77=some (.array 21 3):=by kernel_rfl
 have h2:Tryz.prog.underlying 3=some (.int .i64):=by kernel_rfl
 have h3:szOf Tryz.prog 3=some 1:=by kernel_rfl
 have h4:chkIdx (i:Int) 21=some i:=by unfold chkIdx;rw [if_pos (by omega)];simp
 unfold aIndex
 simp only [h1,h3,h4,Option.bind_some,Nat.mul_one]
 unfold aPart
 have h5:isAggT Tryz.prog 3=false:=by kernel_rfl
 simp only [h2,h5]
 rw [ix_nat (by omega)]
 simp [h,hi]
def upTo (want:List Int) (i:Nat):List Int:=((List.range i).filter fun (j:Nat)=>decide (0<ix want (j:Int))).map fun (j:Nat)=>(j:Int)
theorem upTo_succ (want:List Int) (i:Nat):upTo want (i+1)=upTo want i++if 0<ix want (i:Int) then [(i:Int)] else []:=by
 unfold upTo
 rw [List.range_succ,List.filter_append,List.map_append]
 by_cases h:0<ix want (i:Int) <;> simp [h]
theorem upTo_len (want:List Int) (i:Nat):(upTo want i).length≤i:=by
 unfold upTo;rw [List.length_map];exact Nat.le_trans (List.length_filter_le _ _) (by simp)
def orderL (x:Bench):List Int:=if x.2.2.2=List.replicate 21 0 then [] else if nearer x.1.2.2.1 (upTo x.2.2.2 21).reverse (upTo x.2.2.2 21)=true then (upTo x.2.2.2 21).reverse else upTo x.2.2.2 21
theorem order_ok (x:Bench) (h:x.2.2.2.length=21) (v:List Int) (hvv:v=orderL x) (hw:0<(upTo x.2.2.2 21).length∨x.2.2.2=List.replicate 21 0):PO 74 [.lptr (I x.1.1::.lst (x.1.2.1.map I) x.1.2.1.length .shared::I x.1.2.2.1::I x.1.2.2.2::.lst (x.2.1.flatMap pr) x.2.1.length .shared::.lst (x.2.2.1.map I) x.2.2.1.length .shared::x.2.2.2.map I)] (.lst (v.map I) v.length .shared):=by
 refine fn_pureW hmix lk74 rfl (pu_map (fun _=>rfl) _ _ _) fun Q hQ=>?_
 unfold rc74
 conv=>whnf
 refine ⟨by simp [h],?_⟩
 conv=>whnf
 have hv:(List.take 21 (List.drop 0 (List.drop 6 (I x.1.1::.lst (x.1.2.1.map I) x.1.2.1.length .shared::I x.1.2.2.1::I x.1.2.2.2::.lst (x.2.1.flatMap pr) x.2.1.length .shared::.lst (x.2.2.1.map I) x.2.2.1.length .shared::x.2.2.2.map I)))).map AV.view=x.2.2.2.map I:=by
  show (List.take 21 (x.2.2.2.map I)).map AV.view=_
  rw [List.take_of_length_le (by simp [h]),view_I]
 rw [hv]
 refine ⟨.bool (decide (x.2.2.2=List.replicate 21 0)),[AObj.cells [.lptr (I x.1.1::.lst (x.1.2.1.map I) x.1.2.1.length .shared::I x.1.2.2.1::I x.1.2.2.2::.lst (x.2.1.flatMap pr) x.2.1.length .shared::.lst (x.2.2.1.map I) x.2.2.1.length .shared::x.2.2.2.map I)]],fun C=>?_,?_⟩
 ·show (aBin Tryz.prog .eql 77 (.agg (x.2.2.2.map I)) (.agg ((List.replicate 21 (0:Int)).map I))).map _=_
  rw [arr77 _ h];rfl
 conv=>whnf
 by_cases hz:x.2.2.2=List.replicate 21 0
 ·rw [decide_eq_true hz]
  conv=>whnf
  subst hvv
  rw [show orderL x=[] from if_pos hz] at hQ
  exact hQ _ _ _ ⟨.inr rfl,_,rfl,_,frz_pure rfl,rfl⟩
 ·rw [decide_eq_false hz]
  conv=>whnf
  refine ⟨by simp [h],?_⟩
  conv=>whnf
  rw [hv]
  refine .intro (fun m T H=>∃ i:Nat,i≤21∧m=21-i∧T=slots 37 [(1,.ptr 0 0),(3,.lst ((upTo x.2.2.2 i).map I) (upTo x.2.2.2 i).length (.uniq 1)),(16,.agg (x.2.2.2.map I)),(17,I (i:Int))]∧H=[AObj.cells [.lptr (I x.1.1::.lst (x.1.2.1.map I) x.1.2.1.length .shared::I x.1.2.2.1::I x.1.2.2.2::.lst (x.2.1.flatMap pr) x.2.1.length .shared::.lst (x.2.2.1.map I) x.2.2.1.length .shared::x.2.2.2.map I)]]) 21 ⟨0,Nat.zero_le _,rfl,rfl,rfl⟩ ?_
  rintro m T H ⟨i,hi,rfl,rfl,rfl⟩
  conv=>whnf
  refine dcase (fun hc=>?_) (fun hc=>?_)
  ·conv=>whnf
   have hi':i<21:=by omega
   refine ⟨I (ix x.2.2.2 (i:Int)),[AObj.cells [.lptr (I x.1.1::.lst (x.1.2.1.map I) x.1.2.1.length .shared::I x.1.2.2.1::I x.1.2.2.2::.lst (x.2.1.flatMap pr) x.2.1.length .shared::.lst (x.2.2.1.map I) x.2.2.1.length .shared::x.2.2.2.map I)]],fun C=>?_,?_⟩
   ·show ((aIndex Tryz.prog 77 (.agg (x.2.2.2.map I)) (I (i:Int))).map AV.view).map _=_
    rw [idx77 _ h i hi'];rfl
   conv=>whnf
   have hs:=upTo_succ x.2.2.2 i
   have hl:=upTo_len x.2.2.2 i
   by_cases hp:0<ix x.2.2.2 (i:Int)
   ·rw [if_pos hp] at hs
    rw [decide_eq_true hp]
    conv=>whnf
    refine ⟨rfl,by omega,?_⟩
    conv=>whnf
    refine ⟨rfl,by omega,?_⟩
    conv=>whnf
    refine ⟨21-(i+1),by omega,i+1,by omega,rfl,?_,rfl⟩
    have e1:AV.lst ((upTo x.2.2.2 i).map I++[I (i:Int)]) ((upTo x.2.2.2 i).length+1) (.uniq 1)=AV.lst ((upTo x.2.2.2 (i+1)).map I) (upTo x.2.2.2 (i+1)).length (.uniq 1):=by
     rw [hs,List.map_append,List.length_append];rfl
    rw [←e1,←w_succ i (by omega)];rfl
   ·rw [if_neg hp,List.append_nil] at hs
    rw [decide_eq_false hp]
    conv=>whnf
    exact ⟨21-(i+1),by omega,i+1,by omega,rfl,by rw [hs,←w_succ i (by omega)];rfl,rfl⟩
  ·obtain rfl:i=21:=by omega
   conv=>whnf
   have hw':0<(upTo x.2.2.2 21).length:=hw.resolve_right hz
   have hl:=upTo_len x.2.2.2 21
   obtain ⟨up,hup⟩:∃ up,up=upTo x.2.2.2 21:=⟨_,rfl⟩
   unfold orderL at hvv
   rw [if_neg hz] at hvv
   rw [←hup] at hw' hl hvv ⊢
   refine ⟨_,_,call0 (allc (pu_map (fun _=>rfl) _ _ _) rfl) (clone_ok up hw' (by omega)) _ _,?_⟩
   conv=>whnf
   refine .inl ⟨by omega,?_⟩
   conv=>whnf
   have hR:=reverse_sem up 0 hw' (by omega) (Nat.zero_le 1) (H:=[AObj.cells [.lptr (I x.1.1::.lst (x.1.2.1.map I) x.1.2.1.length .shared::I x.1.2.2.1::I x.1.2.2.2::.lst (x.2.1.flatMap pr) x.2.1.length .shared::.lst (x.2.2.1.map I) x.2.2.1.length .shared::x.2.2.2.map I)],AObj.cells (up.map I)]) (id:=1) rfl
   rw [show turn up 0=up.reverse from rfl,Nat.sub_zero] at hR
   refine ⟨_,_,call1 hR,?_⟩
   conv=>whnf
   have hrow:rowOf [AObj.cells [.lptr (I x.1.1::.lst (x.1.2.1.map I) x.1.2.1.length .shared::I x.1.2.2.1::I x.1.2.2.2::.lst (x.2.1.flatMap pr) x.2.1.length .shared::.lst (x.2.2.1.map I) x.2.2.1.length .shared::x.2.2.2.map I)],AObj.cells (up.reverse.map I)] (.ref 1 0 up.length none 1)=some (up.reverse.map I):=row_full rfl (by simp) fun _=>rfl
   refine ⟨.lst (up.reverse.map I) up.length .shared,[AObj.cells [.lptr (I x.1.1::.lst (x.1.2.1.map I) x.1.2.1.length .shared::I x.1.2.2.1::I x.1.2.2.2::.lst (x.2.1.flatMap pr) x.2.1.length .shared::.lst (x.2.2.1.map I) x.2.2.1.length .shared::x.2.2.2.map I)],.dead],fun C=>?_,?_⟩
   ·show ((rowOf [AObj.cells [.lptr (I x.1.1::.lst (x.1.2.1.map I) x.1.2.1.length .shared::I x.1.2.2.1::I x.1.2.2.2::.lst (x.2.1.flatMap pr) x.2.1.length .shared::.lst (x.2.2.1.map I) x.2.2.1.length .shared::x.2.2.2.map I)],AObj.cells (up.reverse.map I)] (.ref 1 0 up.length none 1)).bind fun row=>some (AV.lst row up.length .shared,[AObj.cells [.lptr (I x.1.1::.lst (x.1.2.1.map I) x.1.2.1.length .shared::I x.1.2.2.1::I x.1.2.2.2::.lst (x.2.1.flatMap pr) x.2.1.length .shared::.lst (x.2.2.1.map I) x.2.2.1.length .shared::x.2.2.2.map I)],.dead]))=_
    rw [hrow];rfl
   conv=>whnf
   have er:AV.lst (up.reverse.map I) up.length .shared=AV.lst (up.reverse.map I) up.reverse.length .shared:=by rw [List.length_reverse]
   rw [er]
   refine ⟨_,_,call0v (pu_map (fun _=>rfl) _ _ _) (best_sem x up up.reverse hw' (by rw [List.length_reverse];exact hw') _ rfl v hvv),?_⟩
   conv=>whnf
   exact hQ _ _ _ ⟨.inr rfl,_,rfl,_,frz_pure (pu_map (fun _=>rfl) _ _ _),rfl⟩
end Go.Proofs.YtbnbjjgagikobaaGreat.Ab


namespace Go.Proofs.YtbnbjjgagikobaaGreat.Ab
open Go
def x74 (x:Bench):Option (List Int):=if x.2.2.2.length=21∧(0<(upTo x.2.2.2 21).length∨x.2.2.2=List.replicate 21 0) then some (orderL x) else none
theorem x74_ok {x:Bench} {v:List Int} (h:x74 x=some v):PO 74 [.lptr (I x.1.1::.lst (x.1.2.1.map I) x.1.2.1.length .shared::I x.1.2.2.1::I x.1.2.2.2::.lst (x.2.1.flatMap pr) x.2.1.length .shared::.lst (x.2.2.1.map I) x.2.2.1.length .shared::x.2.2.2.map I)] (.lst (v.map I) v.length .shared):=by
 unfold x74 at h
 split at h
 ·rename_i hc
  obtain rfl:=Option.some.inj h
  exact order_ok x hc.1 _ rfl hc.2
 ·cases h
end Go.Proofs.YtbnbjjgagikobaaGreat.Ab


namespace Go.Proofs.YtbnbjjgagikobaaGreat.Ab
open Go
set_option maxRecDepth 20000
set_option maxHeartbeats 4000000
noncomputable def xrc16:RC :=
 .seq (.reg false [I_ 2 [.tk 0] .box,I_ 4 [.cv (.bool false)] .mv]) (.seq (.reg false [I_ 5 [.tv 2] (.fa 1),I_ 6 [.tv 5] (.ld .one),I_ 7 [.tk 6] .lenS,I_ 8 [.tv 7,.cv (.int .i64 20)] (.bin .gtr),I_ 9 [.tk 8] .mv,⟨some 10,
 [.tk 1],some (9,false),none,.mv⟩,⟨some 11,[.tk 10],some (9,false),none,.lenS⟩,⟨some 12,[.tv 11,.cv (.int .i64 20)],some (9,false),none,.bin .gtr⟩,I_ 13 [.tv 9,.cv (.bool true),.tv 12] .pick,I_ 4 [.tk 13]
 .mv]) .ret)
theorem lxx16:linkF Tryz.prog ann16 16=some (xrc16,14,[.tmp 4]):=by kernel_rfl
def x16 (b:(Int×(List Int)×Int×Int)) (panels:(List (Int×Int))):Option Bool :=
 if (decide ((20:Int)<(b.2.1.length:Int)))=true then
  some true
 else
  some (decide ((20:Int)<(panels.length:Int)))
theorem x16_ok {b:(Int×(List Int)×Int×Int)} {panels:(List (Int×Int))} {v:Bool} (h:x16 b panels=some v):PO 16 [(.agg [(I b.1),(.lst (b.2.1.map I) b.2.1.length .shared),(I b.2.2.1),(I b.2.2.2)]),(.lst (panels.flatMap pr) panels.length .shared)] (B v):=by
 refine fn_pureW hmix lxx16 rfl rfl fun Q hQ=>?_
 have hR:∀ T H,RetW [.tmp 4] (B v) .ret T H→Q .ret T H:=fun T H hh=>hQ _ T H hh
 unfold x16 at h
 unfold xrc16
 skip
 conv=>whnf
 rcases bt (decide ((20:Int)<(b.2.1.length:Int))) with hb1 | hb1
 ·rw [hb1]
  conv=>whnf
  replace h:=it_t hb1 h
  obtain rfl:=Option.some.inj h
  exact hR _ _ ⟨.inr rfl,_,rfl,_,frz_pure rfl,rfl⟩
 ·rw [hb1]
  conv=>whnf
  replace h:=it_f hb1 h
  obtain rfl:=Option.some.inj h
  exact hR _ _ ⟨.inr rfl,_,rfl,_,frz_pure rfl,rfl⟩

noncomputable def xrc80_1:RC :=
 .loop (some [i_,i_,o_,o_,o_,o_,o_,i_,i_,o_,o_,o_,o_,o_,o_,o_,o_,o_,o_]) (.seq (.reg false [I_ 9 [.sl 8,.sl 7] (.bin .lss)]) (.seq (.cond (.sl 9) .skip (.exit
 0)) (.seq (.block 1 (.seq (.reg false [I_ 10 [.sl 8] .mv,I_ 5 [.tk 10] .mv]) (.seq (.reg false [I_ 11 [.sl 1] .mv,I_ 12 [.sl 0] .mv,I_ 13 [.sl 5] .mv,I_ 14 [.tv 12,.tv 13] (.ia 1),I_ 15 [.tv 14] (.ld .one),I_ 16 [.sl 11,
 .sl 15] (.call 6)]) (.cond (.sl 16) (.seq (.reg false [I_ 17 [.tk 5] .mv,I_ 4 [.tk 17] .mv]) .ret) .skip)))) (.reg false [I_ 18 [.tv 8,.cv (.int .i64 1)] (.bin .add),I_ 8 [.tk 18] .mv]))))
noncomputable def xrc80:RC :=
 .seq (.reg false [I_ 4 [.cv (.int .i64 0)] .mv]) (.seq (.seq (.reg false [I_ 6 [.sl 0] .mv,I_ 7 [.tk 6] .lenS,I_ 8 [.cv (.int .i64 0)] .mv]) (.block 0 xrc80_1)) (.seq (.reg false [I_ 4 [.cv (.int .i64 (-1))] .mv]) .ret))
theorem lxx80:linkF Tryz.prog ann80 80=some (xrc80,19,[.tmp 4]):=by kernel_rfl
def x80_l1 (s:(List Int)) (f:(Int→Option Bool)) (kl1_0:Unit→Option Int):Nat→Int→Option Int
 | 0,_=>none
 | m+1,s1 =>
   if (decide (s1<(s.length:Int)))=true then
    gd (0≤s1∧s1<(s.length:Int)) <|
    (f (ix s s1)).bind fun r1 =>
    if r1=true then
     some s1
    else
     x80_l1 s f kl1_0 m (w (s1+(1:Int)))
   else
    kl1_0 ()
def x80 (s:(List Int)) (f:(Int→Option Bool)):Option Int :=
 x80_l1 s f (fun _ =>
   some (-1:Int)) FU (0:Int)
theorem x80_l1_ok {s:(List Int)} {f:(Int→Option Bool)} {kl1_0:Unit→Option Int} {s1:Int} {kf_f:FuncId} {cs_f:List AV} (hc_f:Boxes cs_f) (hk_f:∀ (y0:Int) (r:Bool),f y0=some r→PO kf_f ((I y0)::cs_f) (B r)) {v:Int} {Q:Ex→List AV→List AObj→Prop}   (hR:∀ T H,RetW [.tmp 4] (I v) .ret T H→Q .ret T H) (hkl1_0:∀ (u0:AV) (u1:AV) (u4:AV) (u5:AV) (u6:AV) (u7:AV) (u8:AV) (u9:AV) (u10:AV) (u11:AV) (u12:AV) (u13:AV) (u14:AV) (u15:AV) (u16:AV) (u17:AV) (u18:AV),kl1_0 ()=some v→Q (.exit 0) [u0,u1,J,J,u4,u5,u6,u7,u8,u9,u10,u11,u12,u13,u14,u15,u16,u17,u18] []) {T:List AV} (hT:zipKeep [i_,i_,o_,o_,o_,o_,o_,i_,i_,o_,o_,o_,o_,o_,o_,o_,o_,o_,o_] T=slots 19 [(0,(.lst (s.map I) s.length .shared)),(1,(.func kf_f [] cs_f)),(7,(I (s.length:Int))),(8,(I s1))]) (h:x80_l1 s f kl1_0 FU s1=some v) :
  wpR Tryz.prog ann80 80 0 none xrc80_1 T [] Q:=by
 unfold xrc80_1
 skip
 refine wp_loop hT ?_
 refine .intro (fun m T H=>∃ (s1:Int),T=slots 19 [(0,(.lst (s.map I) s.length .shared)),(1,(.func kf_f [] cs_f)),(7,(I (s.length:Int))),(8,(I s1))]∧H=[]∧x80_l1 s f kl1_0 m s1=some v) FU ⟨s1,rfl,rfl,h⟩ ?_
 clear h hT
 rintro m T H ⟨s1,rfl,rfl,h⟩
 cases m
 ·exact none_ne h
 rename_i m
 rw [x80_l1.eq_2] at h
 conv=>whnf
 rcases bt (decide (s1<(s.length:Int))) with hb1 | hb1
 ·rw [hb1]
  conv=>whnf
  replace h:=it_t hb1 h
  obtain ⟨hb2,h⟩:=gd_some h
  refine ⟨hb2,?_⟩
  rw [drop1 I s s1 hb2]
  conv=>whnf
  obtain ⟨r1,hb3,h⟩:=bd_some h
  refine ⟨_,_,call6 (bs:=((I (ix s s1))::cs_f)) (by simp only [List.map_cons,hc_f.shz,hc_f.dim];rfl) (by simp only [List.map_cons,hc_f.shz];exact (allc rfl hc_f.all8)) (hk_f _ _ hb3) rfl,?_⟩
  conv=>whnf
  cases r1
  ·conv=>whnf
   replace h:=it_f rfl h
   exact ⟨m,Nat.lt_succ_self m,(w (s1+(1:Int))),rfl,rfl,h⟩
  ·conv=>whnf
   replace h:=it_t rfl h
   obtain rfl:=Option.some.inj h
   exact hR _ _ ⟨.inr rfl,_,rfl,_,frz_pure rfl,rfl⟩
 ·rw [hb1]
  conv=>whnf
  replace h:=it_f hb1 h
  exact hkl1_0 _ _ _ _ _ _ _ _ _ _ _ _ _ _ _ _ _ h
theorem x80_ok {s:(List Int)} {f:(Int→Option Bool)} {kf_f:FuncId} {cs_f:List AV} (hc_f:Boxes cs_f) (hk_f:∀ (y0:Int) (r:Bool),f y0=some r→PO kf_f ((I y0)::cs_f) (B r)) {v:Int} (h:x80 s f=some v):PO 80 [(.lst (s.map I) s.length .shared),(.func kf_f [] cs_f)] (I v):=by
 refine fn_pureW hmix lxx80 rfl rfl fun Q hQ=>?_
 have hR:∀ T H,RetW [.tmp 4] (I v) .ret T H→Q .ret T H:=fun T H hh=>hQ _ T H hh
 unfold x80 at h
 unfold xrc80
 obtain ⟨c_1,g_1⟩:∃ c,xrc80_1=c:=⟨_,rfl⟩
 rw [g_1]
 conv=>whnf
 subst g_1
 refine x80_l1_ok hc_f hk_f ?_ ?_ (by exact rfl) h
 ·exact fun T H hh=>hR T H hh
 ·intro u0 u1 u4 u5 u6 u7 u8 u9 u10 u11 u12 u13 u14 u15 u16 u17 u18 h
  conv=>whnf
  obtain rfl:=Option.some.inj h
  exact hR _ _ ⟨.inr rfl,_,rfl,_,frz_pure rfl,rfl⟩

noncomputable def xrc86:RC :=
 .seq (.reg false [I_ 4 [.cv (.bool false)] .mv]) (.seq (.reg false [I_ 5 [.tk 0] .mv,I_ 6 [.tk 1] .mv,I_ 7 [.cv (.func 80 [] []),.sl 5,.sl 6] (.call 6),I_ 8 [.tv 7,.cv (.int .i64 0)] (.bin .geq),I_ 4 [.tk 8] .mv]) .ret)
theorem lxx86:linkF Tryz.prog ann86 86=some (xrc86,9,[.tmp 4]):=by kernel_rfl
def x86 (s:(List Int)) (f:(Int→Option Bool)):Option Bool :=
 (x80 s f).bind fun r1 =>
 some (decide ((0:Int)≤r1))
theorem x86_ok {s:(List Int)} {f:(Int→Option Bool)} {kf_f:FuncId} {cs_f:List AV} (hc_f:Boxes cs_f) (hk_f:∀ (y0:Int) (r:Bool),f y0=some r→PO kf_f ((I y0)::cs_f) (B r)) {v:Bool} (h:x86 s f=some v):PO 86 [(.lst (s.map I) s.length .shared),(.func kf_f [] cs_f)] (B v):=by
 refine fn_pureW hmix lxx86 rfl rfl fun Q hQ=>?_
 have hR:∀ T H,RetW [.tmp 4] (B v) .ret T H→Q .ret T H:=fun T H hh=>hQ _ T H hh
 unfold x86 at h
 unfold xrc86
 skip
 conv=>whnf
 obtain ⟨r1,hb1,h⟩:=bd_some h
 refine ⟨_,_,call6' (cs:=[(.lst (s.map I) s.length .shared),(.func kf_f [] cs_f)]) (bs:=[(.lst (s.map I) s.length .shared),(.func kf_f [] cs_f)]) (map_cons' rfl (map_cons' (hc_f.fn _ _) map_nil')) (by rfl) (by exact (allc (pu_map (fun _=>rfl) _ _ _) (allc (hc_f.pfn _) rfl))) (x80_ok hc_f hk_f hb1) rfl,?_⟩
 conv=>whnf
 obtain rfl:=Option.some.inj h
 exact hR _ _ ⟨.inr rfl,_,rfl,_,frz_pure rfl,rfl⟩

noncomputable def xrc87:RC :=
 .seq (.reg false [I_ 4 [.cv (.bool false)] .mv]) (.seq (.reg false [I_ 5 [.sl 0] .mv,I_ 6 [.tv 1] (.ld .one),I_ 7 [.tv 5,.tv 6] (.bin .lss),I_ 8 [.tk 7] .mv,⟨some 9,[.tk 0],some (8,false),none,.mv⟩,⟨some 10,[.tv 2],
 some (8,false),none,.ld .one⟩,⟨some 11,[.tv 9,.tv 10],some (8,false),none,.bin .gtr⟩,I_ 12 [.tv 8,.cv (.bool true),.tv 11] .pick,I_ 4 [.tk 12] .mv]) .ret)
theorem lxx87:linkF Tryz.prog ann87 87=some (xrc87,13,[.tmp 4]):=by kernel_rfl
def x87 (n:Int) (c0:Int) (c1:Int):Option Bool :=
 if (decide (n<c0))=true then
  some true
 else
  some (decide (c1<n))
theorem x87_ok {n:Int} {c0:Int} {c1:Int} {v:Bool} (h:x87 n c0 c1=some v):PO 87 [(I n),(.lptr [(I c0)]),(.lptr [(I c1)])] (B v):=by
 refine fn_pureW hmix lxx87 rfl rfl fun Q hQ=>?_
 have hR:∀ T H,RetW [.tmp 4] (B v) .ret T H→Q .ret T H:=fun T H hh=>hQ _ T H hh
 unfold x87 at h
 unfold xrc87
 skip
 conv=>whnf
 rcases bt (decide (n<c0)) with hb1 | hb1
 ·rw [hb1]
  conv=>whnf
  replace h:=it_t hb1 h
  obtain rfl:=Option.some.inj h
  exact hR _ _ ⟨.inr rfl,_,rfl,_,frz_pure rfl,rfl⟩
 ·rw [hb1]
  conv=>whnf
  replace h:=it_f hb1 h
  obtain rfl:=Option.some.inj h
  exact hR _ _ ⟨.inr rfl,_,rfl,_,frz_pure rfl,rfl⟩

noncomputable def xrc60:RC :=
 .seq (.reg false [I_ 3 [.tk 0] .box,I_ 4 [.tk 1] .box,I_ 6 [.cv (.bool false)] .mv]) (.seq (.reg false [I_ 7 [.tk 2] .mv,I_ 8 [.tv 3,.tv 4] (.mkF 87 0 2),I_ 9 [.cv (.func 86 [] []),.sl 7,.sl 8] (.call 6),I_ 10 [.tv 9]
 (.un .not),I_ 6 [.tk 10] .mv]) .ret)
theorem lxx60:linkF Tryz.prog ann60 60=some (xrc60,11,[.tmp 6]):=by kernel_rfl
def x60 (lo:Int) (hi:Int) (l:(List Int)):Option Bool :=
 (x86 l (fun y0=>x87 y0 lo hi)).bind fun r1 =>
 some (!r1)
theorem x60_ok {lo:Int} {hi:Int} {l:(List Int)} {v:Bool} (h:x60 lo hi l=some v):PO 60 [(I lo),(I hi),(.lst (l.map I) l.length .shared)] (B v):=by
 refine fn_pureW hmix lxx60 rfl rfl fun Q hQ=>?_
 have hR:∀ T H,RetW [.tmp 6] (B v) .ret T H→Q .ret T H:=fun T H hh=>hQ _ T H hh
 unfold x60 at h
 unfold xrc60
 skip
 conv=>whnf
 obtain ⟨r1,hb1,h⟩:=bd_some h
 refine ⟨_,_,call6' (cs:=[(.lst (l.map I) l.length .shared),(.func 87 [] [(.lptr [(I lo)]),(.lptr [(I hi)])])]) (bs:=[(.lst (l.map I) l.length .shared),(.func 87 [] [(.lptr [(I lo)]),(.lptr [(I hi)])])]) (map_cons' rfl (map_cons' (shz_func map_nil' (map_cons' (shz0_ptr' (cs:=[(I lo)]) (by first | with_reducible exact get_concat _ _ | exact get_concat _ _ | exact ga (get_concat _ _) | rfl | (simp [List.getElem?_append,AV.settle];done)) rfl) (map_cons' (shz0_ptr' (cs:=[(I hi)]) (by first | with_reducible exact get_concat _ _ | exact get_concat _ _ | exact ga (get_concat _ _) | rfl | (simp [List.getElem?_append,AV.settle];done)) rfl) map_nil'))) map_nil')) (by rfl) (by exact (allc (pu_map (fun _=>rfl) _ _ _) (allc (pu_fn rfl (allc (pu_lptr (allc rfl rfl)) (allc (pu_lptr (allc rfl rfl)) rfl))) rfl))) (x86_ok ⟨(allc (pu_lptr (allc rfl rfl)) (allc (pu_lptr (allc rfl rfl)) rfl)),by simp⟩ (fun _ _ hy=>x87_ok hy) hb1) rfl,?_⟩
 conv=>whnf
 obtain rfl:=Option.some.inj h
 exact hR _ _ ⟨.inr rfl,_,rfl,_,frz_pure rfl,rfl⟩

noncomputable def xrc61_1:RC :=
 .loop (some [o_,i_,o_,o_,o_,i_,o_,o_,i_,i_,i_,o_,o_,o_,o_,o_,o_,o_,o_,o_,o_,o_,o_,o_]) (.seq (.reg false [I_ 11 [.sl 10,.sl 9] (.bin
 .lss)]) (.seq (.cond (.sl 11) .skip (.exit 0)) (.seq (.block 1 (.seq (.reg false [I_ 12 [.sl 8,.sl 10] (.ia 1),I_ 13 [.tv 12] (.ld .one),I_ 7 [.tk 13] .mv]) (.seq (.seq (.reg false [I_ 14 [.tk 5] .mv,I_ 15 [.sl 1] .mv,I_
 16 [.tv 15,.cv (.int .i64 1)] (.bin .sub),I_ 17 [.sl 7] .mv,I_ 18 [.tv 17] (.buildS 1 1 [.int .i64 0] [0]),I_ 19 [.cv (.func 60 [] []),.sl 14,.sl 16,.sl 18] (.call 3),I_ 20 [.tv 19] (.un .not)]) (.cond (.sl 20) (.seq
 (.reg false [I_ 4 [.cv (.bool false)] .mv]) .ret) .skip)) (.reg false [I_ 21 [.tk 7] .mv,I_ 22 [.tv 21,.cv (.int .i64 1)] (.bin .add),I_ 5 [.tk 22] .mv])))) (.reg false [I_ 23 [.tv 10,.cv (.int .i64 1)] (.bin .add),I_ 10
 [.tk 23] .mv]))))
noncomputable def xrc61:RC :=
 .seq (.reg false [I_ 4 [.cv (.bool false)] .mv]) (.seq (.reg false [I_ 5 [.cv (.int .i64 0)] .mv]) (.seq (.seq (.reg false [I_ 8 [.tk 0] .mv,I_ 9 [.sl 8] .lenS,I_ 10 [.cv (.int .i64 0)] .mv]) (.block 0 xrc61_1)) (.seq (.reg
 false [I_ 4 [.cv (.bool true)] .mv]) .ret)))
theorem lxx61:linkF Tryz.prog ann61 61=some (xrc61,24,[.tmp 4]):=by kernel_rfl
def x61_l1 (l:(List Int)) (below:Int) (kl1_0:Unit→Option Bool):Nat→Int→Int→Option Bool
 | 0,_,_=>none
 | m+1,s1,s2 =>
   if (decide (s2<(l.length:Int)))=true then
    gd (0≤s2∧s2<(l.length:Int)) <|
    (x60 s1 (w (below-(1:Int))) [(ix l s2)]).bind fun r1 =>
    if r1=true then
     x61_l1 l below kl1_0 m (w ((ix l s2)+(1:Int))) (w (s2+(1:Int)))
    else
     some false
   else
    kl1_0 ()
def x61 (l:(List Int)) (below:Int):Option Bool :=
 x61_l1 l below (fun _ =>
   some true) FU (0:Int) (0:Int)
theorem x61_l1_ok {l:(List Int)} {below:Int} {kl1_0:Unit→Option Bool} {s1:Int} {s2:Int} {v:Bool} {Q:Ex→List AV→List AObj→Prop}   (hR:∀ T H,RetW [.tmp 4] (B v) .ret T H→Q .ret T H) (hkl1_0:∀ (u0:AV) (u1:AV) (u4:AV) (u5:AV) (u7:AV) (u8:AV) (u9:AV) (u10:AV) (u11:AV) (u12:AV) (u13:AV) (u14:AV) (u15:AV) (u16:AV) (u17:AV) (u18:AV) (u19:AV) (u20:AV) (u21:AV) (u22:AV) (u23:AV),kl1_0 ()=some v→Q (.exit 0) [u0,u1,J,J,u4,u5,J,u7,u8,u9,u10,u11,u12,u13,u14,u15,u16,u17,u18,u19,u20,u21,u22,u23] []) {T:List AV} (hT:zipKeep [o_,i_,o_,o_,o_,i_,o_,o_,i_,i_,i_,o_,o_,o_,o_,o_,o_,o_,o_,o_,o_,o_,o_,o_] T=slots 24 [(1,(I below)),(5,(I s1)),(8,(.lst (l.map I) l.length .shared)),(9,(I (l.length:Int))),(10,(I s2))]) (h:x61_l1 l below kl1_0 FU s1 s2=some v) :
  wpR Tryz.prog ann61 61 0 none xrc61_1 T [] Q:=by
 unfold xrc61_1
 skip
 refine wp_loop hT ?_
 refine .intro (fun m T H=>∃ (s1:Int) (s2:Int),T=slots 24 [(1,(I below)),(5,(I s1)),(8,(.lst (l.map I) l.length .shared)),(9,(I (l.length:Int))),(10,(I s2))]∧H=[]∧x61_l1 l below kl1_0 m s1 s2=some v) FU ⟨s1,s2,rfl,rfl,h⟩ ?_
 clear h hT
 rintro m T H ⟨s1,s2,rfl,rfl,h⟩
 cases m
 ·exact none_ne h
 rename_i m
 rw [x61_l1.eq_2] at h
 conv=>whnf
 rcases bt (decide (s2<(l.length:Int))) with hb1 | hb1
 ·rw [hb1]
  conv=>whnf
  replace h:=it_t hb1 h
  obtain ⟨hb2,h⟩:=gd_some h
  refine ⟨hb2,?_⟩
  rw [drop1 I l s2 hb2]
  conv=>whnf
  obtain ⟨r1,hb3,h⟩:=bd_some h
  refine ⟨(allc rfl (allc rfl (allc rfl rfl))),_,x60_ok hb3,?_⟩
  conv=>whnf
  cases r1
  ·conv=>whnf
   replace h:=it_f rfl h
   obtain rfl:=Option.some.inj h
   exact hR _ _ ⟨.inr rfl,_,rfl,_,frz_pure rfl,rfl⟩
  ·conv=>whnf
   replace h:=it_t rfl h
   exact ⟨m,Nat.lt_succ_self m,(w ((ix l s2)+(1:Int))),(w (s2+(1:Int))),rfl,rfl,h⟩
 ·rw [hb1]
  conv=>whnf
  replace h:=it_f hb1 h
  exact hkl1_0 _ _ _ _ _ _ _ _ _ _ _ _ _ _ _ _ _ _ _ _ _ h
theorem x61_ok {l:(List Int)} {below:Int} {v:Bool} (h:x61 l below=some v):PO 61 [(.lst (l.map I) l.length .shared),(I below)] (B v):=by
 refine fn_pureW hmix lxx61 rfl rfl fun Q hQ=>?_
 have hR:∀ T H,RetW [.tmp 4] (B v) .ret T H→Q .ret T H:=fun T H hh=>hQ _ T H hh
 unfold x61 at h
 unfold xrc61
 obtain ⟨c_1,g_1⟩:∃ c,xrc61_1=c:=⟨_,rfl⟩
 rw [g_1]
 conv=>whnf
 subst g_1
 refine x61_l1_ok ?_ ?_ (by exact rfl) h
 ·exact fun T H hh=>hR T H hh
 ·intro u0 u1 u4 u5 u7 u8 u9 u10 u11 u12 u13 u14 u15 u16 u17 u18 u19 u20 u21 u22 u23 h
  conv=>whnf
  obtain rfl:=Option.some.inj h
  exact hR _ _ ⟨.inr rfl,_,rfl,_,frz_pure rfl,rfl⟩

noncomputable def xrc20:RC :=
 .seq (.reg false [I_ 1 [.tk 0] .box,I_ 2 [.cv (.int .i64 0)] .mv]) (.seq (.block 0 (.seq (.reg false [I_ 4 [.sl 1] (.fa 0),I_ 5 [.tv 4] (.ld .one),I_ 6 [.tv 5] (.buildS 1 1 [.int .i64 0] [0]),I_ 7 [.cv (.func 60 [] []),.cv
 (.int .i64 1),.cv (.int .i64 10),.sl 6] (.call 3),I_ 8 [.tv 7] (.un .not),I_ 3 [.tk 8] .mv]) (.cond (.sl 3) (.seq (.reg false [I_ 2 [.cv (.int .i64 6)] .mv]) .ret) (.seq (.reg false [I_ 10 [.sl 1] (.fa 1),I_ 11 [.tv 10]
 (.ld .one),I_ 12 [.sl 1] (.fa 0),I_ 13 [.tv 12] (.ld .one),I_ 14 [.cv (.func 61 [] []),.sl 11,.sl 13] (.call 3),I_ 15 [.tv 14] (.un .not),I_ 9 [.tk 15] .mv]) (.cond (.sl 9) (.seq (.reg false [I_ 2 [.cv (.int .i64 2)]
 .mv]) .ret) (.seq (.reg false [I_ 17 [.sl 1] (.fa 1),I_ 18 [.tv 17] (.ld .one),I_ 19 [.tk 18] .lenS,I_ 20 [.sl 1] (.fa 0),I_ 21 [.tv 20] (.ld .one),I_ 22 [.tv 19,.tv 21] (.bin .eql),I_ 16 [.tk 22] .mv]) (.cond (.sl 16)
 (.seq (.reg false [I_ 2 [.cv (.int .i64 10)] .mv]) .ret) (.seq (.reg false [I_ 24 [.sl 1] (.fa 2),I_ 25 [.tv 24] (.ld .one),I_ 26 [.tv 25] (.buildS 1 1 [.int .i64 0] [0]),I_ 27 [.cv (.func 60 [] []),.cv (.int .i64 0),.cv
 (.int .i64 20),.sl 26] (.call 3),I_ 28 [.tv 27] (.un .not),I_ 29 [.tk 28] .mv,⟨some 30,[.sl 1],some (29,false),none,.fa 3⟩,⟨some 31,[.tv 30],some (29,false),none,.ld .one⟩,⟨some 32,[.tv 31,.cv (.int .i64 0)],
 some (29,false),none,.bin .lss⟩,I_ 33 [.tv 29,.cv (.bool true),.tv 32] .pick,I_ 34 [.tk 33] .mv,⟨some 35,[.tv 1],some (34,false),none,.fa 3⟩,⟨some 36,[.tv 35],some (34,false),none,.ld .one⟩,⟨some 37,[.tv
 36,.cv (.int .i64 10)],some (34,false),none,.bin .gtr⟩,I_ 38 [.tv 34,.cv (.bool true),.tv 37] .pick,I_ 23 [.tk 38] .mv]) (.cond (.sl 23) (.seq (.reg false [I_ 2 [.cv (.int .i64 3)] .mv]) .ret) .skip))))))))) (.seq
 (.reg false [I_ 2 [.cv (.int .i64 0)] .mv]) .ret))
theorem lxx20:linkF Tryz.prog ann20 20=some (xrc20,39,[.tmp 2]):=by kernel_rfl
def x20 (b:(Int×(List Int)×Int×Int)):Option Int :=
 (x60 (1:Int) (10:Int) [b.1]).bind fun r1 =>
 if r1=true then
  (x61 b.2.1 b.1).bind fun r2 =>
  if r2=true then
   if (decide ((b.2.1.length:Int)=b.1))=true then
    some (10:Int)
   else
    (x60 (0:Int) (20:Int) [b.2.2.1]).bind fun r3 =>
    if r3=true then
     if (decide (b.2.2.2<(0:Int)))=true then
      some (3:Int)
     else
      if (decide ((10:Int)<b.2.2.2))=true then
       some (3:Int)
      else
       some (0:Int)
    else
     some (3:Int)
  else
   some (2:Int)
 else
  some (6:Int)
theorem x20_ok {b:(Int×(List Int)×Int×Int)} {v:Int} (h:x20 b=some v):PO 20 [(.agg [(I b.1),(.lst (b.2.1.map I) b.2.1.length .shared),(I b.2.2.1),(I b.2.2.2)])] (I v):=by
 refine fn_pureW hmix lxx20 rfl rfl fun Q hQ=>?_
 have hR:∀ T H,RetW [.tmp 2] (I v) .ret T H→Q .ret T H:=fun T H hh=>hQ _ T H hh
 unfold x20 at h
 unfold xrc20
 skip
 conv=>whnf
 obtain ⟨r1,hb1,h⟩:=bd_some h
 refine ⟨(allc rfl (allc rfl (allc rfl rfl))),_,x60_ok hb1,?_⟩
 conv=>whnf
 cases r1
 ·conv=>whnf
  replace h:=it_f rfl h
  obtain rfl:=Option.some.inj h
  exact hR _ _ ⟨.inr rfl,_,rfl,_,frz_pure rfl,rfl⟩
 ·conv=>whnf
  replace h:=it_t rfl h
  obtain ⟨r2,hb2,h⟩:=bd_some h
  refine ⟨(allc (pu_map (fun _=>rfl) _ _ _) (allc rfl rfl)),_,x61_ok hb2,?_⟩
  conv=>whnf
  cases r2
  ·conv=>whnf
   replace h:=it_f rfl h
   obtain rfl:=Option.some.inj h
   exact hR _ _ ⟨.inr rfl,_,rfl,_,frz_pure rfl,rfl⟩
  ·conv=>whnf
   replace h:=it_t rfl h
   rcases bt (decide ((b.2.1.length:Int)=b.1)) with hb3 | hb3
   ·rw [hb3]
    conv=>whnf
    replace h:=it_t hb3 h
    obtain rfl:=Option.some.inj h
    exact hR _ _ ⟨.inr rfl,_,rfl,_,frz_pure rfl,rfl⟩
   ·rw [hb3]
    conv=>whnf
    replace h:=it_f hb3 h
    obtain ⟨r3,hb4,h⟩:=bd_some h
    refine ⟨(allc rfl (allc rfl (allc rfl rfl))),_,x60_ok hb4,?_⟩
    conv=>whnf
    cases r3
    ·conv=>whnf
     replace h:=it_f rfl h
     obtain rfl:=Option.some.inj h
     exact hR _ _ ⟨.inr rfl,_,rfl,_,frz_pure rfl,rfl⟩
    ·conv=>whnf
     replace h:=it_t rfl h
     rcases bt (decide (b.2.2.2<(0:Int))) with hb5 | hb5
     ·rw [hb5]
      conv=>whnf
      replace h:=it_t hb5 h
      obtain rfl:=Option.some.inj h
      exact hR _ _ ⟨.inr rfl,_,rfl,_,frz_pure rfl,rfl⟩
     ·rw [hb5]
      conv=>whnf
      replace h:=it_f hb5 h
      rcases bt (decide ((10:Int)<b.2.2.2)) with hb6 | hb6
      ·rw [hb6]
       conv=>whnf
       replace h:=it_t hb6 h
       obtain rfl:=Option.some.inj h
       exact hR _ _ ⟨.inr rfl,_,rfl,_,frz_pure rfl,rfl⟩
      ·rw [hb6]
       conv=>whnf
       replace h:=it_f hb6 h
       obtain rfl:=Option.some.inj h
       exact hR _ _ ⟨.inr rfl,_,rfl,_,frz_pure rfl,rfl⟩

end Go.Proofs.YtbnbjjgagikobaaGreat.Ab


namespace Go.Proofs.YtbnbjjgagikobaaGreat.Ab
open Go
set_option maxRecDepth 20000
set_option maxHeartbeats 4000000
noncomputable def xrc62_1:RC :=
 .loop (some [i_,i_,o_,o_,o_,i_,o_,o_,o_,o_,o_,o_,o_,o_,o_,o_,o_,o_,o_,o_,o_,o_,o_,o_,o_,o_,o_,o_,o_,o_,o_,o_,o_,o_,o_,o_,o_,o_,o_,o_,o_]) (.seq (.seq (.reg false [I_ 6 [.sl 5] .mv,I_ 7 [.sl 0] .mv,I_ 8 [.tk 7] .lenS,I_ 9 [.tv 6,.tv 8] (.bin .lss)]) (.cond (.sl 9) .skip (.exit 0))) (.seq
 (.block 1 (.seq (.reg true [I_ 12 [.sl 0] .mv,I_ 13 [.sl 5] .mv,I_ 14 [.tv 12,.tv 13] (.ia 1),I_ 15 [.tv 14] (.ld .one),I_ 16 [.tv 15,.cv (.int .i64 0)] (.bin .lss),I_ 17 [.tk 16] .mv,⟨some 18,[.sl 0],some (17,
 false),none,.mv⟩,⟨some 19,[.sl 5],some (17,false),none,.mv⟩,⟨some 20,[.tv 18,.tv 19],some (17,false),none,.ia 1⟩,⟨some 21,[.tv 20],some (17,false),none,.ld .one⟩,⟨some 22,[.sl 1],some (17,false),none,
 .mv⟩,⟨some 23,[.tv 21,.tv 22],some (17,false),none,.bin .geq⟩,I_ 24 [.sl 17,.cv (.bool true),.tv 23] .pick,I_ 25 [.tk 24] .mv,⟨some 26,[.sl 5],some (25,false),none,.mv⟩,⟨some 27,[.tv 26,.cv (.int .i64 0)],
 some (25,false),none,.bin .gtr⟩,⟨some 28,[.tk 27],some (25,false),none,.mv⟩,⟨some 29,[.sl 0],some (28,true),none,.mv⟩,⟨some 30,[.sl 5],some (28,true),none,.mv⟩,⟨some 31,[.tv 29,.tv 30],some (28,true),
 none,.ia 1⟩,⟨some 32,[.tv 31],some (28,true),none,.ld .one⟩,⟨some 33,[.sl 0],some (28,true),none,.mv⟩,⟨some 34,[.sl 5],some (28,true),none,.mv⟩,⟨some 35,[.tv 34,.cv (.int .i64 1)],some (28,true),none,
 .bin .sub⟩,⟨some 36,[.tv 33,.tv 35],some (28,true),none,.ia 1⟩,⟨some 37,[.tv 36],some (28,true),none,.ld .one⟩,⟨some 38,[.tv 32,.tv 37],some (28,true),none,.bin .leq⟩,⟨some 39,[.sl 28,.tv 38,.cv (.bool
 false)],some (25,false),none,.pick⟩,I_ 40 [.sl 25,.cv (.bool true),.tv 39] .pick]) (.cond (.sl 40) (.seq (.reg false [I_ 4 [.cv (.bool false)] .mv]) .ret) .skip))) (.reg false [I_ 10 [.tk 5] .mv,I_ 11 [.tv 10,.cv (.int
 .i64 1)] (.bin .add),I_ 5 [.tk 11] .mv])))
noncomputable def xrc62:RC :=
 .seq (.reg false [I_ 4 [.cv (.bool false)] .mv]) (.seq (.seq (.reg false [I_ 5 [.cv (.int .i64 0)] .mv]) (.block 0 xrc62_1)) (.seq (.reg false [I_ 4 [.cv (.bool true)] .mv]) .ret))
theorem lxx62:linkF Tryz.prog ann62 62=some (xrc62,41,[.tmp 4]):=by kernel_rfl
def x62_l1 (l:(List Int)) (below:Int) (kl1_0:Unit→Option Bool):Nat→Int→Option Bool
 | 0,_=>none
 | m+1,s1 =>
   if (decide (s1<(l.length:Int)))=true then
    gd (0≤s1∧s1<(l.length:Int)) <|
    if (decide ((ix l s1)<(0:Int)))=true then
     some false
    else
     gd (0≤s1∧s1<(l.length:Int)) <|
     if (decide (below≤(ix l s1)))=true then
      some false
     else
      if (decide ((0:Int)<s1))=true then
       gd (0≤s1∧s1<(l.length:Int)) <|
       gd (0≤(w (s1-(1:Int)))∧(w (s1-(1:Int)))<(l.length:Int)) <|
       if (decide ((ix l s1)≤(ix l (w (s1-(1:Int))))))=true then
        some false
       else
        x62_l1 l below kl1_0 m (w (s1+(1:Int)))
      else
       x62_l1 l below kl1_0 m (w (s1+(1:Int)))
   else
    kl1_0 ()
def x62 (l:(List Int)) (below:Int):Option Bool :=
 x62_l1 l below (fun _ =>
   some true) FU (0:Int)
theorem x62_l1_ok {l:(List Int)} {below:Int} {kl1_0:Unit→Option Bool} {s1:Int} {v:Bool} {Q:Ex→List AV→List AObj→Prop}   (hR:∀ T H,RetW [.tmp 4] (B v) .ret T H→Q .ret T H) (hkl1_0:∀ (u0:AV) (u1:AV) (u4:AV) (u5:AV) (u6:AV) (u7:AV) (u8:AV) (u9:AV) (u10:AV) (u11:AV) (u12:AV) (u13:AV) (u14:AV) (u15:AV) (u16:AV) (u17:AV) (u18:AV) (u19:AV) (u20:AV) (u21:AV) (u22:AV) (u23:AV) (u24:AV) (u25:AV) (u26:AV) (u27:AV) (u28:AV) (u29:AV) (u30:AV) (u31:AV) (u32:AV) (u33:AV) (u34:AV) (u35:AV) (u36:AV) (u37:AV) (u38:AV) (u39:AV) (u40:AV),kl1_0 ()=some v→Q (.exit 0) [u0,u1,J,J,u4,u5,u6,u7,u8,u9,u10,u11,u12,u13,u14,u15,u16,u17,u18,u19,u20,u21,u22,u23,u24,u25,u26,u27,u28,u29,u30,u31,u32,u33,u34,u35,u36,u37,u38,u39,u40] []) {T:List AV} (hT:zipKeep [i_,i_,o_,o_,o_,i_,o_,o_,o_,o_,o_,o_,o_,o_,o_,o_,o_,o_,o_,o_,o_,o_,o_,o_,o_,o_,o_,o_,o_,o_,o_,o_,o_,o_,o_,o_,o_,o_,o_,o_,o_] T=slots 41 [(0,(.lst (l.map I) l.length .shared)),(1,(I below)),(5,(I s1))]) (h:x62_l1 l below kl1_0 FU s1=some v) :
  wpR Tryz.prog ann62 62 0 none xrc62_1 T [] Q:=by
 unfold xrc62_1
 skip
 refine wp_loop hT ?_
 refine .intro (fun m T H=>∃ (s1:Int),T=slots 41 [(0,(.lst (l.map I) l.length .shared)),(1,(I below)),(5,(I s1))]∧H=[]∧x62_l1 l below kl1_0 m s1=some v) FU ⟨s1,rfl,rfl,h⟩ ?_
 clear h hT
 rintro m T H ⟨s1,rfl,rfl,h⟩
 cases m
 ·exact none_ne h
 rename_i m
 rw [x62_l1.eq_2] at h
 conv=>whnf
 rcases bt (decide (s1<(l.length:Int))) with hb1 | hb1
 ·rw [hb1]
  conv=>whnf
  replace h:=it_t hb1 h
  obtain ⟨hb2,h⟩:=gd_some h
  refine ⟨hb2,?_⟩
  rw [drop1 I l s1 hb2]
  conv=>whnf
  rcases bt (decide ((ix l s1)<(0:Int))) with hb3 | hb3
  ·rw [hb3]
   conv=>whnf
   replace h:=it_t hb3 h
   obtain rfl:=Option.some.inj h
   exact hR _ _ ⟨.inr rfl,_,rfl,_,frz_pure rfl,rfl⟩
  ·rw [hb3]
   conv=>whnf
   replace h:=it_f hb3 h
   obtain ⟨hb4,h⟩:=gd_some h
   refine ⟨hb4,?_⟩
   rw [drop1 I l s1 hb4]
   conv=>whnf
   rcases bt (decide (below≤(ix l s1))) with hb5 | hb5
   ·rw [hb5]
    conv=>whnf
    replace h:=it_t hb5 h
    obtain rfl:=Option.some.inj h
    exact hR _ _ ⟨.inr rfl,_,rfl,_,frz_pure rfl,rfl⟩
   ·rw [hb5]
    conv=>whnf
    replace h:=it_f hb5 h
    rcases bt (decide ((0:Int)<s1)) with hb6 | hb6
    ·rw [hb6]
     conv=>whnf
     replace h:=it_t hb6 h
     obtain ⟨hb7,h⟩:=gd_some h
     refine ⟨hb7,?_⟩
     rw [drop1 I l s1 hb7]
     conv=>whnf
     obtain ⟨hb8,h⟩:=gd_some h
     refine ⟨hb8,?_⟩
     rw [drop1 I l (w (s1-(1:Int))) hb8]
     conv=>whnf
     rcases bt (decide ((ix l s1)≤(ix l (w (s1-(1:Int)))))) with hb9 | hb9
     ·rw [hb9]
      conv=>whnf
      replace h:=it_t hb9 h
      obtain rfl:=Option.some.inj h
      exact hR _ _ ⟨.inr rfl,_,rfl,_,frz_pure rfl,rfl⟩
     ·rw [hb9]
      conv=>whnf
      replace h:=it_f hb9 h
      exact ⟨m,Nat.lt_succ_self m,(w (s1+(1:Int))),rfl,rfl,h⟩
    ·rw [hb6]
     conv=>whnf
     replace h:=it_f hb6 h
     exact ⟨m,Nat.lt_succ_self m,(w (s1+(1:Int))),rfl,rfl,h⟩
 ·rw [hb1]
  conv=>whnf
  replace h:=it_f hb1 h
  exact hkl1_0 _ _ _ _ _ _ _ _ _ _ _ _ _ _ _ _ _ _ _ _ _ _ _ _ _ _ _ _ _ _ _ _ _ _ _ _ _ _ _ h
theorem x62_ok {l:(List Int)} {below:Int} {v:Bool} (h:x62 l below=some v):PO 62 [(.lst (l.map I) l.length .shared),(I below)] (B v):=by
 refine fn_pureW hmix lxx62 rfl rfl fun Q hQ=>?_
 have hR:∀ T H,RetW [.tmp 4] (B v) .ret T H→Q .ret T H:=fun T H hh=>hQ _ T H hh
 unfold x62 at h
 unfold xrc62
 obtain ⟨c_1,g_1⟩:∃ c,xrc62_1=c:=⟨_,rfl⟩
 rw [g_1]
 conv=>whnf
 subst g_1
 refine x62_l1_ok ?_ ?_ (by exact rfl) h
 ·exact fun T H hh=>hR T H hh
 ·intro u0 u1 u4 u5 u6 u7 u8 u9 u10 u11 u12 u13 u14 u15 u16 u17 u18 u19 u20 u21 u22 u23 u24 u25 u26 u27 u28 u29 u30 u31 u32 u33 u34 u35 u36 u37 u38 u39 u40 h
  conv=>whnf
  obtain rfl:=Option.some.inj h
  exact hR _ _ ⟨.inr rfl,_,rfl,_,frz_pure rfl,rfl⟩

noncomputable def xrc21:RC :=
 .seq (.reg false [I_ 1 [.tk 0] .box,I_ 2 [.cv (.int .i64 0)] .mv]) (.seq (.seq (.reg false [I_ 3 [.sl 1] (.fa 0),I_ 4 [.tv 3] (.ld .one),I_ 5 [.tv 4,.cv (.int .i64 1)] (.bin .lss),I_ 6 [.tk 5] .mv,⟨some 7,[.sl 1],some (6,
 false),none,.fa 0⟩,⟨some 8,[.tv 7],some (6,false),none,.ld .one⟩,⟨some 9,[.tv 8,.cv (.int .i64 10)],some (6,false),none,.bin .gtr⟩,I_ 10 [.tv 6,.cv (.bool true),.tv 9] .pick]) (.cond (.sl 10) (.seq (.reg false
 [I_ 2 [.cv (.int .i64 6)] .mv]) .ret) .skip)) (.seq (.seq (.reg false [I_ 11 [.sl 1] (.fa 1),I_ 12 [.tv 11] (.ld .one),I_ 13 [.sl 1] (.fa 0),I_ 14 [.tv 13] (.ld .one),I_ 15 [.cv (.func 62 [] []),.sl 12,.sl 14] (.call 3),
 I_ 16 [.tv 15] (.un .not)]) (.cond (.sl 16) (.seq (.reg false [I_ 2 [.cv (.int .i64 2)] .mv]) .ret) .skip)) (.seq (.seq (.reg false [I_ 17 [.sl 1] (.fa 1),I_ 18 [.tv 17] (.ld .one),I_ 19 [.tk 18] .lenS,I_ 20 [.sl 1] (.fa 0),
 I_ 21 [.tv 20] (.ld .one),I_ 22 [.tv 19,.tv 21] (.bin .eql)]) (.cond (.sl 22) (.seq (.reg false [I_ 2 [.cv (.int .i64 10)] .mv]) .ret) .skip)) (.seq (.seq (.reg false [I_ 23 [.sl 1] (.fa 2),I_ 24 [.tv 23] (.ld .one),I_ 25
 [.tv 24,.cv (.int .i64 0)] (.bin .lss),I_ 26 [.tk 25] .mv,⟨some 27,[.sl 1],some (26,false),none,.fa 2⟩,⟨some 28,[.tv 27],some (26,false),none,.ld .one⟩,⟨some 29,[.tv 28,.cv (.int .i64 20)],some (26,false),
 none,.bin .gtr⟩,I_ 30 [.tv 26,.cv (.bool true),.tv 29] .pick,I_ 31 [.tk 30] .mv,⟨some 32,[.sl 1],some (31,false),none,.fa 3⟩,⟨some 33,[.tv 32],some (31,false),none,.ld .one⟩,⟨some 34,[.tv 33,.cv (.int .i64
 0)],some (31,false),none,.bin .lss⟩,I_ 35 [.tv 31,.cv (.bool true),.tv 34] .pick,I_ 36 [.tk 35] .mv,⟨some 37,[.tv 1],some (36,false),none,.fa 3⟩,⟨some 38,[.tv 37],some (36,false),none,.ld .one⟩,⟨some 39,
 [.tv 38,.cv (.int .i64 10)],some (36,false),none,.bin .gtr⟩,I_ 40 [.tv 36,.cv (.bool true),.tv 39] .pick]) (.cond (.sl 40) (.seq (.reg false [I_ 2 [.cv (.int .i64 3)] .mv]) .ret) .skip)) (.seq (.reg false [I_ 2 [.cv
 (.int .i64 0)] .mv]) .ret)))))
theorem lxx21:linkF Tryz.prog ann21 21=some (xrc21,41,[.tmp 2]):=by kernel_rfl
def x21 (b:(Int×(List Int)×Int×Int)):Option Int :=
 if (decide (b.1<(1:Int)))=true then
  some (6:Int)
 else
  if (decide ((10:Int)<b.1))=true then
   some (6:Int)
  else
   (x62 b.2.1 b.1).bind fun r1 =>
   if r1=true then
    if (decide ((b.2.1.length:Int)=b.1))=true then
     some (10:Int)
    else
     if (decide (b.2.2.1<(0:Int)))=true then
      some (3:Int)
     else
      if (decide ((20:Int)<b.2.2.1))=true then
       some (3:Int)
      else
       if (decide (b.2.2.2<(0:Int)))=true then
        some (3:Int)
       else
        if (decide ((10:Int)<b.2.2.2))=true then
         some (3:Int)
        else
         some (0:Int)
   else
    some (2:Int)
theorem x21_ok {b:(Int×(List Int)×Int×Int)} {v:Int} (h:x21 b=some v):PO 21 [(.agg [(I b.1),(.lst (b.2.1.map I) b.2.1.length .shared),(I b.2.2.1),(I b.2.2.2)])] (I v):=by
 refine fn_pureW hmix lxx21 rfl rfl fun Q hQ=>?_
 have hR:∀ T H,RetW [.tmp 2] (I v) .ret T H→Q .ret T H:=fun T H hh=>hQ _ T H hh
 unfold x21 at h
 unfold xrc21
 skip
 conv=>whnf
 rcases bt (decide (b.1<(1:Int))) with hb1 | hb1
 ·rw [hb1]
  conv=>whnf
  replace h:=it_t hb1 h
  obtain rfl:=Option.some.inj h
  exact hR _ _ ⟨.inr rfl,_,rfl,_,frz_pure rfl,rfl⟩
 ·rw [hb1]
  conv=>whnf
  replace h:=it_f hb1 h
  rcases bt (decide ((10:Int)<b.1)) with hb2 | hb2
  ·rw [hb2]
   conv=>whnf
   replace h:=it_t hb2 h
   obtain rfl:=Option.some.inj h
   exact hR _ _ ⟨.inr rfl,_,rfl,_,frz_pure rfl,rfl⟩
  ·rw [hb2]
   conv=>whnf
   replace h:=it_f hb2 h
   obtain ⟨r1,hb3,h⟩:=bd_some h
   refine ⟨(allc (pu_map (fun _=>rfl) _ _ _) (allc rfl rfl)),_,x62_ok hb3,?_⟩
   conv=>whnf
   cases r1
   ·conv=>whnf
    replace h:=it_f rfl h
    obtain rfl:=Option.some.inj h
    exact hR _ _ ⟨.inr rfl,_,rfl,_,frz_pure rfl,rfl⟩
   ·conv=>whnf
    replace h:=it_t rfl h
    rcases bt (decide ((b.2.1.length:Int)=b.1)) with hb4 | hb4
    ·rw [hb4]
     conv=>whnf
     replace h:=it_t hb4 h
     obtain rfl:=Option.some.inj h
     exact hR _ _ ⟨.inr rfl,_,rfl,_,frz_pure rfl,rfl⟩
    ·rw [hb4]
     conv=>whnf
     replace h:=it_f hb4 h
     rcases bt (decide (b.2.2.1<(0:Int))) with hb5 | hb5
     ·rw [hb5]
      conv=>whnf
      replace h:=it_t hb5 h
      obtain rfl:=Option.some.inj h
      exact hR _ _ ⟨.inr rfl,_,rfl,_,frz_pure rfl,rfl⟩
     ·rw [hb5]
      conv=>whnf
      replace h:=it_f hb5 h
      rcases bt (decide ((20:Int)<b.2.2.1)) with hb6 | hb6
      ·rw [hb6]
       conv=>whnf
       replace h:=it_t hb6 h
       obtain rfl:=Option.some.inj h
       exact hR _ _ ⟨.inr rfl,_,rfl,_,frz_pure rfl,rfl⟩
      ·rw [hb6]
       conv=>whnf
       replace h:=it_f hb6 h
       rcases bt (decide (b.2.2.2<(0:Int))) with hb7 | hb7
       ·rw [hb7]
        conv=>whnf
        replace h:=it_t hb7 h
        obtain rfl:=Option.some.inj h
        exact hR _ _ ⟨.inr rfl,_,rfl,_,frz_pure rfl,rfl⟩
       ·rw [hb7]
        conv=>whnf
        replace h:=it_f hb7 h
        rcases bt (decide ((10:Int)<b.2.2.2)) with hb8 | hb8
        ·rw [hb8]
         conv=>whnf
         replace h:=it_t hb8 h
         obtain rfl:=Option.some.inj h
         exact hR _ _ ⟨.inr rfl,_,rfl,_,frz_pure rfl,rfl⟩
        ·rw [hb8]
         conv=>whnf
         replace h:=it_f hb8 h
         obtain rfl:=Option.some.inj h
         exact hR _ _ ⟨.inr rfl,_,rfl,_,frz_pure rfl,rfl⟩

noncomputable def xrc53_1:RC :=
 .loop (some [i_,i_,o_,o_,o_,i_,o_,o_,o_,o_,o_,o_,o_,o_,o_,o_,o_,o_]) (.seq (.seq (.reg false [I_ 6 [.sl 5] .mv,I_ 7 [.sl 0] .mv,I_ 8 [.tk 7] .lenS,I_ 9 [.tv
 6,.tv 8] (.bin .lss)]) (.cond (.sl 9) .skip (.exit 0))) (.seq (.block 1 (.seq (.reg false [I_ 12 [.sl 0] .mv,I_ 13 [.sl 5] .mv,I_ 14 [.tv 12,.tv 13] (.ia 1),I_ 15 [.tv 14] (.ld .one),I_ 16 [.sl 1] .mv,I_ 17 [.tv 15,.tv
 16] (.bin .eql)]) (.cond (.sl 17) (.seq (.reg false [I_ 4 [.cv (.bool true)] .mv]) .ret) .skip))) (.reg false [I_ 10 [.tk 5] .mv,I_ 11 [.tv 10,.cv (.int .i64 1)] (.bin .add),I_ 5 [.tk 11] .mv])))
noncomputable def xrc53:RC :=
 .seq (.reg false [I_ 4 [.cv (.bool false)] .mv]) (.seq (.seq (.reg false [I_ 5 [.cv (.int .i64 0)] .mv]) (.block 0 xrc53_1)) (.seq (.reg false [I_ 4 [.cv (.bool false)] .mv]) .ret))
theorem lxx53:linkF Tryz.prog ann53 53=some (xrc53,18,[.tmp 4]):=by kernel_rfl
def x53_l1 (l:(List Int)) (n:Int) (kl1_0:Unit→Option Bool):Nat→Int→Option Bool
 | 0,_=>none
 | m+1,s1 =>
   if (decide (s1<(l.length:Int)))=true then
    gd (0≤s1∧s1<(l.length:Int)) <|
    if (decide ((ix l s1)=n))=true then
     some true
    else
     x53_l1 l n kl1_0 m (w (s1+(1:Int)))
   else
    kl1_0 ()
def x53 (l:(List Int)) (n:Int):Option Bool :=
 x53_l1 l n (fun _ =>
   some false) FU (0:Int)
theorem x53_l1_ok {l:(List Int)} {n:Int} {kl1_0:Unit→Option Bool} {s1:Int} {v:Bool} {Q:Ex→List AV→List AObj→Prop}   (hR:∀ T H,RetW [.tmp 4] (B v) .ret T H→Q .ret T H) (hkl1_0:∀ (u0:AV) (u1:AV) (u4:AV) (u5:AV) (u6:AV) (u7:AV) (u8:AV) (u9:AV) (u10:AV) (u11:AV) (u12:AV) (u13:AV) (u14:AV) (u15:AV) (u16:AV) (u17:AV),kl1_0 ()=some v→Q (.exit 0) [u0,u1,J,J,u4,u5,u6,u7,u8,u9,u10,u11,u12,u13,u14,u15,u16,u17] []) {T:List AV} (hT:zipKeep [i_,i_,o_,o_,o_,i_,o_,o_,o_,o_,o_,o_,o_,o_,o_,o_,o_,o_] T=slots 18 [(0,(.lst (l.map I) l.length .shared)),(1,(I n)),(5,(I s1))]) (h:x53_l1 l n kl1_0 FU s1=some v) :
  wpR Tryz.prog ann53 53 0 none xrc53_1 T [] Q:=by
 unfold xrc53_1
 skip
 refine wp_loop hT ?_
 refine .intro (fun m T H=>∃ (s1:Int),T=slots 18 [(0,(.lst (l.map I) l.length .shared)),(1,(I n)),(5,(I s1))]∧H=[]∧x53_l1 l n kl1_0 m s1=some v) FU ⟨s1,rfl,rfl,h⟩ ?_
 clear h hT
 rintro m T H ⟨s1,rfl,rfl,h⟩
 cases m
 ·exact none_ne h
 rename_i m
 rw [x53_l1.eq_2] at h
 conv=>whnf
 rcases bt (decide (s1<(l.length:Int))) with hb1 | hb1
 ·rw [hb1]
  conv=>whnf
  replace h:=it_t hb1 h
  obtain ⟨hb2,h⟩:=gd_some h
  refine ⟨hb2,?_⟩
  rw [drop1 I l s1 hb2]
  conv=>whnf
  rcases bt (decide ((ix l s1)=n)) with hb3 | hb3
  ·rw [hb3]
   conv=>whnf
   replace h:=it_t hb3 h
   obtain rfl:=Option.some.inj h
   exact hR _ _ ⟨.inr rfl,_,rfl,_,frz_pure rfl,rfl⟩
  ·rw [hb3]
   conv=>whnf
   replace h:=it_f hb3 h
   exact ⟨m,Nat.lt_succ_self m,(w (s1+(1:Int))),rfl,rfl,h⟩
 ·rw [hb1]
  conv=>whnf
  replace h:=it_f hb1 h
  exact hkl1_0 _ _ _ _ _ _ _ _ _ _ _ _ _ _ _ _ h
theorem x53_ok {l:(List Int)} {n:Int} {v:Bool} (h:x53 l n=some v):PO 53 [(.lst (l.map I) l.length .shared),(I n)] (B v):=by
 refine fn_pureW hmix lxx53 rfl rfl fun Q hQ=>?_
 have hR:∀ T H,RetW [.tmp 4] (B v) .ret T H→Q .ret T H:=fun T H hh=>hQ _ T H hh
 unfold x53 at h
 unfold xrc53
 obtain ⟨c_1,g_1⟩:∃ c,xrc53_1=c:=⟨_,rfl⟩
 rw [g_1]
 conv=>whnf
 subst g_1
 refine x53_l1_ok ?_ ?_ (by exact rfl) h
 ·exact fun T H hh=>hR T H hh
 ·intro u0 u1 u4 u5 u6 u7 u8 u9 u10 u11 u12 u13 u14 u15 u16 u17 h
  conv=>whnf
  obtain rfl:=Option.some.inj h
  exact hR _ _ ⟨.inr rfl,_,rfl,_,frz_pure rfl,rfl⟩

noncomputable def xrc51_1:RC :=
 .loop (some [o_,i_,o_,i_,i_,o_,o_,o_,o_,o_,o_,o_,o_,o_,o_,o_,o_,o_,o_,o_,o_]) (.seq (.seq (.reg false [I_ 5 [.sl 4] .mv,I_ 6 [.sl 1] (.fa 0),I_ 7
 [.tv 6] (.ld .one),I_ 8 [.tv 5,.tv 7] (.bin .lss)]) (.cond (.sl 8) .skip (.exit 0))) (.seq (.block 1 (.seq (.reg false [I_ 11 [.sl 1] (.fa 1),I_ 12 [.tv 11] (.ld .one),I_ 13 [.sl 4] .mv,I_ 14 [.cv (.func 53 [] []),.sl 12,
 .sl 13] (.call 3),I_ 15 [.tv 14] (.un .not)]) (.cond (.sl 15) (.reg false [I_ 16 [.tk 3] .mv,I_ 17 [.sl 4] .mv,I_ 18 [.tv 17] (.buildS 1 1 [.int .i64 0] [0]),I_ 19 [.tk 16,.tk 18] (.app 1 8),I_ 3 [.tk 19] .mv]) .skip)))
 (.reg false [I_ 9 [.tk 4] .mv,I_ 10 [.tv 9,.cv (.int .i64 1)] (.bin .add),I_ 4 [.tk 10] .mv])))
noncomputable def xrc51:RC :=
 .seq (.reg false [I_ 1 [.tk 0] .box,I_ 2 [.cv (.lst [] 0 .full)] (.nil 1)]) (.seq (.reg false [I_ 3 [.cv (.lst [] 0 .full)] (.nil 1)]) (.seq (.seq (.reg false [I_ 4 [.cv (.int .i64 0)] .mv]) (.block 0 xrc51_1)) (.seq (.reg false
 [I_ 20 [.tk 3] .mv,I_ 2 [.tk 20] .mv]) .ret)))
theorem lxx51:linkF Tryz.prog ann51 51=some (xrc51,21,[.tmp 2]):=by kernel_rfl
def x51_l1 (b:(Int×(List Int)×Int×Int)) (kl1_0:(List Int)→Option (List Int)):Nat→(List Int)→Int→Option (List Int)
 | 0,_,_=>none
 | m+1,s1,s2 =>
   if (decide (s2<b.1))=true then
    (x53 b.2.1 s2).bind fun r1 =>
    if r1=true then
     x51_l1 b kl1_0 m s1 (w (s2+(1:Int)))
    else
     gd ((s1.length+1)*8≤140737488355328) <|
     x51_l1 b kl1_0 m (s1++[s2]) (w (s2+(1:Int)))
   else
    kl1_0 s1
def x51 (b:(Int×(List Int)×Int×Int)):Option (List Int) :=
 x51_l1 b (fun z1 =>
   some z1) FU ([]:List Int) (0:Int)
theorem x51_l1_ok {b:(Int×(List Int)×Int×Int)} {kl1_0:(List Int)→Option (List Int)} {s1:(List Int)} {s2:Int} {v:(List Int)} {Q:Ex→List AV→List AObj→Prop}   (hkl1_0:∀ (z1:(List Int)) (u0:AV) (u1:AV) (u2:AV) (u4:AV) (u5:AV) (u6:AV) (u7:AV) (u8:AV) (u9:AV) (u10:AV) (u11:AV) (u12:AV) (u13:AV) (u14:AV) (u15:AV) (u16:AV) (u17:AV) (u18:AV) (u19:AV) (u20:AV) (o1:AObj),kl1_0 z1=some v→Q (.exit 0) [u0,u1,u2,(.lst (z1.map I) z1.length (.uniq 1)),u4,u5,u6,u7,u8,u9,u10,u11,u12,u13,u14,u15,u16,u17,u18,u19,u20] [o1]) {T:List AV} (hT:zipKeep [o_,i_,o_,i_,i_,o_,o_,o_,o_,o_,o_,o_,o_,o_,o_,o_,o_,o_,o_,o_,o_] T=slots 21 [(1,(.ptr 0 0)),(3,(.lst (s1.map I) s1.length (.uniq 1))),(4,(I s2))]) (h:x51_l1 b kl1_0 FU s1 s2=some v) :
  wpR Tryz.prog ann51 51 0 none xrc51_1 T [AObj.cells [(I b.1),(.lst (b.2.1.map I) b.2.1.length .shared),(I b.2.2.1),(I b.2.2.2)]] Q:=by
 unfold xrc51_1
 skip
 refine wp_loop hT ?_
 refine .intro (fun m T H=>∃ (s1:(List Int)) (s2:Int),T=slots 21 [(1,(.ptr 0 0)),(3,(.lst (s1.map I) s1.length (.uniq 1))),(4,(I s2))]∧H=[AObj.cells [(I b.1),(.lst (b.2.1.map I) b.2.1.length .shared),(I b.2.2.1),(I b.2.2.2)]]∧x51_l1 b kl1_0 m s1 s2=some v) FU ⟨s1,s2,rfl,rfl,h⟩ ?_
 clear h hT
 rintro m T H ⟨s1,s2,rfl,rfl,h⟩
 cases m
 ·exact none_ne h
 rename_i m
 rw [x51_l1.eq_2] at h
 conv=>whnf
 rcases bt (decide (s2<b.1)) with hb1 | hb1
 ·rw [hb1]
  conv=>whnf
  replace h:=it_t hb1 h
  obtain ⟨r1,hb2,h⟩:=bd_some h
  refine ⟨(allc (pu_map (fun _=>rfl) _ _ _) (allc rfl rfl)),_,x53_ok hb2,?_⟩
  conv=>whnf
  cases r1
  ·conv=>whnf
   replace h:=it_f rfl h
   obtain ⟨hb3,h⟩:=gd_some h
   refine ⟨by first | rfl | simp,by have:=hb3;omega,rfl,hb3,?_⟩
   erw [apnd1 I s1 s2]
   conv=>whnf
   exact ⟨m,Nat.lt_succ_self m,(s1++[s2]),(w (s2+(1:Int))),rfl,rfl,h⟩
  ·conv=>whnf
   replace h:=it_t rfl h
   exact ⟨m,Nat.lt_succ_self m,s1,(w (s2+(1:Int))),rfl,rfl,h⟩
 ·rw [hb1]
  conv=>whnf
  replace h:=it_f hb1 h
  exact hkl1_0 _ _ _ _ _ _ _ _ _ _ _ _ _ _ _ _ _ _ _ _ _ _ h
theorem x51_ok {b:(Int×(List Int)×Int×Int)} {v:(List Int)} (h:x51 b=some v):PO 51 [(.agg [(I b.1),(.lst (b.2.1.map I) b.2.1.length .shared),(I b.2.2.1),(I b.2.2.2)])] (.lst (v.map I) v.length .shared):=by
 refine fn_pureW hmix lxx51 rfl (pu_map (fun _=>rfl) _ _ _) fun Q hQ=>?_
 have hR:∀ T H,RetW [.tmp 2] (.lst (v.map I) v.length .shared) .ret T H→Q .ret T H:=fun T H hh=>hQ _ T H hh
 unfold x51 at h
 unfold xrc51
 obtain ⟨c_1,g_1⟩:∃ c,xrc51_1=c:=⟨_,rfl⟩
 rw [g_1]
 conv=>whnf
 subst g_1
 refine x51_l1_ok ?_ (by exact rfl) h
 intro z1 u0 u1 u2 u4 u5 u6 u7 u8 u9 u10 u11 u12 u13 u14 u15 u16 u17 u18 u19 u20 o1 h
 conv=>whnf
 obtain rfl:=Option.some.inj h
 exact hR _ _ ⟨.inr rfl,_,rfl,_,frz_pure (pu_map (fun _=>rfl) _ _ _),rfl⟩

end Go.Proofs.YtbnbjjgagikobaaGreat.Ab


namespace Go.Proofs.YtbnbjjgagikobaaGreat.Ab
open Go
set_option maxRecDepth 20000
set_option maxHeartbeats 4000000
noncomputable def xrc63:RC :=
 .seq (.reg false [I_ 1 [.tk 0] .box,I_ 2 [.cv (.bool false)] .mv]) (.seq (.reg false [I_ 3 [.sl 1] (.fa 0),I_ 4 [.tv 3] (.ld .one),I_ 5 [.tv 4] (.buildS 1 1 [.int .i64 0] [0]),I_ 6 [.cv (.func 60 [] []),.cv (.int .i64 0),
 .cv (.int .i64 20),.sl 5] (.call 3),I_ 7 [.tv 6] (.un .not),I_ 8 [.tk 7] .mv,⟨some 9,[.sl 1],some (8,false),none,.fa 1⟩,⟨some 10,[.tv 9],some (8,false),none,.ld .one⟩,⟨some 11,[.tv 10,.cv (.int .i64 1)],some
 (8,false),none,.bin .lss⟩,I_ 12 [.tv 8,.cv (.bool true),.tv 11] .pick,I_ 13 [.tk 12] .mv,⟨some 14,[.tv 1],some (13,false),none,.fa 1⟩,⟨some 15,[.tv 14],some (13,false),none,.ld .one⟩,⟨some 16,[.tv 15,.cv
 (.int .i64 24)],some (13,false),none,.bin .gtr⟩,I_ 17 [.tv 13,.cv (.bool true),.tv 16] .pick,I_ 2 [.tk 17] .mv]) .ret)
theorem lxx63:linkF Tryz.prog ann63 63=some (xrc63,18,[.tmp 2]):=by kernel_rfl
def x63 (p:(Int×Int)):Option Bool :=
 (x60 (0:Int) (20:Int) [p.1]).bind fun r1 =>
 if r1=true then
  if (decide (p.2<(1:Int)))=true then
   some true
  else
   some (decide ((24:Int)<p.2))
 else
  some true
theorem x63_ok {p:(Int×Int)} {v:Bool} (h:x63 p=some v):PO 63 [(.agg [(I p.1),(I p.2)])] (B v):=by
 refine fn_pureW hmix lxx63 rfl rfl fun Q hQ=>?_
 have hR:∀ T H,RetW [.tmp 2] (B v) .ret T H→Q .ret T H:=fun T H hh=>hQ _ T H hh
 unfold x63 at h
 unfold xrc63
 skip
 conv=>whnf
 obtain ⟨r1,hb1,h⟩:=bd_some h
 refine ⟨(allc rfl (allc rfl (allc rfl rfl))),_,x60_ok hb1,?_⟩
 conv=>whnf
 cases r1
 ·conv=>whnf
  replace h:=it_f rfl h
  obtain rfl:=Option.some.inj h
  exact hR _ _ ⟨.inr rfl,_,rfl,_,frz_pure rfl,rfl⟩
 ·conv=>whnf
  replace h:=it_t rfl h
  rcases bt (decide (p.2<(1:Int))) with hb2 | hb2
  ·rw [hb2]
   conv=>whnf
   replace h:=it_t hb2 h
   obtain rfl:=Option.some.inj h
   exact hR _ _ ⟨.inr rfl,_,rfl,_,frz_pure rfl,rfl⟩
  ·rw [hb2]
   conv=>whnf
   replace h:=it_f hb2 h
   obtain rfl:=Option.some.inj h
   exact hR _ _ ⟨.inr rfl,_,rfl,_,frz_pure rfl,rfl⟩

noncomputable def xrc88_1:RC :=
 .loop (some [i_,i_,o_,o_,o_,o_,o_,i_,i_,o_,o_,o_,o_,o_,o_,o_,o_,o_,o_]) (.seq (.reg false [I_ 9 [.sl 8,.sl 7] (.bin .lss)]) (.seq (.cond (.sl 9) .skip (.exit
 0)) (.seq (.block 1 (.seq (.reg false [I_ 10 [.sl 8] .mv,I_ 5 [.tk 10] .mv]) (.seq (.reg false [I_ 11 [.sl 1] .mv,I_ 12 [.sl 0] .mv,I_ 13 [.sl 5] .mv,I_ 14 [.tv 12,.tv 13] (.ia 2),I_ 15 [.tv 14] (.ld (.str 2)),I_ 16 [.sl
 11,.sl 15] (.call 6)]) (.cond (.sl 16) (.seq (.reg false [I_ 17 [.tk 5] .mv,I_ 4 [.tk 17] .mv]) .ret) .skip)))) (.reg false [I_ 18 [.tv 8,.cv (.int .i64 1)] (.bin .add),I_ 8 [.tk 18] .mv]))))
noncomputable def xrc88:RC :=
 .seq (.reg false [I_ 4 [.cv (.int .i64 0)] .mv]) (.seq (.seq (.reg false [I_ 6 [.sl 0] .mv,I_ 7 [.tk 6] .lenS,I_ 8 [.cv (.int .i64 0)] .mv]) (.block 0 xrc88_1)) (.seq (.reg false [I_ 4 [.cv (.int .i64 (-1))] .mv]) .ret))
theorem lxx88:linkF Tryz.prog ann88 88=some (xrc88,19,[.tmp 4]):=by kernel_rfl
def x88_l1 (s:(List (Int×Int))) (f:((Int×Int)→Option Bool)) (kl1_0:Unit→Option Int):Nat→Int→Option Int
 | 0,_=>none
 | m+1,s1 =>
   if (decide (s1<(s.length:Int)))=true then
    gd (0≤s1∧s1<(s.length:Int)) <|
    (f (ix s s1)).bind fun r1 =>
    if r1=true then
     some s1
    else
     x88_l1 s f kl1_0 m (w (s1+(1:Int)))
   else
    kl1_0 ()
def x88 (s:(List (Int×Int))) (f:((Int×Int)→Option Bool)):Option Int :=
 x88_l1 s f (fun _ =>
   some (-1:Int)) FU (0:Int)
theorem x88_l1_ok {s:(List (Int×Int))} {f:((Int×Int)→Option Bool)} {kl1_0:Unit→Option Int} {s1:Int} {kf_f:FuncId} {cs_f:List AV} (hc_f:Boxes cs_f) (hk_f:∀ (y0:(Int×Int)) (r:Bool),f y0=some r→PO kf_f ((.agg [(I y0.1),(I y0.2)])::cs_f) (B r)) {v:Int} {Q:Ex→List AV→List AObj→Prop}   (hR:∀ T H,RetW [.tmp 4] (I v) .ret T H→Q .ret T H) (hkl1_0:∀ (u0:AV) (u1:AV) (u4:AV) (u5:AV) (u6:AV) (u7:AV) (u8:AV) (u9:AV) (u10:AV) (u11:AV) (u12:AV) (u13:AV) (u14:AV) (u15:AV) (u16:AV) (u17:AV) (u18:AV),kl1_0 ()=some v→Q (.exit 0) [u0,u1,J,J,u4,u5,u6,u7,u8,u9,u10,u11,u12,u13,u14,u15,u16,u17,u18] []) {T:List AV} (hT:zipKeep [i_,i_,o_,o_,o_,o_,o_,i_,i_,o_,o_,o_,o_,o_,o_,o_,o_,o_,o_] T=slots 19 [(0,(.lst (s.flatMap pr) s.length .shared)),(1,(.func kf_f [] cs_f)),(7,(I (s.length:Int))),(8,(I s1))]) (h:x88_l1 s f kl1_0 FU s1=some v) :
  wpR Tryz.prog ann88 88 0 none xrc88_1 T [] Q:=by
 unfold xrc88_1
 skip
 refine wp_loop hT ?_
 refine .intro (fun m T H=>∃ (s1:Int),T=slots 19 [(0,(.lst (s.flatMap pr) s.length .shared)),(1,(.func kf_f [] cs_f)),(7,(I (s.length:Int))),(8,(I s1))]∧H=[]∧x88_l1 s f kl1_0 m s1=some v) FU ⟨s1,rfl,rfl,h⟩ ?_
 clear h hT
 rintro m T H ⟨s1,rfl,rfl,h⟩
 cases m
 ·exact none_ne h
 rename_i m
 rw [x88_l1.eq_2] at h
 conv=>whnf
 rcases bt (decide (s1<(s.length:Int))) with hb1 | hb1
 ·rw [hb1]
  conv=>whnf
  replace h:=it_t hb1 h
  obtain ⟨hb2,h⟩:=gd_some h
  refine ⟨hb2,?_⟩
  rw [dropS pr 2 pr_len s s1 hb2]
  conv=>whnf
  obtain ⟨r1,hb3,h⟩:=bd_some h
  refine ⟨_,_,call6 (bs:=((.agg [(I (ix s s1).1),(I (ix s s1).2)])::cs_f)) (by simp only [List.map_cons,hc_f.shz,hc_f.dim];rfl) (by simp only [List.map_cons,hc_f.shz];exact (allc (pu_agg (allc rfl (allc rfl rfl))) hc_f.all8)) (hk_f _ _ hb3) rfl,?_⟩
  conv=>whnf
  cases r1
  ·conv=>whnf
   replace h:=it_f rfl h
   exact ⟨m,Nat.lt_succ_self m,(w (s1+(1:Int))),rfl,rfl,h⟩
  ·conv=>whnf
   replace h:=it_t rfl h
   obtain rfl:=Option.some.inj h
   exact hR _ _ ⟨.inr rfl,_,rfl,_,frz_pure rfl,rfl⟩
 ·rw [hb1]
  conv=>whnf
  replace h:=it_f hb1 h
  exact hkl1_0 _ _ _ _ _ _ _ _ _ _ _ _ _ _ _ _ _ h
theorem x88_ok {s:(List (Int×Int))} {f:((Int×Int)→Option Bool)} {kf_f:FuncId} {cs_f:List AV} (hc_f:Boxes cs_f) (hk_f:∀ (y0:(Int×Int)) (r:Bool),f y0=some r→PO kf_f ((.agg [(I y0.1),(I y0.2)])::cs_f) (B r)) {v:Int} (h:x88 s f=some v):PO 88 [(.lst (s.flatMap pr) s.length .shared),(.func kf_f [] cs_f)] (I v):=by
 refine fn_pureW hmix lxx88 rfl rfl fun Q hQ=>?_
 have hR:∀ T H,RetW [.tmp 4] (I v) .ret T H→Q .ret T H:=fun T H hh=>hQ _ T H hh
 unfold x88 at h
 unfold xrc88
 obtain ⟨c_1,g_1⟩:∃ c,xrc88_1=c:=⟨_,rfl⟩
 rw [g_1]
 conv=>whnf
 subst g_1
 refine x88_l1_ok hc_f hk_f ?_ ?_ (by exact rfl) h
 ·exact fun T H hh=>hR T H hh
 ·intro u0 u1 u4 u5 u6 u7 u8 u9 u10 u11 u12 u13 u14 u15 u16 u17 u18 h
  conv=>whnf
  obtain rfl:=Option.some.inj h
  exact hR _ _ ⟨.inr rfl,_,rfl,_,frz_pure rfl,rfl⟩

noncomputable def xrc64:RC :=
 .seq (.reg false [I_ 4 [.cv (.bool false)] .mv]) (.seq (.reg false [I_ 5 [.tk 0] .mv,I_ 6 [.tk 1] .mv,I_ 7 [.cv (.func 88 [] []),.sl 5,.sl 6] (.call 6),I_ 8 [.tv 7,.cv (.int .i64 0)] (.bin .geq),I_ 4 [.tk 8] .mv]) .ret)
theorem lxx64:linkF Tryz.prog ann64 64=some (xrc64,9,[.tmp 4]):=by kernel_rfl
def x64 (s:(List (Int×Int))) (f:((Int×Int)→Option Bool)):Option Bool :=
 (x88 s f).bind fun r1 =>
 some (decide ((0:Int)≤r1))
theorem x64_ok {s:(List (Int×Int))} {f:((Int×Int)→Option Bool)} {kf_f:FuncId} {cs_f:List AV} (hc_f:Boxes cs_f) (hk_f:∀ (y0:(Int×Int)) (r:Bool),f y0=some r→PO kf_f ((.agg [(I y0.1),(I y0.2)])::cs_f) (B r)) {v:Bool} (h:x64 s f=some v):PO 64 [(.lst (s.flatMap pr) s.length .shared),(.func kf_f [] cs_f)] (B v):=by
 refine fn_pureW hmix lxx64 rfl rfl fun Q hQ=>?_
 have hR:∀ T H,RetW [.tmp 4] (B v) .ret T H→Q .ret T H:=fun T H hh=>hQ _ T H hh
 unfold x64 at h
 unfold xrc64
 skip
 conv=>whnf
 obtain ⟨r1,hb1,h⟩:=bd_some h
 refine ⟨_,_,call6' (cs:=[(.lst (s.flatMap pr) s.length .shared),(.func kf_f [] cs_f)]) (bs:=[(.lst (s.flatMap pr) s.length .shared),(.func kf_f [] cs_f)]) (map_cons' rfl (map_cons' (hc_f.fn _ _) map_nil')) (by rfl) (by exact (allc (pu_flat (fun _=>(allc rfl (allc rfl rfl))) _ _ _) (allc (hc_f.pfn _) rfl))) (x88_ok hc_f hk_f hb1) rfl,?_⟩
 conv=>whnf
 obtain rfl:=Option.some.inj h
 exact hR _ _ ⟨.inr rfl,_,rfl,_,frz_pure rfl,rfl⟩

noncomputable def xrc22:RC :=
 .seq (.reg false [I_ 2 [.cv (.int .i64 0)] .mv]) (.seq (.reg false [I_ 3 [.cv (.func 63 [] [])] .mv]) (.seq (.block 0 (.seq (.reg false [I_ 5 [.sl 0] .mv,I_ 6 [.tk 5] .lenS,I_ 7 [.tv 6,.cv (.int .i64 12)] (.bin .gtr),I_ 4
 [.tk 7] .mv]) (.cond (.sl 4) (.seq (.reg false [I_ 2 [.cv (.int .i64 6)] .mv]) .ret) (.seq (.reg false [I_ 9 [.tk 0] .mv,I_ 10 [.tk 3] .mv,I_ 11 [.cv (.func 64 [] []),.sl 9,.sl 10] (.call 3),I_ 8 [.tk 11] .mv]) (.cond (.sl
 8) (.seq (.reg false [I_ 2 [.cv (.int .i64 3)] .mv]) .ret) .skip))))) (.seq (.reg false [I_ 2 [.cv (.int .i64 0)] .mv]) .ret)))
theorem lxx22:linkF Tryz.prog ann22 22=some (xrc22,12,[.tmp 2]):=by kernel_rfl
def x22 (panels:(List (Int×Int))):Option Int :=
 if (decide ((12:Int)<(panels.length:Int)))=true then
  some (6:Int)
 else
  (x64 panels (fun y0=>x63 y0)).bind fun r1 =>
  if r1=true then
   some (3:Int)
  else
   some (0:Int)
theorem x22_ok {panels:(List (Int×Int))} {v:Int} (h:x22 panels=some v):PO 22 [(.lst (panels.flatMap pr) panels.length .shared)] (I v):=by
 refine fn_pureW hmix lxx22 rfl rfl fun Q hQ=>?_
 have hR:∀ T H,RetW [.tmp 2] (I v) .ret T H→Q .ret T H:=fun T H hh=>hQ _ T H hh
 unfold x22 at h
 unfold xrc22
 skip
 conv=>whnf
 rcases bt (decide ((12:Int)<(panels.length:Int))) with hb1 | hb1
 ·rw [hb1]
  conv=>whnf
  replace h:=it_t hb1 h
  obtain rfl:=Option.some.inj h
  exact hR _ _ ⟨.inr rfl,_,rfl,_,frz_pure rfl,rfl⟩
 ·rw [hb1]
  conv=>whnf
  replace h:=it_f hb1 h
  obtain ⟨r1,hb2,h⟩:=bd_some h
  refine ⟨(allc (pu_flat (fun _=>(allc rfl (allc rfl rfl))) _ _ _) (allc (pu_fn rfl rfl) rfl)),_,x64_ok ⟨rfl,by simp⟩ (fun _ _ hy=>x63_ok hy) hb2,?_⟩
  conv=>whnf
  cases r1
  ·conv=>whnf
   replace h:=it_f rfl h
   obtain rfl:=Option.some.inj h
   exact hR _ _ ⟨.inr rfl,_,rfl,_,frz_pure rfl,rfl⟩
  ·conv=>whnf
   replace h:=it_t rfl h
   obtain rfl:=Option.some.inj h
   exact hR _ _ ⟨.inr rfl,_,rfl,_,frz_pure rfl,rfl⟩

noncomputable def xrc23_1:RC :=
 .loop (some [i_,o_,o_,i_,o_,o_,o_,o_,o_,o_,o_,o_,o_,o_,o_,o_,o_,o_,o_,o_,o_,o_,o_,o_,o_,o_,o_,o_,o_,o_,o_,o_,o_,o_,o_,o_]) (.seq (.seq (.reg false [I_ 8 [.sl 3] .mv,I_ 9 [.sl 0] .mv,I_ 10 [.tk 9] .lenS,I_ 11 [.tv 8,.tv 10] (.bin .lss)]) (.cond (.sl 11) .skip (.exit 0))) (.seq (.block 1 (.seq (.reg false [I_
 14 [.sl 0] .mv,I_ 15 [.sl 3] .mv,I_ 16 [.tv 14,.tv 15] (.ia 2),I_ 17 [.tv 16] (.ld (.str 2)),I_ 4 [] (.alloc [.int .i64 0,.int .i64 0]),⟨none,[.sl 4,.tk 17],none,none,.st 2⟩]) (.seq (.reg false [I_ 18 [.sl 4] (.fa
 0),I_ 19 [.tv 18] (.ld .one),I_ 20 [.tv 19,.cv (.int .i64 0)] (.bin .lss),I_ 21 [.tk 20] .mv,⟨some 22,[.sl 4],some (21,false),none,.fa 0⟩,⟨some 23,[.tv 22],some (21,false),none,.ld .one⟩,⟨some 24,[.tv 23,.cv
 (.int .i64 20)],some (21,false),none,.bin .gtr⟩,I_ 25 [.tv 21,.cv (.bool true),.tv 24] .pick,I_ 26 [.tk 25] .mv,⟨some 27,[.sl 4],some (26,false),none,.fa 1⟩,⟨some 28,[.tv 27],some (26,false),none,.ld .one⟩,
 ⟨some 29,[.tv 28,.cv (.int .i64 1)],some (26,false),none,.bin .lss⟩,I_ 30 [.tv 26,.cv (.bool true),.tv 29] .pick,I_ 31 [.tk 30] .mv,⟨some 32,[.tv 4],some (31,false),none,.fa 1⟩,⟨some 33,[.tv 32],some (31,
 false),none,.ld .one⟩,⟨some 34,[.tv 33,.cv (.int .i64 24)],some (31,false),none,.bin .gtr⟩,I_ 35 [.tv 31,.cv (.bool true),.tv 34] .pick]) (.cond (.sl 35) (.seq (.reg false [I_ 2 [.cv (.int .i64 3)] .mv]) .ret)
 .skip)))) (.reg false [I_ 12 [.tk 3] .mv,I_ 13 [.tv 12,.cv (.int .i64 1)] (.bin .add),I_ 3 [.tk 13] .mv])))
noncomputable def xrc23:RC :=
 .seq (.reg false [I_ 2 [.cv (.int .i64 0)] .mv]) (.seq (.seq (.reg false [I_ 5 [.sl 0] .mv,I_ 6 [.tk 5] .lenS,I_ 7 [.tv 6,.cv (.int .i64 12)] (.bin .gtr)]) (.cond (.sl 7) (.seq (.reg false [I_ 2 [.cv (.int .i64 6)] .mv]) .ret)
 .skip)) (.seq (.seq (.reg false [I_ 3 [.cv (.int .i64 0)] .mv]) (.block 0 xrc23_1)) (.seq (.reg false [I_ 2 [.cv (.int .i64 0)] .mv]) .ret)))
theorem lxx23:linkF Tryz.prog ann23 23=some (xrc23,36,[.tmp 2]):=by kernel_rfl
def x23_l1 (panels:(List (Int×Int))) (kl1_0:Unit→Option Int):Nat→Int→Option Int
 | 0,_=>none
 | m+1,s1 =>
   if (decide (s1<(panels.length:Int)))=true then
    gd (0≤s1∧s1<(panels.length:Int)) <|
    if (decide ((ix panels s1).1<(0:Int)))=true then
     some (3:Int)
    else
     if (decide ((20:Int)<(ix panels s1).1))=true then
      some (3:Int)
     else
      if (decide ((ix panels s1).2<(1:Int)))=true then
       some (3:Int)
      else
       if (decide ((24:Int)<(ix panels s1).2))=true then
        some (3:Int)
       else
        x23_l1 panels kl1_0 m (w (s1+(1:Int)))
   else
    kl1_0 ()
def x23 (panels:(List (Int×Int))):Option Int :=
 if (decide ((12:Int)<(panels.length:Int)))=true then
  some (6:Int)
 else
  x23_l1 panels (fun _ =>
    some (0:Int)) FU (0:Int)
theorem x23_l1_ok {panels:(List (Int×Int))} {kl1_0:Unit→Option Int} {s1:Int} {v:Int} {Q:Ex→List AV→List AObj→Prop}   (hR:∀ T H,RetW [.tmp 2] (I v) .ret T H→Q .ret T H) (hkl1_0:∀ (u0:AV) (u2:AV) (u3:AV) (u4:AV) (u5:AV) (u6:AV) (u7:AV) (u8:AV) (u9:AV) (u10:AV) (u11:AV) (u12:AV) (u13:AV) (u14:AV) (u15:AV) (u16:AV) (u17:AV) (u18:AV) (u19:AV) (u20:AV) (u21:AV) (u22:AV) (u23:AV) (u24:AV) (u25:AV) (u26:AV) (u27:AV) (u28:AV) (u29:AV) (u30:AV) (u31:AV) (u32:AV) (u33:AV) (u34:AV) (u35:AV) (Yq:List AObj),kl1_0 ()=some v→Q (.exit 0) [u0,J,u2,u3,u4,u5,u6,u7,u8,u9,u10,u11,u12,u13,u14,u15,u16,u17,u18,u19,u20,u21,u22,u23,u24,u25,u26,u27,u28,u29,u30,u31,u32,u33,u34,u35] (Yq)) {T:List AV} (hT:zipKeep [i_,o_,o_,i_,o_,o_,o_,o_,o_,o_,o_,o_,o_,o_,o_,o_,o_,o_,o_,o_,o_,o_,o_,o_,o_,o_,o_,o_,o_,o_,o_,o_,o_,o_,o_,o_] T=slots 36 [(0,(.lst (panels.flatMap pr) panels.length .shared)),(3,(I s1))]) (h:x23_l1 panels kl1_0 FU s1=some v) :
  wpR Tryz.prog ann23 23 0 none xrc23_1 T [] Q:=by
 unfold xrc23_1
 skip
 refine wp_loop hT ?_
 refine .intro (fun m T H=>∃ (s1:Int) (Y23_1:List AObj),T=slots 36 [(0,(.lst (panels.flatMap pr) panels.length .shared)),(3,(I s1))]∧H=(Y23_1)∧x23_l1 panels kl1_0 m s1=some v) FU ⟨s1,[],rfl,rfl,h⟩ ?_
 clear h hT
 rintro m T H ⟨s1,Y23_1,rfl,rfl,h⟩
 cases m
 ·exact none_ne h
 rename_i m
 rw [x23_l1.eq_2] at h
 conv=>whnf
 rcases bt (decide (s1<(panels.length:Int))) with hb2 | hb2
 ·rw [hb2]
  conv=>whnf
  replace h:=it_t hb2 h
  obtain ⟨hb3,h⟩:=gd_some h
  refine ⟨hb3,?_⟩
  rw [dropS pr 2 pr_len panels s1 hb3]
  conv=>whnf
  refine nthK_of (x:=AObj.cells [(I (0:Int)),(I (0:Int))]) (by first | with_reducible exact get_concat _ _ | exact get_concat _ _ | exact ga (get_concat _ _) | rfl | (simp [List.getElem?_append,AV.settle];done)) ?_
  conv=>whnf
  rw [set_concat]
  refine nthK_of (x:=AObj.cells [(I (ix panels s1).1),(I (ix panels s1).2)]) (by first | with_reducible exact get_concat _ _ | exact get_concat _ _ | exact ga (get_concat _ _) | rfl | (simp [List.getElem?_append,AV.settle];done)) ?_
  conv=>whnf
  rcases bt (decide ((ix panels s1).1<(0:Int))) with hb4 | hb4
  ·rw [hb4]
   conv=>whnf
   replace h:=it_t hb4 h
   obtain rfl:=Option.some.inj h
   exact hR _ _ ⟨.inr rfl,_,rfl,_,frz_pure rfl,rfl⟩
  ·rw [hb4]
   conv=>whnf
   replace h:=it_f hb4 h
   refine nthK_of (x:=AObj.cells [(I (ix panels s1).1),(I (ix panels s1).2)]) (by first | with_reducible exact get_concat _ _ | exact get_concat _ _ | exact ga (get_concat _ _) | rfl | (simp [List.getElem?_append,AV.settle];done)) ?_
   conv=>whnf
   rcases bt (decide ((20:Int)<(ix panels s1).1)) with hb5 | hb5
   ·rw [hb5]
    conv=>whnf
    replace h:=it_t hb5 h
    obtain rfl:=Option.some.inj h
    exact hR _ _ ⟨.inr rfl,_,rfl,_,frz_pure rfl,rfl⟩
   ·rw [hb5]
    conv=>whnf
    replace h:=it_f hb5 h
    refine nthK_of (x:=AObj.cells [(I (ix panels s1).1),(I (ix panels s1).2)]) (by first | with_reducible exact get_concat _ _ | exact get_concat _ _ | exact ga (get_concat _ _) | rfl | (simp [List.getElem?_append,AV.settle];done)) ?_
    conv=>whnf
    rcases bt (decide ((ix panels s1).2<(1:Int))) with hb6 | hb6
    ·rw [hb6]
     conv=>whnf
     replace h:=it_t hb6 h
     obtain rfl:=Option.some.inj h
     exact hR _ _ ⟨.inr rfl,_,rfl,_,frz_pure rfl,rfl⟩
    ·rw [hb6]
     conv=>whnf
     replace h:=it_f hb6 h
     refine nthK_of (x:=AObj.cells [(I (ix panels s1).1),(I (ix panels s1).2)]) (by first | with_reducible exact get_concat _ _ | exact get_concat _ _ | exact ga (get_concat _ _) | rfl | (simp [List.getElem?_append,AV.settle];done)) ?_
     conv=>whnf
     rcases bt (decide ((24:Int)<(ix panels s1).2)) with hb7 | hb7
     ·rw [hb7]
      conv=>whnf
      replace h:=it_t hb7 h
      obtain rfl:=Option.some.inj h
      exact hR _ _ ⟨.inr rfl,_,rfl,_,frz_pure rfl,rfl⟩
     ·rw [hb7]
      conv=>whnf
      replace h:=it_f hb7 h
      exact ⟨m,Nat.lt_succ_self m,(w (s1+(1:Int))),_,rfl,rfl,h⟩
 ·rw [hb2]
  conv=>whnf
  replace h:=it_f hb2 h
  exact hkl1_0 _ _ _ _ _ _ _ _ _ _ _ _ _ _ _ _ _ _ _ _ _ _ _ _ _ _ _ _ _ _ _ _ _ _ _ _ h
theorem x23_ok {panels:(List (Int×Int))} {v:Int} (h:x23 panels=some v):PO 23 [(.lst (panels.flatMap pr) panels.length .shared)] (I v):=by
 refine fn_pureW hmix lxx23 rfl rfl fun Q hQ=>?_
 have hR:∀ T H,RetW [.tmp 2] (I v) .ret T H→Q .ret T H:=fun T H hh=>hQ _ T H hh
 unfold x23 at h
 unfold xrc23
 obtain ⟨c_1,g_1⟩:∃ c,xrc23_1=c:=⟨_,rfl⟩
 rw [g_1]
 conv=>whnf
 rcases bt (decide ((12:Int)<(panels.length:Int))) with hb1 | hb1
 ·rw [hb1]
  conv=>whnf
  replace h:=it_t hb1 h
  obtain rfl:=Option.some.inj h
  exact hR _ _ ⟨.inr rfl,_,rfl,_,frz_pure rfl,rfl⟩
 ·rw [hb1]
  conv=>whnf
  replace h:=it_f hb1 h
  subst g_1
  refine x23_l1_ok ?_ ?_ (by exact rfl) h
  ·exact fun T H hh=>hR T H hh
  ·intro u0 u2 u3 u4 u5 u6 u7 u8 u9 u10 u11 u12 u13 u14 u15 u16 u17 u18 u19 u20 u21 u22 u23 u24 u25 u26 u27 u28 u29 u30 u31 u32 u33 u34 u35 Yq h
   conv=>whnf
   obtain rfl:=Option.some.inj h
   exact hR _ _ ⟨.inr rfl,_,rfl,_,frz_pure rfl,rfl⟩

end Go.Proofs.YtbnbjjgagikobaaGreat.Ab


namespace Go.Proofs.YtbnbjjgagikobaaGreat.Ab
open Go
set_option maxRecDepth 20000
set_option maxHeartbeats 4000000

noncomputable def xrc25_1:RC :=
 .loop (some [i_,o_,o_,i_,i_,o_,o_,o_,o_,o_,o_,o_,o_,o_,o_,o_,o_,o_,o_,o_,o_,o_,o_]) (.seq (.seq (.reg false [I_ 8 [.sl 4] .mv,I_ 9 [.sl 0]
 .mv,I_ 10 [.tk 9] .lenS,I_ 11 [.tv 8,.tv 10] (.bin .lss)]) (.cond (.sl 11) .skip (.exit 0))) (.seq (.block 1 (.reg false [I_ 14 [.tk 3] .mv,I_ 15 [.sl 0] .mv,I_ 16 [.sl 4] .mv,I_ 17 [.tv 15,.tv 16] (.ia 1),I_ 18 [.tv
 17] (.ld .one),I_ 19 [.tk 18] .lenS,I_ 20 [.tv 14,.tv 19] (.bin .add),I_ 3 [.tk 20] .mv])) (.reg false [I_ 12 [.tk 4] .mv,I_ 13 [.tv 12,.cv (.int .i64 1)] (.bin .add),I_ 4 [.tk 13] .mv])))
noncomputable def xrc25:RC :=
 .seq (.reg false [I_ 2 [.cv (.bool false)] .mv]) (.seq (.seq (.reg false [I_ 5 [.sl 0] .mv,I_ 6 [.tk 5] .lenS,I_ 7 [.tv 6,.cv (.int .i64 20)] (.bin .gtr)]) (.cond (.sl 7) (.seq (.reg false [I_ 2 [.cv (.bool true)] .mv]) .ret)
 .skip)) (.seq (.reg false [I_ 3 [.cv (.int .i64 0)] .mv]) (.seq (.seq (.reg false [I_ 4 [.cv (.int .i64 0)] .mv]) (.block 0 xrc25_1)) (.seq (.reg false [I_ 21 [.tk 3] .mv,I_ 22 [.tv 21,.cv (.int .i64 40)] (.bin .gtr),I_ 2
 [.tk 22] .mv]) .ret))))
theorem lxx25:linkF Tryz.prog ann25 25=some (xrc25,23,[.tmp 2]):=by kernel_rfl
def x25_l1 (l:(List (List Int))) (kl1_0:Int→Option Bool):Nat→Int→Int→Option Bool
 | 0,_,_=>none
 | m+1,s1,s2 =>
   if (decide (s2<(l.length:Int)))=true then
    gd (0≤s2∧s2<(l.length:Int)) <|
    x25_l1 l kl1_0 m (w (s1+((ix l s2).length:Int))) (w (s2+(1:Int)))
   else
    kl1_0 s1
def x25 (l:(List (List Int))):Option Bool :=
 if (decide ((20:Int)<(l.length:Int)))=true then
  some true
 else
  x25_l1 l (fun z1 =>
    some (decide ((40:Int)<z1))) FU (0:Int) (0:Int)
theorem x25_l1_ok {l:(List (List Int))} {kl1_0:Int→Option Bool} {s1:Int} {s2:Int} {v:Bool} {Q:Ex→List AV→List AObj→Prop}   (hkl1_0:∀ (z1:Int) (u0:AV) (u2:AV) (u4:AV) (u5:AV) (u6:AV) (u7:AV) (u8:AV) (u9:AV) (u10:AV) (u11:AV) (u12:AV) (u13:AV) (u14:AV) (u15:AV) (u16:AV) (u17:AV) (u18:AV) (u19:AV) (u20:AV) (u21:AV) (u22:AV),kl1_0 z1=some v→Q (.exit 0) [u0,J,u2,(I z1),u4,u5,u6,u7,u8,u9,u10,u11,u12,u13,u14,u15,u16,u17,u18,u19,u20,u21,u22] []) {T:List AV} (hT:zipKeep [i_,o_,o_,i_,i_,o_,o_,o_,o_,o_,o_,o_,o_,o_,o_,o_,o_,o_,o_,o_,o_,o_,o_] T=slots 23 [(0,(.lst (l.map L1) l.length .shared)),(3,(I s1)),(4,(I s2))]) (h:x25_l1 l kl1_0 FU s1 s2=some v) :
  wpR Tryz.prog ann25 25 0 none xrc25_1 T [] Q:=by
 unfold xrc25_1
 skip
 refine wp_loop hT ?_
 refine .intro (fun m T H=>∃ (s1:Int) (s2:Int),T=slots 23 [(0,(.lst (l.map L1) l.length .shared)),(3,(I s1)),(4,(I s2))]∧H=[]∧x25_l1 l kl1_0 m s1 s2=some v) FU ⟨s1,s2,rfl,rfl,h⟩ ?_
 clear h hT
 rintro m T H ⟨s1,s2,rfl,rfl,h⟩
 cases m
 ·exact none_ne h
 rename_i m
 rw [x25_l1.eq_2] at h
 conv=>whnf
 rcases bt (decide (s2<(l.length:Int))) with hb2 | hb2
 ·rw [hb2]
  conv=>whnf
  replace h:=it_t hb2 h
  obtain ⟨hb3,h⟩:=gd_some h
  refine ⟨hb3,?_⟩
  rw [drop1 L1 l s2 hb3]
  conv=>whnf
  exact ⟨m,Nat.lt_succ_self m,(w (s1+((ix l s2).length:Int))),(w (s2+(1:Int))),rfl,rfl,h⟩
 ·rw [hb2]
  conv=>whnf
  replace h:=it_f hb2 h
  exact hkl1_0 _ _ _ _ _ _ _ _ _ _ _ _ _ _ _ _ _ _ _ _ _ _ h
theorem x25_ok {l:(List (List Int))} {v:Bool} (h:x25 l=some v):PO 25 [(.lst (l.map L1) l.length .shared)] (B v):=by
 refine fn_pureW hmix lxx25 rfl rfl fun Q hQ=>?_
 have hR:∀ T H,RetW [.tmp 2] (B v) .ret T H→Q .ret T H:=fun T H hh=>hQ _ T H hh
 unfold x25 at h
 unfold xrc25
 obtain ⟨c_1,g_1⟩:∃ c,xrc25_1=c:=⟨_,rfl⟩
 rw [g_1]
 conv=>whnf
 rcases bt (decide ((20:Int)<(l.length:Int))) with hb1 | hb1
 ·rw [hb1]
  conv=>whnf
  replace h:=it_t hb1 h
  obtain rfl:=Option.some.inj h
  exact hR _ _ ⟨.inr rfl,_,rfl,_,frz_pure rfl,rfl⟩
 ·rw [hb1]
  conv=>whnf
  replace h:=it_f hb1 h
  subst g_1
  refine x25_l1_ok ?_ (by exact rfl) h
  intro z1 u0 u2 u4 u5 u6 u7 u8 u9 u10 u11 u12 u13 u14 u15 u16 u17 u18 u19 u20 u21 u22 h
  conv=>whnf
  obtain rfl:=Option.some.inj h
  exact hR _ _ ⟨.inr rfl,_,rfl,_,frz_pure rfl,rfl⟩

end Go.Proofs.YtbnbjjgagikobaaGreat.Ab


namespace Go.Proofs.YtbnbjjgagikobaaGreat.Ab
open Go
theorem outOf_true {lo hi x:Int}:outOf lo hi x=true↔x<lo∨hi<x:=by
 simp only [outOf,Bool.or_eq_true,decide_eq_true_eq]
theorem x87_eq (n lo hi:Int):x87 n lo hi=some (outOf lo hi n):=by
 unfold x87 outOf;by_cases h:n<lo <;> simp [h]
theorem x80_l1_eq {s:List Int} {f:Int→Option Bool} {k:Unit→Option Int} {p:Int→Bool} (hf:∀ x∈s,f x=some (p x)) (hs:s.length≤140737488355328):∀ (m i:Nat) (z:Int),z=i→i≤s.length→s.length-i<m→x80_l1 s f k m z=if (s.drop i).any p=true then some (idxOf p (s.drop i) i) else k ()
 | 0,i,_,_,_,h=>absurd h (by omega)
 | m+1,i,_,rfl,hi,hm=>by
   rw [x80_l1]
   by_cases h:i<s.length
   ·rw [iflt h,gdi h,ix_nat h,hf _ (List.getElem_mem h),Option.bind_some,List.drop_eq_getElem_cons h,List.any_cons,idxOf]
    by_cases hp:p s[i]=true
    ·simp [hp]
    ·rw [if_neg hp,if_neg hp,w_succ i (by omega),x80_l1_eq hf hs m (i+1) _ rfl (by omega) (by omega)];simp [hp]
   ·rw [ifge h,List.drop_eq_nil_of_le (by omega)];simp
theorem x80_eq {s:List Int} {f:Int→Option Bool} {p:Int→Bool} (hf:∀ x∈s,f x=some (p x)) (hs:s.length≤140737488355328):x80 s f=some (idxOf p s 0):=by
 unfold x80
 have:=x80_l1_eq (k:=fun _=>some (-1:Int)) hf hs FU 0 0 rfl (Nat.zero_le _) (FU_lt (by omega))
 rw [List.drop_zero] at this
 rw [this]
 by_cases h:s.any p=true
 ·rw [if_pos h]
 ·rw [if_neg h]
  have:=(not_congr (idxOf_nonneg p s 0)).2 h
  have e:∀ (l:List Int) (i:Nat),l.any p=false→idxOf p l i=-1:=fun l=>by
   induction l with
   | nil=>intro i _;rfl
   | cons x l ih =>
     intro i hh
     simp only [List.any_cons,Bool.or_eq_false_iff] at hh
     rw [idxOf,if_neg (by simp [hh.1]),ih _ hh.2]
  rw [e s 0 (by simpa using h)]
theorem x86_eq {s:List Int} {f:Int→Option Bool} {p:Int→Bool} (hf:∀ x∈s,f x=some (p x)) (hs:s.length≤140737488355328):x86 s f=some (s.any p):=by
 rw [x86,x80_eq hf hs,Option.bind_some,idxOf_any]
theorem x88_l1_eq {s:List (Int×Int)} {f:Int×Int→Option Bool} {k:Unit→Option Int} {p:Int×Int→Bool} (hf:∀ x∈s,f x=some (p x)) (hs:s.length≤140737488355328):∀ (m i:Nat) (z:Int),z=i→i≤s.length→s.length-i<m→x88_l1 s f k m z=if (s.drop i).any p=true then some (idxOf p (s.drop i) i) else k ()
 | 0,i,_,_,_,h=>absurd h (by omega)
 | m+1,i,_,rfl,hi,hm=>by
   rw [x88_l1]
   by_cases h:i<s.length
   ·rw [iflt h,gdi h,ix_nat h,hf _ (List.getElem_mem h),Option.bind_some,List.drop_eq_getElem_cons h,List.any_cons,idxOf]
    by_cases hp:p s[i]=true
    ·simp [hp]
    ·rw [if_neg hp,if_neg hp,w_succ i (by omega),x88_l1_eq hf hs m (i+1) _ rfl (by omega) (by omega)];simp only [hp,Bool.false_or]
   ·rw [ifge h,List.drop_eq_nil_of_le (by omega)];simp
theorem x64_eq {s:List (Int×Int)} {f:Int×Int→Option Bool} {p:Int×Int→Bool} (hf:∀ x∈s,f x=some (p x)) (hs:s.length≤140737488355328):x64 s f=some (s.any p):=by
 have:=x88_l1_eq (k:=fun _=>some (-1:Int)) hf hs FU 0 0 rfl (Nat.zero_le _) (FU_lt (by omega))
 rw [List.drop_zero] at this
 rw [x64,x88,this]
 by_cases h:s.any p=true
 ·rw [if_pos h,Option.bind_some]
  have:=(idxOf_nonneg p s 0).2 h
  simp [h,this]
 ·rw [if_neg h,Option.bind_some]
  simp only [Bool.not_eq_true] at h
  rw [h];rfl
theorem x60_eq (lo hi:Int) (l:List Int) (hl:l.length≤140737488355328):x60 lo hi l=some (!(l.any (outOf lo hi))):=by
 rw [x60,x86_eq (p:=outOf lo hi) (fun x _=>x87_eq x lo hi) hl,Option.bind_some]
theorem x60_one (lo hi x:Int):x60 lo hi [x]=some (!(outOf lo hi x)):=by
 rw [x60_eq lo hi [x] (by simp)];simp
theorem x61_l1_eq {l:List Int} {b:Int} {k:Unit→Option Bool} (hl:l.length≤9223372036854775807) (hb:0≤b∧b≤1000000):∀ (m i:Nat) (z n:Int),z=i→(i:Int)≤n→n≤1000001→i≤l.length→l.length-i<m→x61_l1 l b k m n z=if riseGo b n (l.drop i)=true then k () else some false
 | 0,i,_,_,_,_,_,_,h=>absurd h (by omega)
 | m+1,i,_,n,rfl,hn0,hn1,hi,hm=>by
   rw [x61_l1]
   by_cases h:i<l.length
   ·rw [iflt h,gdi h,ix_nat h,x60_one,w_id (n:=b-1) (by omega),Option.bind_some,List.drop_eq_getElem_cons h,riseGo]
    cases ho:outOf n (b-1) l[i] with
    | true=>simp
    | false =>
      have:=outOf_false.1 ho
      rw [w_succ i (by omega),w_id (n:=l[i]+1) (by omega),x61_l1_eq hl hb m (i+1) _ (l[i]+1) rfl (by omega) (by omega) (by omega) (by omega)]
      simp
   ·rw [ifge h,List.drop_eq_nil_of_le (by omega)];simp [riseGo]
theorem x61_eq {l:List Int} {b:Int} (hl:l.length≤9223372036854775807) (hb:0≤b∧b≤1000000):x61 l b=some (riseGo b 0 l):=by
 have:=x61_l1_eq (k:=fun _=>some true) hl hb FU 0 0 0 rfl (by omega) (by omega) (Nat.zero_le _) (FU_lt (by omega))
 rw [List.drop_zero] at this
 rw [x61,this]
 cases riseGo b 0 l <;> rfl
theorem x62_l1_eq {l:List Int} {b:Int} {k:Unit→Option Bool} (hl:l.length≤9223372036854775807) (hb:0≤b∧b≤1000000):∀ (m i:Nat) (z:Int),z=i→(i=0∨((i:Int)≤nextOf l i∧nextOf l i≤1000001))→i≤l.length→l.length-i<m→x62_l1 l b k m z=if riseGo b (nextOf l i) (l.drop i)=true then k () else some false
 | 0,i,_,_,_,_,h=>absurd h (by omega)
 | m+1,i,_,rfl,hn,hi,hm=>by
   rw [x62_l1]
   by_cases h:i<l.length
   ·have en:nextOf l (i+1)=l[i]+1:=by unfold nextOf;simp [h]
    rw [iflt h,gdi h,gdi h,gdi h,ix_nat h,List.drop_eq_getElem_cons h,riseGo]
    by_cases h1:l[i]<0
    ·rw [if_pos (decide_eq_true h1)]
     have:outOf (nextOf l i) (b-1) l[i]=true:=by
      rw [outOf_true]
      rcases hn with rfl | hn
      ·rw [nextOf,if_pos rfl];omega
      ·omega
     rw [if_pos this,if_neg (by decide)]
    rw [if_neg (by simp [h1])]
    by_cases h2:b≤l[i]
    ·rw [if_pos (decide_eq_true h2),if_pos (outOf_true.2 (by omega)),if_neg (by decide)]
    rw [if_neg (by simp [h2])]
    have hstep:(i:Int)≤l[i]→x62_l1 l b k m (w ((i:Int)+1))=if riseGo b (l[i]+1) (l.drop (i+1))=true then k () else some false:=fun hge=>by
     rw [w_succ i (by omega),x62_l1_eq hl hb m (i+1) _ rfl (.inr (by rw [en];omega)) (by omega) (by omega),en]
    by_cases h3:(0:Int)<(i:Int)
    ·rw [if_pos (decide_eq_true h3),show w ((i:Int)-1)=((i-1:Nat):Int) by rw [w_id (by omega)];omega,gdi (show i-1<l.length by omega),ix_nat (show i-1<l.length by omega)]
     have ep:nextOf l i=l[i-1]+1:=by unfold nextOf;rw [if_neg (by omega)];simp [show i-1<l.length by omega]
     rw [ep]
     by_cases h4:l[i]≤l[i-1]
     ·rw [if_pos (decide_eq_true h4),if_pos (outOf_true.2 (by omega)),if_neg (by decide)]
     ·have ho:outOf (l[i-1]+1) (b-1) l[i]=false:=outOf_false.2 (by omega)
      rw [hstep (by rcases hn with rfl | hn <;> omega)]
      simp [h4,ho]
    ·have i0:i=0:=by omega
     subst i0
     have ho:outOf 0 (b-1) l[0]=false:=outOf_false.2 (by omega)
     rw [if_neg (by simp),hstep (by omega),show nextOf l 0=0 from rfl]
     simp [ho]
   ·rw [ifge h,List.drop_eq_nil_of_le (by omega)];simp [riseGo]
theorem x62_eq {l:List Int} {b:Int} (hl:l.length≤9223372036854775807) (hb:0≤b∧b≤1000000):x62 l b=some (riseGo b 0 l):=by
 have:=x62_l1_eq (k:=fun _=>some true) hl hb FU 0 0 rfl (.inl rfl) (Nat.zero_le _) (FU_lt (by omega))
 rw [List.drop_zero,show nextOf l 0=0 from rfl] at this
 rw [x62,this]
 cases riseGo b 0 l <;> rfl
abbrev bErr (b:Bed):Int:=bedErr b.1 b.2.1 b.2.2.1 b.2.2.2
theorem x20_eq (b:Bed) (hb:b.2.1.length≤1000):x20 b=some (bErr b):=by
 obtain ⟨o,br,h,c⟩:=b
 simp only at hb
 simp only [x20,x60_one,Option.bind_some,bErr,bedErr]
 cases h1:outOf 1 10 o with
 | true=>simp
 | false =>
   have:=outOf_false.1 h1
   rw [x61_eq (by omega) (by omega),Option.bind_some]
   cases riseGo o 0 br with
   | false=>simp
   | true =>
     by_cases h3:(br.length:Int)=o
     ·simp [h3]
     ·cases h4:outOf 0 20 h with
      | true=>simp [h3]
      | false =>
        unfold outOf
        by_cases h5:c<0 <;> by_cases h6:10<c <;> simp [h3,h5,h6]
theorem x21_eq (b:Bed) (hb:b.2.1.length≤1000):x21 b=some (bErr b):=by
 obtain ⟨o,br,h,c⟩:=b
 simp only at hb
 have e1:outOf 1 10 o=(decide (o<1) || decide (10<o)):=rfl
 simp only [x21,bErr,bedErr,e1]
 by_cases h1:o<1
 ·simp [h1]
 by_cases h2:10<o
 ·simp [h1,h2]
 rw [x62_eq (by omega) (by omega),Option.bind_some]
 simp only [h1,h2]
 cases riseGo o 0 br with
 | false=>simp
 | true =>
   by_cases h3:(br.length:Int)=o
   ·simp [h3]
   ·unfold outOf
    by_cases h4:h<0 <;> by_cases h5:20<h <;> by_cases h6:c<0 <;> by_cases h7:10<c <;> simp [h3,h4,h5,h6,h7]
def badP (p:Int×Int):Bool:=outOf 0 20 p.1 || outOf 1 24 p.2
def pErr (ps:List (Int×Int)):Int:=if 12<ps.length then 6 else if ps.any badP=true then 3 else 0
theorem x63_eq (p:Int×Int):x63 p=some (badP p):=by
 simp only [x63,x60_one,Option.bind_some,badP]
 cases outOf 0 20 p.1 with
 | true=>simp
 | false=>unfold outOf;by_cases h:p.2<1 <;> simp [h]
theorem x22_eq (ps:List (Int×Int)):x22 ps=some (pErr ps):=by
 unfold x22 pErr
 by_cases h:12<ps.length
 ·rw [if_pos (decide_eq_true (by omega)),if_pos h]
 ·rw [if_neg (by rw [decide_eq_true_eq];omega),if_neg h,x64_eq (p:=badP) (fun p _=>x63_eq p) (by omega),Option.bind_some]
  cases ps.any badP <;> rfl
theorem x23_l1_eq {ps:List (Int×Int)} {k:Unit→Option Int} (hl:ps.length≤1000):∀ (m i:Nat) (z:Int),z=i→i≤ps.length→ps.length-i<m→x23_l1 ps k m z=if (ps.drop i).any badP=true then some 3 else k ()
 | 0,i,_,_,_,h=>absurd h (by omega)
 | m+1,i,_,rfl,hi,hm=>by
   rw [x23_l1]
   by_cases h:i<ps.length
   ·rw [iflt h,gdi h,ix_nat h,List.drop_eq_getElem_cons h,List.any_cons,w_succ i (by omega),x23_l1_eq hl m (i+1) _ rfl (by omega) (by omega)]
    generalize (ps.drop (i+1)).any badP=t
    unfold badP outOf
    by_cases h1:ps[i].1<0 <;> by_cases h2:20<ps[i].1 <;> by_cases h3:ps[i].2<1 <;> by_cases h4:24<ps[i].2 <;> simp [h1,h2,h3,h4]
   ·rw [ifge h,List.drop_eq_nil_of_le (by omega)];simp
theorem x23_eq (ps:List (Int×Int)):x23 ps=some (pErr ps):=by
 unfold x23 pErr
 by_cases h:12<ps.length
 ·rw [if_pos (decide_eq_true (by omega)),if_pos h]
 ·rw [if_neg (by rw [decide_eq_true_eq];omega),if_neg h]
  have:=x23_l1_eq (ps:=ps) (k:=fun _=>some 0) (by omega) FU 0 0 rfl (Nat.zero_le _) (FU_lt (by omega))
  rw [List.drop_zero] at this
  rw [this]
  split <;> rfl
theorem x53_l1_eq {l:List Int} {n:Int} {k:Unit→Option Bool} (hl:l.length≤140737488355328):∀ (m i:Nat) (z:Int),z=i→i≤l.length→l.length-i<m→x53_l1 l n k m z=if n∈l.drop i then some true else k ()
 | 0,i,_,_,_,h=>absurd h (by omega)
 | m+1,i,_,rfl,hi,hm=>by
   rw [x53_l1]
   by_cases h:i<l.length
   ·rw [iflt h,gdi h,ix_nat h,List.drop_eq_getElem_cons h,w_succ i (by omega),x53_l1_eq hl m (i+1) _ rfl (by omega) (by omega)]
    by_cases h1:l[i]=n
    ·rw [if_pos (decide_eq_true h1),if_pos (by simp only [List.mem_cons,h1,true_or])]
    ·rw [if_neg (by simpa using h1)];simp only [List.mem_cons,Ne.symm h1,false_or]
   ·rw [ifge h,List.drop_eq_nil_of_le (by omega)];simp
theorem x53_eq (l:List Int) (n:Int) (hl:l.length≤140737488355328):x53 l n=some (decide (n∈l)):=by
 have:=x53_l1_eq (n:=n) (k:=fun _=>some false) hl FU 0 0 rfl (Nat.zero_le _) (FU_lt (by omega))
 rw [List.drop_zero] at this
 rw [x53,this]
 by_cases h:n∈l <;> simp [h]
theorem wholeL_snoc (i:Nat) (br:List Int):wholeL (i+1) br=wholeL i br++(if (i:Int)∈br then [] else [(i:Int)]):=by
 unfold wholeL wholeN
 rw [List.range_succ,List.filter_append,List.map_append]
 by_cases h:(i:Int)∈br <;> simp [h]
theorem x51_l1_eq {b:Bed} {k:List Int→Option (List Int)} {o:Nat} (ho:b.1=o) (hb:o≤1000) (hl:b.2.1.length≤1000):∀ (m i:Nat) (z:Int),z=i→i≤o→o-i<m→x51_l1 b k m (wholeL i b.2.1) z=k (wholeL o b.2.1)
 | 0,i,_,_,_,h=>absurd h (by omega)
 | m+1,i,_,rfl,hi,hm=>by
   rw [x51_l1,ho]
   by_cases h:i<o
   ·have hlen:(wholeL i b.2.1).length≤i:=by unfold wholeL;rw [List.length_map];exact wholeN_le i b.2.1
    have ih:=x51_l1_eq (k:=k) ho hb hl m (i+1) _ rfl (by omega) (by omega)
    rw [wholeL_snoc] at ih
    rw [iflt h,x53_eq _ _ (by omega),Option.bind_some,gd_pos (by omega),w_succ i (by omega)]
    by_cases hm:(i:Int)∈b.2.1
    ·rw [if_pos hm,List.append_nil] at ih;rw [if_pos (decide_eq_true hm)];exact ih
    ·rw [if_neg hm] at ih;rw [if_neg (by simpa using hm)];exact ih
   ·obtain rfl:i=o:=by omega
    rw [ifge h]
theorem x51_eq (b:Bed) (hb:0≤b.1∧b.1≤1000) (hl:b.2.1.length≤1000):x51 b=some (wholeL b.1.toNat b.2.1):=by
 have:=x51_l1_eq (b:=b) (k:=fun z=>some z) (o:=b.1.toNat) (by omega) (by omega) hl FU 0 0 rfl (Nat.zero_le _) (FU_lt (by omega))
 rw [x51]
 exact this
structure BedOk (b:Bed):Prop where
 o1:1≤b.1
 o10:b.1≤10
 mem:∀ x∈b.2.1,0≤x∧x<b.1
 nodup:b.2.1.Nodup
 lt:(b.2.1.length:Int)<b.1
 h0:0≤b.2.2.1∧b.2.2.1≤20
 c0:0≤b.2.2.2∧b.2.2.2≤10
theorem rise_spec (b:Int):∀ (l:List Int) (n:Int),riseGo b n l=true→(∀ x∈l,n≤x∧x<b)∧l.Pairwise (·<·)
 | [],n,_=>by simp
 | x::l,n,h=>by
   rw [riseGo] at h
   split at h
   ·cases h
   ·rename_i ho
    have ho:=outOf_false.1 (by simpa using ho)
    obtain ⟨h1,h2⟩:=rise_spec b l (x+1) h
    refine ⟨fun y hy=>?_,List.pairwise_cons.2 ⟨fun y hy=>by have:=h1 y hy;omega,h2⟩⟩
    rcases List.mem_cons.1 hy with rfl | hy
    ·omega
    ·have:=h1 y hy;omega
theorem spec_rise (b:Int):∀ (l:List Int) (n:Int),(∀ x∈l,n≤x∧x<b)→l.Pairwise (·<·)→riseGo b n l=true
 | [],n,_,_=>rfl
 | x::l,n,h,hp=>by
   obtain ⟨p1,p2⟩:=List.pairwise_cons.1 hp
   rw [riseGo,if_neg (by rw [Bool.not_eq_true,outOf_false];have:=h x (by simp);omega)]
   exact spec_rise b l (x+1) (fun y hy=>by have:=p1 y hy;have:=h y (by simp [hy]);omega) p2
theorem rise_iff (b:Int) (l:List Int):riseGo b 0 l=true↔(∀ x∈l,0≤x∧x<b)∧l.Pairwise (·<·):=⟨rise_spec b l 0,fun h=>spec_rise b l 0 h.1 h.2⟩
theorem rise_len {b:Int} {l:List Int} (h:riseGo b 0 l=true) (hb:0≤b):(l.length:Int)≤b:=by
 obtain ⟨h1,h2⟩:=rise_spec b l 0 h
 have h3:l.length≤((List.range b.toNat).map fun (i:Nat)=>(i:Int)).length:=sub_len _ _ (h2.imp fun h=>by omega) fun x hx=>by
  have:=h1 x hx
  exact List.mem_map.2 ⟨x.toNat,by simp;omega,by omega⟩
 simp at h3;omega
theorem bedOk {b:Bed} (h:bErr b=0):BedOk b:=by
 obtain ⟨o,br,he,c⟩:=b
 simp only [bErr,bedErr] at h
 split at h
 ·cases h
 rename_i h1
 split at h
 ·cases h
 rename_i h2
 split at h
 ·cases h
 rename_i h3
 split at h
 ·cases h
 rename_i h4
 have h1:=outOf_false.1 (by simpa using h1)
 have h2:riseGo o 0 br=true:=by simpa using h2
 obtain ⟨r1,r2⟩:=rise_spec o br 0 h2
 have h4:outOf 0 20 he=false∧outOf 0 10 c=false:=by simpa using h4
 have hl:=rise_len h2 (by omega)
 exact ⟨h1.1,h1.2,r1,r2.imp fun h=>by omega,by simp only;omega,outOf_false.1 h4.1,outOf_false.1 h4.2⟩
theorem wholeL_len (o:Nat) (br:List Int):(wholeL o br).length≤o:=by unfold wholeL;rw [List.length_map];exact wholeN_le o br
theorem x59_eq {b:Bed} (hb:BedOk b) {ps:List (Int×Int)} (h1:∀ p∈ps,0≤p.1∧p.1≤20) (h2:ps.length≤1000):x59 b ps=some (b,ps,wholeL b.1.toNat b.2.1,wantL ps):=by
 rw [x59,if_pos ⟨hb.o1,hb.o10,hb.mem,hb.nodup,hb.lt,h1,h2⟩]
theorem x16_eq (b:Bed) (ps:List (Int×Int)):x16 b ps=some (decide (20<b.2.1.length) || decide (20<ps.length)):=by
 unfold x16
 by_cases h:20<b.2.1.length
 ·rw [if_pos (decide_eq_true (by omega))];simp [h]
 ·rw [if_neg (by rw [decide_eq_true_eq];omega),decide_eq_false h,Bool.false_or]
  congr 1
  rw [Bool.eq_iff_iff,decide_eq_true_eq,decide_eq_true_eq];omega
end Go.Proofs.YtbnbjjgagikobaaGreat.Ab


namespace Go.Proofs.YtbnbjjgagikobaaGreat.Ab
open Go
set_option maxRecDepth 20000
set_option maxHeartbeats 4000000
theorem map_get {f:Int→Int} {d:Array Int} {x:Nat} (h:x<d.size):(d.map f)[x]! = f d[x]!:=by simp [h]
theorem map_swp {f:Int→Int} {d:Array Int} {i j:Nat} (hi:i<d.size) (hj:j<d.size):(Sort.swp d i j).map f=Sort.swp (d.map f) i j:=by
 apply Array.ext
 ·simp [Sort.swp]
 ·intro k h1 h2
  simp [Sort.swp,hi,hj,Array.getElem_setIfInBounds]
section
variable {f:Int→Int} {lt lt':Int→Int→Bool} (hlt:∀ x y,lt x y=lt' (f x) (f y))
include hlt
theorem map_insI (a:Nat):∀ (j:Nat) (d:Array Int),j<d.size→(Sort.insInner lt a j d).map f=Sort.insInner lt' a j (d.map f)
 | 0,d,_=>rfl
 | j+1,d,hj=>by
   rw [Sort.insInner,Sort.insInner,map_get hj,map_get (Nat.lt_of_succ_lt hj),←hlt]
   split
   ·rw [map_insI a j _ (by rw [swp_size];omega),map_swp hj (by omega)]
   ·rfl
theorem map_insO (a b i:Nat) (d:Array Int) (hb:b≤d.size):(Sort.insOuter lt a b i d).map f=Sort.insOuter lt' a b i (d.map f):=by
 induction h:b-i generalizing i d with
 | zero=>rw [Sort.insOuter.eq_1,if_neg (by omega),Sort.insOuter.eq_1,if_neg (by omega)]
 | succ n ih=>rw [Sort.insOuter.eq_1,if_pos (by omega),Sort.insOuter.eq_1 lt',if_pos (by omega),ih _ _ (by rw [insI_size];exact hb) (by omega),map_insI hlt a i d (by omega)]
theorem map_ins (d:Array Int) (a b:Nat) (hb:b≤d.size):(Sort.insertionSort lt d a b).map f=Sort.insertionSort lt' (d.map f) a b:=map_insO hlt a b _ d hb
end
def down (l:List Int):List Int:=(Sort.insertionSort (fun x y=>decide (y<x)) l.toArray 0 l.length).toList
theorem down_len (l:List Int):(down l).length=l.length:=by rw [down,Array.length_toList,ins_size,List.size_toArray]
def hrs (ps:List (Int×Int)) (heat:Int):List Int:=(ps.filter fun p=>decide (p.1=heat)).map (·.2)
theorem filter_map_range {α β:Type} (g:Nat→α) (p:α→Bool) (q:α→β):∀ (l:List Nat),(l.filter fun i=>p (g i)).map (fun i=>q (g i))=((l.map g).filter p).map q
 | []=>rfl
 | x::l=>by
   rw [List.filter_cons,List.map_cons,List.filter_cons]
   by_cases h:p (g x)=true
   ·rw [if_pos h,if_pos h,List.map_cons,List.map_cons,filter_map_range g p q l]
   ·rw [if_neg h,if_neg h,filter_map_range g p q l]
theorem range_get {α:Type} [Inhabited α] (l:List α):(List.range l.length).map (fun (i:Nat)=>ix l (i:Int))=l:=by
 apply List.ext_getElem
 ·simp
 ·intro i h1 h2
  rw [List.getElem_map,List.getElem_range,ix_nat h2]
theorem idxs_hrs (ps:List (Int×Int)) (heat:Int):(idxs ps heat).map (fun i=>(ix ps i).2)=hrs ps heat:=by
 rw [idxs,List.map_map]
 have:=filter_map_range (fun (i:Nat)=>ix ps (i:Int)) (fun p=>decide (p.1=heat)) (·.2) (List.range ps.length)
 rw [range_get] at this
 exact this
theorem ofL_hrs (ps:List (Int×Int)) (heat:Int):(ofL ps heat).map (fun i=>(ix ps i).2)=down (hrs ps heat):=by
 rw [ofL,←Array.toList_map,map_ins (lt:=longer ps) (lt':=fun x y=>decide (y<x)) (f:=fun i=>(ix ps i).2) (fun _ _=>rfl) _ _ _ (by simp),down,←idxs_hrs]
 simp
def heads (n:Nat) (l:List Int):List Int:=(chunks n l).map (·.headD 0)
def hH (n:Nat) (l:List Int):Int:=(heads n (down l)).sum
theorem chunks_map (f:Int→Int) (n:Nat) (l:List Int):chunks n (l.map f)=(chunks n l).map (·.map f):=by
 simp [chunks,List.map_map,Function.comp_def,List.map_take,List.map_drop]
theorem chunk_ne {n:Nat} (hn:0<n) {l:List Int} {e:List Int} (h:e∈chunks n l):e≠[]:=by
 obtain ⟨j,hj,rfl⟩:=List.mem_map.1 h
 have:=(chunks_lt hn).1 (List.mem_range.1 hj)
 intro h0
 have:=congrArg List.length h0
 simp at this
 omega
theorem chunk_mem {n:Nat} {l:List Int} {e:List Int} (h:e∈chunks n l):∀ x∈e,x∈l:=by
 obtain ⟨j,hj,rfl⟩:=List.mem_map.1 h
 exact fun x hx=>List.mem_of_mem_drop (List.mem_of_mem_take hx)
theorem chunks_cnt {n:Nat} (hn:0<n) (l:List Int):(chunks n l).length≤l.length:=by
 rw [chunks_len]
 apply Nat.le_of_lt_succ
 rw [Nat.div_lt_iff_lt_mul hn]
 show _<(l.length+1)*n
 have h2:l.length+n≤(l.length+1)*n:=by
  have:l.length≤l.length*n:=Nat.le_mul_of_pos_right _ hn
  rw [Nat.add_mul,Nat.one_mul];omega
 omega
theorem down_pr {Pr:Int→Prop} {l:List Int} (h:∀ x∈l,Pr x):∀ x∈down l,Pr x:=by
 intro x hx
 obtain ⟨i,hi,rfl⟩:=List.mem_iff_getElem.1 hx
 have hi':i<l.length:=by rw [down_len] at hi;exact hi
 have:=ins_pr (lt:=fun x y=>decide (y<x)) (d:=l.toArray) (a:=0) (b:=l.length) (Pr:=Pr) (fun y hy=>by rw [getElem!_pos l.toArray y hy];exact h _ (by simp)) (by simp) i (by simpa using hi')
 rw [getElem!_pos _ i (by rw [ins_size];simpa using hi')] at this
 exact this
theorem sum_le {α:Type} {f:α→Int} {M:Int}:∀ (l:List α),(∀ x∈l,0≤f x∧f x≤M)→0≤(l.map f).sum∧(l.map f).sum≤M*l.length
 | [],_=>by simp
 | x::l,h=>by
   have h1:=h x (by simp)
   have h2:=sum_le l fun y hy=>h y (by simp [hy])
   rw [List.map_cons,List.sum_cons,List.length_cons,Int.natCast_add,Int.mul_add]
   simp only [Int.natCast_one,Int.mul_one]
   omega
theorem head_in {Pr:Int→Prop} {n:Nat} (hn:0<n) {l:List Int} (h:∀ x∈l,Pr x) {e:List Int} (he:e∈chunks n l):Pr (e.headD 0):=by
 cases e with
 | nil=>exact absurd rfl (chunk_ne hn he)
 | cons a e=>exact h a (chunk_mem he a (by simp))
theorem hH_le {n:Nat} (hn:0<n) {l:List Int} (h:∀ x∈l,0≤x∧x≤24):0≤hH n l∧hH n l≤24*l.length:=by
 have h1:=sum_le (f:=fun e:List Int=>e.headD 0) (M:=24) (chunks n (down l)) fun e he=>head_in hn (down_pr h) he
 have h2:=chunks_cnt hn (down l)
 rw [down_len] at h2
 unfold hH heads
 omega
theorem hH_nil (n:Nat) (hn:0<n):hH n []=0:=by
 have:=hH_le hn (l:=[]) (by simp)
 simp at this
 omega
def hSum (n:Nat) (ps:List (Int×Int)) (i:Nat):Int:=((List.range i).map fun (h:Nat)=>hH n (hrs ps (h:Int))).sum
theorem hSum_succ (n:Nat) (ps:List (Int×Int)) (i:Nat):hSum n ps (i+1)=hSum n ps i+hH n (hrs ps (i:Int)):=by
 unfold hSum;rw [List.range_succ,List.map_append,List.sum_append];simp
def hrsOk (ps:List (Int×Int)):Prop:=∀ p∈ps,0≤p.2∧p.2≤24
theorem hrs_in {ps:List (Int×Int)} (h:hrsOk ps) (heat:Int):∀ x∈hrs ps heat,0≤x∧x≤24:=by
 intro x hx
 obtain ⟨p,hp,rfl⟩:=List.mem_map.1 hx
 exact h p (List.mem_filter.1 hp).1
def cnt (ps:List (Int×Int)) (i:Nat):Nat:=((List.range i).map fun (h:Nat)=>(hrs ps (h:Int)).length).sum
theorem cnt_succ (ps:List (Int×Int)) (i:Nat):cnt ps (i+1)=cnt ps i+(hrs ps (i:Int)).length:=by
 unfold cnt;rw [List.range_succ,List.map_append,List.sum_append];simp
theorem cnt_eq (ps:List (Int×Int)) (h:∀ p∈ps,0≤p.1):∀ i,cnt ps i=(ps.filter fun p=>decide (p.1<(i:Int))).length
 | 0=>by
   rw [List.filter_eq_nil_iff.2 fun p hp=>by have:=h p hp;simp;omega];rfl
 | i+1=>by
   rw [cnt_succ,cnt_eq ps h i]
   unfold hrs
   rw [List.length_map]
   clear h
   induction ps with
   | nil=>rfl
   | cons p ps ih =>
     rw [List.filter_cons,List.filter_cons,List.filter_cons]
     by_cases h1:p.1<(i:Int)
     ·rw [if_pos (decide_eq_true h1),if_neg (by simp;omega),if_pos (by simp;omega)];simp only [List.length_cons];omega
     ·by_cases h2:p.1=(i:Int)
      ·rw [if_neg (by simp;omega),if_pos (decide_eq_true h2),if_pos (by simp;omega)];simp only [List.length_cons];omega
      ·rw [if_neg (by simp;omega),if_neg (by simp;omega),if_neg (by simp;omega)];exact ih
theorem hSum_le {n:Nat} (hn:0<n) {ps:List (Int×Int)} (h:hrsOk ps):∀ i,0≤hSum n ps i∧hSum n ps i≤24*cnt ps i
 | 0=>by simp [hSum,cnt]
 | i+1=>by
   have h1:=hSum_le hn h i
   have h2:=hH_le hn (hrs_in h (i:Int))
   rw [hSum_succ,cnt_succ]
   omega
theorem cnt_le {ps:List (Int×Int)} (h:∀ p∈ps,0≤p.1) (i:Nat):cnt ps i≤ps.length:=by
 rw [cnt_eq ps h i];exact List.length_filter_le _ _

def E_bench (x:((Int×(List Int)×Int×Int)×(List (Int×Int))×(List Int)×(List Int))):List AV:=((I x.1.1)::(.lst (x.1.2.1.map I) x.1.2.1.length .shared)::(I x.1.2.2.1)::(I x.1.2.2.2)::(.lst (x.2.1.flatMap pr) x.2.1.length .shared)::(.lst (x.2.2.1.map I) x.2.2.1.length .shared)::(x.2.2.2.map I))
noncomputable def xrc69:RC :=
 .seq (.reg false [I_ 2 [.tk 0] .box,I_ 4 [.cv .nilp] .mv,I_ 5 [.cv (.int .i64 0)] .mv]) (.seq (.seq (.reg false [I_ 8 [.sl 2] (.ld (.str 4)),I_ 9 [.cv (.func 20 [] []),.sl 8] (.call 3),I_ 6 [.tk 9] .mv]) (.seq (.reg false
 [I_ 10 [.sl 6] .mv,I_ 11 [.tv 10,.cv (.int .i64 0)] (.bin .neq)]) (.cond (.sl 11) (.seq (.reg false [I_ 12 [.tk 6] .mv,I_ 4 [.cv .nilp] .mv,I_ 5 [.tk 12] .mv]) .ret) .skip))) (.seq (.seq (.reg false [I_ 13 [.sl 1] .mv,I_
 14 [.cv (.func 22 [] []),.sl 13] (.call 3),I_ 7 [.tk 14] .mv]) (.seq (.reg false [I_ 15 [.sl 7] .mv,I_ 16 [.tv 15,.cv (.int .i64 0)] (.bin .neq)]) (.cond (.sl 16) (.seq (.reg false [I_ 17 [.tk 7] .mv,I_ 4 [.cv .nilp] .mv,
 I_ 5 [.tk 17] .mv]) .ret) .skip))) (.seq (.reg false [I_ 18 [.tv 2] (.ld (.str 4)),I_ 19 [.tk 1] .mv,I_ 20 [.cv (.func 59 [] []),.sl 18,.sl 19] (.call 3),I_ 4 [.tk 20] .mv,I_ 5 [.cv (.int .i64 0)] .mv]) .ret)))
theorem lxx69:linkF Tryz.prog ann69 69=some (xrc69,21,[.tmp 4,.tmp 5]):=by kernel_rfl
def x69 (b:(Int×(List Int)×Int×Int)) (panels:(List (Int×Int))):Option ((Option ((Int×(List Int)×Int×Int)×(List (Int×Int))×(List Int)×(List Int)))×Int) :=
 (x20 b).bind fun r1 =>
 if (decide (r1≠(0:Int)))=true then
  some (none,r1)
 else
  (x22 panels).bind fun r2 =>
  if (decide (r2≠(0:Int)))=true then
   some (none,r2)
  else
   (x59 b panels).bind fun r3 =>
   some ((some r3),(0:Int))
theorem x69_ok {b:(Int×(List Int)×Int×Int)} {panels:(List (Int×Int))} {v:((Option ((Int×(List Int)×Int×Int)×(List (Int×Int))×(List Int)×(List Int)))×Int)} (h:x69 b panels=some v):PO 69 [(.agg [(I b.1),(.lst (b.2.1.map I) b.2.1.length .shared),(I b.2.2.1),(I b.2.2.2)]),(.lst (panels.flatMap pr) panels.length .shared)] (.tuple [(optP E_bench v.1),(I v.2)]):=by
 refine fn_pureW hmix lxx69 rfl (pu_tup (allc (pu_opt (fun _=>(allc rfl (allc (pu_map (fun _=>rfl) _ _ _) (allc rfl (allc rfl (allc (pu_flat (fun _=>(allc rfl (allc rfl rfl))) _ _ _) (allc (pu_map (fun _=>rfl) _ _ _) (pu_run (fun _=>rfl) _)))))))) _) (allc rfl rfl))) fun Q hQ=>?_
 have hR:∀ T H,RetW [.tmp 4,.tmp 5] (.tuple [(optP E_bench v.1),(I v.2)]) .ret T H→Q .ret T H:=fun T H hh=>hQ _ T H hh
 unfold x69 at h
 unfold xrc69
 skip
 conv=>whnf
 obtain ⟨r1,hb1,h⟩:=bd_some h
 refine ⟨(allc (pu_agg (allc rfl (allc (pu_map (fun _=>rfl) _ _ _) (allc rfl (allc rfl rfl))))) rfl),_,x20_ok hb1,?_⟩
 conv=>whnf
 rcases bt (decide (r1≠(0:Int))) with hb2 | hb2
 ·rw [hb2]
  conv=>whnf
  replace h:=it_t hb2 h
  obtain rfl:=Option.some.inj h
  exact hR _ _ ⟨.inr rfl,_,rfl,_,frz_pure (pu_tup (allc rfl (allc rfl rfl))),rfl⟩
 ·rw [hb2]
  conv=>whnf
  replace h:=it_f hb2 h
  obtain ⟨r2,hb3,h⟩:=bd_some h
  refine ⟨(allc (pu_flat (fun _=>(allc rfl (allc rfl rfl))) _ _ _) rfl),_,x22_ok hb3,?_⟩
  conv=>whnf
  rcases bt (decide (r2≠(0:Int))) with hb4 | hb4
  ·rw [hb4]
   conv=>whnf
   replace h:=it_t hb4 h
   obtain rfl:=Option.some.inj h
   exact hR _ _ ⟨.inr rfl,_,rfl,_,frz_pure (pu_tup (allc rfl (allc rfl rfl))),rfl⟩
  ·rw [hb4]
   conv=>whnf
   replace h:=it_f hb4 h
   obtain ⟨r3,hb5,h⟩:=bd_some h
   refine ⟨(allc (pu_agg (allc rfl (allc (pu_map (fun _=>rfl) _ _ _) (allc rfl (allc rfl rfl))))) (allc (pu_flat (fun _=>(allc rfl (allc rfl rfl))) _ _ _) rfl)),_,x59_ok hb5,?_⟩
   conv=>whnf
   obtain rfl:=Option.some.inj h
   exact hR _ _ ⟨.inr rfl,_,rfl,_,frz_pure (pu_tup (allc (pu_lptr (allc rfl (allc (pu_map (fun _=>rfl) _ _ _) (allc rfl (allc rfl (allc (pu_flat (fun _=>(allc rfl (allc rfl rfl))) _ _ _) (allc (pu_map (fun _=>rfl) _ _ _) (pu_run (fun _=>rfl) _)))))))) (allc rfl rfl))),rfl⟩

noncomputable def xrc75:RC :=
 .seq (.reg false [I_ 2 [.tk 0] .box,I_ 3 [.tk 1] .box,I_ 4 [.cv .junk] .mv]) (.seq (.seq (.reg false [I_ 5 [.sl 3] (.ld .one),I_ 6 [.tv 5,.cv (.int .i64 1)] (.bin .lss)]) (.cond (.sl 6) (.reg false [I_ 7 [.cv (.str
 (ByteArray.mk (Array.mk [99,97,110,110,111,116,32,98,101,32,108,101,115,115,32,116,104,97,110,32,49])))] (.other (Oper.mk (some 7) (Op.makeInterface 9 (Operand.const (Value.string (ByteArray.mk (Array.mk
 [99, 97, 110, 110, 111, 116, 32, 98, 101, 32, 108, 101, 115, 115, 32, 116, 104, 97, 110, 32, 49]))))) 20 "iter.go:99" (Array.mk []) none) 0), ⟨none, [.tv 7], none, none, .other (Oper.mk none (Op.panic (Operand.tmp 7)) 0
 "iter.go:99" (Array.mk [Edge.mk 0 Ground.data]) none) 0⟩]) .skip)) (.seq (.reg false [I_ 8 [.tv 2, .tv 3] (.mkF 98 0 2), I_ 4 [.tk 8] .mv]) .ret))
theorem lxx75:linkF Tryz.prog ann75 75=some (xrc75,9,[.tmp 4]):=by kernel_rfl
def x75 (s:(List Int)) (n:Int):Option Unit :=
 if (decide (n<(1:Int)))=true then
  none
 else
  some ()
theorem x75_ok {s:(List Int)} {n:Int} {v:Unit} (h:x75 s n=some v):PO 75 [(.lst (s.map I) s.length .shared),(I n)] (.func 98 [] [(.lptr [(.lst (s.map I) s.length .shared)]),(.lptr [(I n)])]):=by
 refine fn_pureW hmix lxx75 rfl (pu_fn rfl (allc (pu_lptr (allc (pu_map (fun _=>rfl) _ _ _) rfl)) (allc (pu_lptr (allc rfl rfl)) rfl))) fun Q hQ=>?_
 have hR:∀ T H,RetW [.tmp 4] (.func 98 [] [(.lptr [(.lst (s.map I) s.length .shared)]),(.lptr [(I n)])]) .ret T H→Q .ret T H:=fun T H hh=>hQ _ T H hh
 unfold x75 at h
 unfold xrc75
 skip
 conv=>whnf
 rcases bt (decide (n<(1:Int))) with hb1 | hb1
 ·rw [hb1]
  conv=>whnf
  replace h:=it_t hb1 h
  exact none_ne h
 ·rw [hb1]
  conv=>whnf
  replace h:=it_f hb1 h
  exact hR _ _ ⟨.inr rfl,_,rfl,_,(frz_fn mapO_nil' (mapO_cons' (frz_ptr (l:=[(.lst (s.map I) s.length .shared)]) (by first | with_reducible exact get_concat _ _ | exact get_concat _ _ | exact ga (get_concat _ _) | rfl | (simp [List.getElem?_append,AV.settle];done)) (allc (pu_map (fun _=>rfl) _ _ _) rfl)) (mapO_cons' (frz_ptr (l:=[(I n)]) (by first | with_reducible exact get_concat _ _ | exact get_concat _ _ | exact ga (get_concat _ _) | rfl | (simp [List.getElem?_append,AV.settle];done)) (allc rfl rfl)) mapO_nil'))),rfl⟩

noncomputable def xrc70_1:RC :=
 .rng (.sl 15) [16] (rngA Tryz.prog 70 0) (rngB Tryz.prog 70 0)
noncomputable def xrc70_2:RC :=
 .loop (some [o_,i_,i_,o_,o_,i_,o_,o_,i_,o_,o_,o_,o_,o_,o_,o_,o_,o_,o_,o_,o_,o_,o_,o_,o_,o_,o_,o_,o_,o_,o_])
 (.seq (.reg false [I_ 9 [.sl 8,.cv (.int .i64 21)] (.bin .lss)]) (.seq (.cond (.sl 9) .skip (.exit 0)) (.seq (.block 1 (.seq (.reg false [I_ 10 [.sl 8] .mv,I_ 6 [.tk 10] .mv]) (.seq (.reg false [I_ 11 [.sl 2] (.ld .one),I_
 12 [.tk 6] .mv,I_ 13 [.cv (.func 76 [] []),.sl 11,.sl 12] (.call 3),I_ 14 [.sl 1] .mv,I_ 15 [.cv (.func 75 [] []),.sl 13,.sl 14] (.call 3)]) (.block 2 xrc70_1)))) (.reg false [I_ 29 [.tv 8,.cv (.int .i64 1)] (.bin
 .add),I_ 8 [.tk 29] .mv]))))
noncomputable def xrc70:RC :=
 .seq (.reg false [I_ 2 [.tk 0] .box,I_ 4 [.cv (.int .i64 0)] .mv]) (.seq (.reg false [I_ 5 [] (.alloc [.int .i64 0]),⟨none,[.sl 5,.cv (.int .i64 0)],none,none,.st 1⟩]) (.seq (.seq (.reg false [I_ 8 [.cv (.int .i64 0)]
 .mv]) (.block 0 xrc70_2)) (.seq (.reg false [I_ 30 [.tv 5] (.ld .one),I_ 4 [.tk 30] .mv]) .ret)))
noncomputable def xrc70_A0:RC :=
 .reg false [I_ 7 [.tk 16] .mv]
theorem lxx70_A0:linkC Tryz.prog ann70 (rngA Tryz.prog 70 0) 0=some xrc70_A0:=by kernel_rfl
noncomputable def xrc70_B0:RC :=
 .block 3 (.reg true [I_ 17 [.sl 5] (.ld .one),I_ 18 [.tv 2] (.ld .one),I_ 19 [.tv 18] .nilc,I_ 20 [.tv 19] (.fa 4),I_ 21 [.tv 20] (.ld .one),I_ 22 [.tk 7] .mv,I_ 23 [.tv 22,.cv (.int .i64 0)] (.ia 1),I_ 24 [.tv 23] (.ld
 .one),I_ 25 [.tv 21,.tv 24] (.ia 2),I_ 26 [.tv 25] (.fa 1),I_ 27 [.tv 26] (.ld .one),I_ 28 [.tv 17,.tv 27] (.bin .add),⟨none,[.sl 5,.tk 28],none,none,.st 1⟩])
theorem lxx70_B0:linkC Tryz.prog ann70 (rngB Tryz.prog 70 0) 0=some xrc70_B0:=by kernel_rfl
theorem lxx70:linkF Tryz.prog ann70 70=some (xrc70,31,[.tmp 4]):=by kernel_rfl
def x70_r1 (x:((Int×(List Int)×Int×Int)×(List (Int×Int))×(List Int)×(List Int))) (t1:Int) (e1:(List Int)):Option (Int) :=
 gd (0≤(0:Int)∧(0:Int)<(e1.length:Int)) <|
 gd (0≤(ix e1 (0:Int))∧(ix e1 (0:Int))<(x.2.1.length:Int)) <|
 some (w (t1+(ix x.2.1 (ix e1 (0:Int))).2))
def x70_l1 (x:((Int×(List Int)×Int×Int)×(List (Int×Int))×(List Int)×(List Int))) (whole:Int) (kl1_0:Int→Option Int):Nat→Int→Int→Option Int
 | 0,_,_=>none
 | m+1,s1,s2 =>
   if (decide (s1<(21:Int)))=true then
    (x76 x s1).bind fun r1 =>
    (x75 r1 whole).bind fun r2 =>
    (s98 r1 whole).bind fun l1 =>
    (foldO (x70_r1 x) l1 s2).bind fun r3 =>
    x70_l1 x whole kl1_0 m (w (s1+(1:Int))) r3
   else
    kl1_0 s2
def x70 (x:((Int×(List Int)×Int×Int)×(List (Int×Int))×(List Int)×(List Int))) (whole:Int):Option Int :=
 x70_l1 x whole (fun z1 =>
   some z1) FU (0:Int) (0:Int)
theorem x70_r1_ok {x:((Int×(List Int)×Int×Int)×(List (Int×Int))×(List Int)×(List Int))} {t1:Int} {e1:(List Int)} {u0:AV} {u1:AV} {u3:AV} {u4:AV} {u6:AV} {u7:AV} {u8:AV} {u9:AV} {u10:AV} {u11:AV} {u12:AV} {u13:AV} {u14:AV} {u15:AV} {u16:AV} {u17:AV} {u18:AV} {u19:AV} {u20:AV} {u21:AV} {u22:AV} {u23:AV} {u24:AV} {u25:AV} {u26:AV} {u27:AV} {u28:AV} {u29:AV} {u30:AV} {Y70_1:List AObj} {v_:Int} (h:x70_r1 x t1 e1=some v_) (Y:List AObj) :
  ∃ Y',Sem Tryz.prog (.yield ((AObj.cells [(.lptr ((I x.1.1)::(.lst (x.1.2.1.map I) x.1.2.1.length .shared)::(I x.1.2.2.1)::(I x.1.2.2.2)::(.lst (x.2.1.flatMap pr) x.2.1.length .shared)::(.lst (x.2.2.1.map I) x.2.2.1.length .shared)::(x.2.2.2.map I)))]::AObj.cells [(I t1)]::Y70_1)).length) [(.lst (e1.map I) e1.length .full)] (((AObj.cells [(.lptr ((I x.1.1)::(.lst (x.1.2.1.map I) x.1.2.1.length .shared)::(I x.1.2.2.1)::(I x.1.2.2.2)::(.lst (x.2.1.flatMap pr) x.2.1.length .shared)::(.lst (x.2.2.1.map I) x.2.2.1.length .shared)::(x.2.2.2.map I)))]::AObj.cells [(I t1)]::Y70_1)++[AObj.loop .ready none 70 [u0,u1,(.ptr 0 0),u3,u4,(.ptr 1 0),u6,u7,u8,u9,u10,u11,u12,u13,u14,u15,u16,u17,u18,u19,u20,u21,u22,u23,u24,u25,u26,u27,u28,u29,u30] [16] (rngA Tryz.prog 70 0) (rngB Tryz.prog 70 0) ann70])++Y) 0 (.bool true) (((AObj.cells [(.lptr ((I x.1.1)::(.lst (x.1.2.1.map I) x.1.2.1.length .shared)::(I x.1.2.2.1)::(I x.1.2.2.2)::(.lst (x.2.1.flatMap pr) x.2.1.length .shared)::(.lst (x.2.2.1.map I) x.2.2.1.length .shared)::(x.2.2.2.map I)))]::AObj.cells [(I v_)]::Y70_1)++[AObj.loop .ready none 70 [u0,u1,(.ptr 0 0),u3,u4,(.ptr 1 0),u6,u7,u8,u9,u10,u11,u12,u13,u14,u15,u16,u17,u18,u19,u20,u21,u22,u23,u24,u25,u26,u27,u28,u29,u30] [16] (rngA Tryz.prog 70 0) (rngB Tryz.prog 70 0) ann70])++Y'):=by
 unfold x70_r1 at h
 refine ⟨Y,sem_round hmix lxx70_A0 lxx70_B0 (get_mid _ _ _) rfl (low0 (by simp)) ?_⟩
 unfold xrc70_A0
 conv=>whnf
 refine ⟨rfl,get_mid _ _ _,?_⟩
 rw [set_mid]
 unfold xrc70_B0
 conv=>whnf
 obtain ⟨hb4,h⟩:=gd_some h
 refine ⟨hb4,?_⟩
 rw [drop1 I e1 (0:Int) hb4]
 conv=>whnf
 obtain ⟨hb5,h⟩:=gd_some h
 refine ⟨hb5,?_⟩
 rw [dropS pr 2 pr_len x.2.1 (ix e1 (0:Int)) hb5]
 conv=>whnf
 obtain rfl:=Option.some.inj h
 show _∧(((AObj.cells [(.lptr ((I x.1.1)::(.lst (x.1.2.1.map I) x.1.2.1.length .shared)::(I x.1.2.2.1)::(I x.1.2.2.2)::(.lst (x.2.1.flatMap pr) x.2.1.length .shared)::(.lst (x.2.2.1.map I) x.2.2.1.length .shared)::(x.2.2.2.map I)))]::AObj.cells [(I (w (t1+(ix x.2.1 (ix e1 (0:Int))).2)))]::Y70_1)++[AObj.loop .busy none 70 [u0,u1,(.ptr 0 0),u3,u4,(.ptr 1 0),u6,u7,u8,u9,u10,u11,u12,u13,u14,u15,u16,u17,u18,u19,u20,u21,u22,u23,u24,u25,u26,u27,u28,u29,u30] [16] (rngA Tryz.prog 70 0) (rngB Tryz.prog 70 0) ann70])++Y)[((AObj.cells [(.lptr ((I x.1.1)::(.lst (x.1.2.1.map I) x.1.2.1.length .shared)::(I x.1.2.2.1)::(I x.1.2.2.2)::(.lst (x.2.1.flatMap pr) x.2.1.length .shared)::(.lst (x.2.2.1.map I) x.2.2.1.length .shared)::(x.2.2.2.map I)))]::AObj.cells [(I (w (t1+(ix x.2.1 (ix e1 (0:Int))).2)))]::Y70_1)).length]?=_∧Fgt ((((AObj.cells [(.lptr ((I x.1.1)::(.lst (x.1.2.1.map I) x.1.2.1.length .shared)::(I x.1.2.2.1)::(I x.1.2.2.2)::(.lst (x.2.1.flatMap pr) x.2.1.length .shared)::(.lst (x.2.2.1.map I) x.2.2.1.length .shared)::(x.2.2.2.map I)))]::AObj.cells [(I (w (t1+(ix x.2.1 (ix e1 (0:Int))).2)))]::Y70_1)++[AObj.loop .busy none 70 [u0,u1,(.ptr 0 0),u3,u4,(.ptr 1 0),u6,u7,u8,u9,u10,u11,u12,u13,u14,u15,u16,u17,u18,u19,u20,u21,u22,u23,u24,u25,u26,u27,u28,u29,u30] [16] (rngA Tryz.prog 70 0) (rngB Tryz.prog 70 0) ann70])++Y).set ((AObj.cells [(.lptr ((I x.1.1)::(.lst (x.1.2.1.map I) x.1.2.1.length .shared)::(I x.1.2.2.1)::(I x.1.2.2.2)::(.lst (x.2.1.flatMap pr) x.2.1.length .shared)::(.lst (x.2.2.1.map I) x.2.2.1.length .shared)::(x.2.2.2.map I)))]::AObj.cells [(I (w (t1+(ix x.2.1 (ix e1 (0:Int))).2)))]::Y70_1)).length _) _
 exact ⟨rfl,get_mid _ _ _,by rw [set_mid];exact Fgt.refl _⟩
theorem x70_l1_ok {x:((Int×(List Int)×Int×Int)×(List (Int×Int))×(List Int)×(List Int))} {whole:Int} {kl1_0:Int→Option Int} {s1:Int} {s2:Int} {v:Int} {Q:Ex→List AV→List AObj→Prop}   (hkl1_0:∀ (z1:Int) (u0:AV) (u1:AV) (u2:AV) (u4:AV) (u6:AV) (u7:AV) (u8:AV) (u9:AV) (u10:AV) (u11:AV) (u12:AV) (u13:AV) (u14:AV) (u15:AV) (u16:AV) (u17:AV) (u18:AV) (u19:AV) (u20:AV) (u21:AV) (u22:AV) (u23:AV) (u24:AV) (u25:AV) (u26:AV) (u27:AV) (u28:AV) (u29:AV) (u30:AV) (o1:AObj) (Yq:List AObj),kl1_0 z1=some v→Q (.exit 0) [u0,u1,u2,J,u4,(.ptr 1 0),u6,u7,u8,u9,u10,u11,u12,u13,u14,u15,u16,u17,u18,u19,u20,u21,u22,u23,u24,u25,u26,u27,u28,u29,u30] (o1::AObj.cells [(I z1)]::Yq)) {T:List AV} (hT:zipKeep [o_,i_,i_,o_,o_,i_,o_,o_,i_,o_,o_,o_,o_,o_,o_,o_,o_,o_,o_,o_,o_,o_,o_,o_,o_,o_,o_,o_,o_,o_,o_] T=slots 31 [(1,(I whole)),(2,(.ptr 0 0)),(5,(.ptr 1 0)),(8,(I s1))]) (h:x70_l1 x whole kl1_0 FU s1 s2=some v) :
  wpR Tryz.prog ann70 70 0 none xrc70_2 T [AObj.cells [(.lptr ((I x.1.1)::(.lst (x.1.2.1.map I) x.1.2.1.length .shared)::(I x.1.2.2.1)::(I x.1.2.2.2)::(.lst (x.2.1.flatMap pr) x.2.1.length .shared)::(.lst (x.2.2.1.map I) x.2.2.1.length .shared)::(x.2.2.2.map I)))],AObj.cells [(I s2)]] Q:=by
 unfold xrc70_2
 obtain ⟨c_1,g_1⟩:∃ c,xrc70_1=c:=⟨_,rfl⟩
 rw [g_1]
 refine wp_loop hT ?_
 refine .intro (fun m T H=>∃ (s1:Int) (s2:Int) (Y70_1:List AObj),T=slots 31 [(1,(I whole)),(2,(.ptr 0 0)),(5,(.ptr 1 0)),(8,(I s1))]∧H=(AObj.cells [(.lptr ((I x.1.1)::(.lst (x.1.2.1.map I) x.1.2.1.length .shared)::(I x.1.2.2.1)::(I x.1.2.2.2)::(.lst (x.2.1.flatMap pr) x.2.1.length .shared)::(.lst (x.2.2.1.map I) x.2.2.1.length .shared)::(x.2.2.2.map I)))]::AObj.cells [(I s2)]::Y70_1)∧x70_l1 x whole kl1_0 m s1 s2=some v) FU ⟨s1,s2,[],rfl,rfl,h⟩ ?_
 clear h hT
 rintro m T H ⟨s1,s2,Y70_1,rfl,rfl,h⟩
 cases m
 ·exact none_ne h
 rename_i m
 rw [x70_l1.eq_2] at h
 conv=>whnf
 rcases bt (decide (s1<(21:Int))) with hb1 | hb1
 ·rw [hb1]
  conv=>whnf
  replace h:=it_t hb1 h
  obtain ⟨r1,hb2,h⟩:=bd_some h
  refine ⟨(allc (pu_lptr (allc rfl (allc (pu_map (fun _=>rfl) _ _ _) (allc rfl (allc rfl (allc (pu_flat (fun _=>(allc rfl (allc rfl rfl))) _ _ _) (allc (pu_map (fun _=>rfl) _ _ _) (pu_run (fun _=>rfl) _)))))))) (allc rfl rfl)),_,x76_ok hb2,?_⟩
  conv=>whnf
  obtain ⟨r2,hb3,h⟩:=bd_some h
  refine ⟨(allc (pu_map (fun _=>rfl) _ _ _) (allc rfl rfl)),_,x75_ok hb3,?_⟩
  conv=>whnf
  obtain ⟨l1,hb6,h⟩:=bd_some h
  obtain ⟨r3,hb7,h⟩:=bd_some h
  obtain ⟨F_,hF0,hFn,hF⟩:=foldO_states hb7
  subst g_1
  unfold xrc70_1
  refine rng_wp (f:=fun (e1:(List Int))=>(.lst (e1.map I) e1.length .full)) (s98_ok hb6) (fun i=>(AObj.cells [(.lptr ((I x.1.1)::(.lst (x.1.2.1.map I) x.1.2.1.length .shared)::(I x.1.2.2.1)::(I x.1.2.2.2)::(.lst (x.2.1.flatMap pr) x.2.1.length .shared)::(.lst (x.2.2.1.map I) x.2.2.1.length .shared)::(x.2.2.2.map I)))]::AObj.cells [(I (F_ i))]::Y70_1)) (by exact rfl) (by show (AObj.cells [(.lptr ((I x.1.1)::(.lst (x.1.2.1.map I) x.1.2.1.length .shared)::(I x.1.2.2.1)::(I x.1.2.2.2)::(.lst (x.2.1.flatMap pr) x.2.1.length .shared)::(.lst (x.2.2.1.map I) x.2.2.1.length .shared)::(x.2.2.2.map I)))]::AObj.cells [(I (F_ 0))]::Y70_1)=_;first | (rw [hF0];done) | (rw [hF0];rfl)) (fun _=>rfl) ?_ (rl:=none) (by exact rfl) (Hn:=(AObj.cells [(.lptr ((I x.1.1)::(.lst (x.1.2.1.map I) x.1.2.1.length .shared)::(I x.1.2.2.1)::(I x.1.2.2.2)::(.lst (x.2.1.flatMap pr) x.2.1.length .shared)::(.lst (x.2.2.1.map I) x.2.2.1.length .shared)::(x.2.2.2.map I)))]::AObj.cells [(I r3)]::Y70_1)) (by show (AObj.cells [(.lptr ((I x.1.1)::(.lst (x.1.2.1.map I) x.1.2.1.length .shared)::(I x.1.2.2.1)::(I x.1.2.2.2)::(.lst (x.2.1.flatMap pr) x.2.1.length .shared)::(.lst (x.2.2.1.map I) x.2.2.1.length .shared)::(x.2.2.2.map I)))]::AObj.cells [(I (F_ l1.length))]::Y70_1)=_;first | (rw [hFn];done) | (rw [hFn];rfl)) (fun Yr3=>?_)
  ·intro i hi Y
   exact x70_r1_ok (hF i hi) Y
  conv=>whnf
  exact ⟨m,Nat.lt_succ_self m,(w (s1+(1:Int))),r3,_,rfl,rfl,h⟩
 ·rw [hb1]
  conv=>whnf
  replace h:=it_f hb1 h
  exact hkl1_0 _ _ _ _ _ _ _ _ _ _ _ _ _ _ _ _ _ _ _ _ _ _ _ _ _ _ _ _ _ _ _ _ h
theorem x70_ok {x:((Int×(List Int)×Int×Int)×(List (Int×Int))×(List Int)×(List Int))} {whole:Int} {v:Int} (h:x70 x whole=some v):PO 70 [(.lptr ((I x.1.1)::(.lst (x.1.2.1.map I) x.1.2.1.length .shared)::(I x.1.2.2.1)::(I x.1.2.2.2)::(.lst (x.2.1.flatMap pr) x.2.1.length .shared)::(.lst (x.2.2.1.map I) x.2.2.1.length .shared)::(x.2.2.2.map I))),(I whole)] (I v):=by
 refine fn_pureW hmix lxx70 rfl rfl fun Q hQ=>?_
 have hR:∀ T H,RetW [.tmp 4] (I v) .ret T H→Q .ret T H:=fun T H hh=>hQ _ T H hh
 unfold x70 at h
 unfold xrc70
 obtain ⟨c_2,g_2⟩:∃ c,xrc70_2=c:=⟨_,rfl⟩
 rw [g_2]
 conv=>whnf
 subst g_2
 refine x70_l1_ok ?_ (by exact rfl) h
 intro z1 u0 u1 u2 u4 u6 u7 u8 u9 u10 u11 u12 u13 u14 u15 u16 u17 u18 u19 u20 u21 u22 u23 u24 u25 u26 u27 u28 u29 u30 o1 Yq h
 conv=>whnf
 obtain rfl:=Option.some.inj h
 exact hR _ _ ⟨.inr rfl,_,rfl,_,frz_pure rfl,rfl⟩

noncomputable def xrc33:RC :=
 .seq (.reg false [I_ 2 [.tk 0] .box,I_ 4 [.cv (.int .i64 0)] .mv,I_ 5 [.cv (.int .i64 0)] .mv]) (.seq (.reg false [I_ 9 [.tv 2] (.ld (.str 4)),I_ 10 [.tk 1] .mv,I_ 11 [.cv (.func 69 [] []),.sl 9,.sl 10] (.call 3),I_ 8 [.tk
 11] .mv,I_ 12 [.sl 8] (.ext 0),I_ 13 [.tv 8] (.ext 1),I_ 6 [.tk 12] .mv,I_ 7 [.tk 13] .mv]) (.seq (.seq (.reg false [I_ 14 [.sl 7] .mv,I_ 15 [.tv 14,.cv (.int .i64 0)] (.bin .neq)]) (.cond (.sl 15) (.seq (.reg false [I_
 16 [.tk 7] .mv,I_ 4 [.cv (.int .i64 0)] .mv,I_ 5 [.tk 16] .mv]) .ret) .skip)) (.seq (.reg false [I_ 17 [.sl 6] .mv,I_ 18 [.tk 6] .mv,I_ 19 [.tv 18] .nilc,I_ 20 [.tv 19] (.fa 5),I_ 21 [.tv 20] (.ld .one),I_ 22 [.tk 21]
 .lenS,I_ 23 [.cv (.func 70 [] []),.sl 17,.sl 22] (.call 3),I_ 4 [.tk 23] .mv,I_ 5 [.cv (.int .i64 0)] .mv]) .ret)))
theorem lxx33:linkF Tryz.prog ann33 33=some (xrc33,24,[.tmp 4,.tmp 5]):=by kernel_rfl
def x33 (b:(Int×(List Int)×Int×Int)) (panels:(List (Int×Int))):Option (Int×Int) :=
 (x69 b panels).bind fun r1 =>
 match r1 with
 | (none,q1) =>
   if (decide (q1≠(0:Int)))=true then
    some ((0:Int),q1)
   else
    none
 | (some p1,q1) =>
   if (decide (q1≠(0:Int)))=true then
    some ((0:Int),q1)
   else
    (x70 p1 (p1.2.2.1.length:Int)).bind fun r2 =>
    some (r2,(0:Int))
theorem x33_ok {b:(Int×(List Int)×Int×Int)} {panels:(List (Int×Int))} {v:(Int×Int)} (h:x33 b panels=some v):PO 33 [(.agg [(I b.1),(.lst (b.2.1.map I) b.2.1.length .shared),(I b.2.2.1),(I b.2.2.2)]),(.lst (panels.flatMap pr) panels.length .shared)] (.tuple [(I v.1),(I v.2)]):=by
 refine fn_pureW hmix lxx33 rfl (pu_tup (allc rfl (allc rfl rfl))) fun Q hQ=>?_
 have hR:∀ T H,RetW [.tmp 4,.tmp 5] (.tuple [(I v.1),(I v.2)]) .ret T H→Q .ret T H:=fun T H hh=>hQ _ T H hh
 unfold x33 at h
 unfold xrc33
 skip
 conv=>whnf
 obtain ⟨r1,hb1,h⟩:=bd_some h
 rcases r1 with ⟨_ | p1,q1⟩
 ·refine ⟨(allc (pu_agg (allc rfl (allc (pu_map (fun _=>rfl) _ _ _) (allc rfl (allc rfl rfl))))) (allc (pu_flat (fun _=>(allc rfl (allc rfl rfl))) _ _ _) rfl)),_,x69_ok hb1,?_⟩
  conv=>whnf
  rcases bt (decide (q1≠(0:Int))) with hb2 | hb2
  ·rw [hb2]
   conv=>whnf
   replace h:=it_t hb2 h
   obtain rfl:=Option.some.inj h
   exact hR _ _ ⟨.inr rfl,_,rfl,_,frz_pure (pu_tup (allc rfl (allc rfl rfl))),rfl⟩
  ·rw [hb2]
   conv=>whnf
   replace h:=it_f hb2 h
   exact none_ne h
 ·refine ⟨(allc (pu_agg (allc rfl (allc (pu_map (fun _=>rfl) _ _ _) (allc rfl (allc rfl rfl))))) (allc (pu_flat (fun _=>(allc rfl (allc rfl rfl))) _ _ _) rfl)),_,x69_ok hb1,?_⟩
  conv=>whnf
  rcases bt (decide (q1≠(0:Int))) with hb3 | hb3
  ·rw [hb3]
   conv=>whnf
   replace h:=it_t hb3 h
   obtain rfl:=Option.some.inj h
   exact hR _ _ ⟨.inr rfl,_,rfl,_,frz_pure (pu_tup (allc rfl (allc rfl rfl))),rfl⟩
  ·rw [hb3]
   conv=>whnf
   replace h:=it_f hb3 h
   obtain ⟨r2,hb4,h⟩:=bd_some h
   refine ⟨(allc (pu_lptr (allc rfl (allc (pu_map (fun _=>rfl) _ _ _) (allc rfl (allc rfl (allc (pu_flat (fun _=>(allc rfl (allc rfl rfl))) _ _ _) (allc (pu_map (fun _=>rfl) _ _ _) (pu_run (fun _=>rfl) _)))))))) (allc rfl rfl)),_,x70_ok hb4,?_⟩
   conv=>whnf
   obtain rfl:=Option.some.inj h
   exact hR _ _ ⟨.inr rfl,_,rfl,_,frz_pure (pu_tup (allc rfl (allc rfl rfl))),rfl⟩

noncomputable def xrc66:RC :=
 .seq (.reg false [I_ 2 [.tk 0] .box,I_ 4 [.cv (.int .i64 0)] .mv]) (.seq (.seq (.reg false [I_ 5 [.sl 2] (.ld (.str 4)),I_ 6 [.cv (.func 21 [] []),.sl 5] (.call 3),I_ 7 [.tv 6,.cv (.int .i64 0)] (.bin .neq)]) (.cond (.sl 7)
 (.seq (.reg false [I_ 8 [.tv 2] (.ld (.str 4)),I_ 9 [.cv (.func 21 [] []),.sl 8] (.call 3),I_ 4 [.tk 9] .mv]) .ret) .skip)) (.seq (.reg false [I_ 10 [.tk 1] .mv,I_ 11 [.cv (.func 23 [] []),.sl 10] (.call 3),I_ 4 [.tk 11]
 .mv]) .ret))
theorem lxx66:linkF Tryz.prog ann66 66=some (xrc66,12,[.tmp 4]):=by kernel_rfl
def x66 (b:(Int×(List Int)×Int×Int)) (panels:(List (Int×Int))):Option Int :=
 (x21 b).bind fun r1 =>
 if (decide (r1≠(0:Int)))=true then
  (x21 b).bind fun r2 =>
  some r2
 else
  (x23 panels).bind fun r3 =>
  some r3
theorem x66_ok {b:(Int×(List Int)×Int×Int)} {panels:(List (Int×Int))} {v:Int} (h:x66 b panels=some v):PO 66 [(.agg [(I b.1),(.lst (b.2.1.map I) b.2.1.length .shared),(I b.2.2.1),(I b.2.2.2)]),(.lst (panels.flatMap pr) panels.length .shared)] (I v):=by
 refine fn_pureW hmix lxx66 rfl rfl fun Q hQ=>?_
 have hR:∀ T H,RetW [.tmp 4] (I v) .ret T H→Q .ret T H:=fun T H hh=>hQ _ T H hh
 unfold x66 at h
 unfold xrc66
 skip
 conv=>whnf
 obtain ⟨r1,hb1,h⟩:=bd_some h
 refine ⟨(allc (pu_agg (allc rfl (allc (pu_map (fun _=>rfl) _ _ _) (allc rfl (allc rfl rfl))))) rfl),_,x21_ok hb1,?_⟩
 conv=>whnf
 rcases bt (decide (r1≠(0:Int))) with hb2 | hb2
 ·rw [hb2]
  conv=>whnf
  replace h:=it_t hb2 h
  obtain ⟨r2,hb3,h⟩:=bd_some h
  refine ⟨(allc (pu_agg (allc rfl (allc (pu_map (fun _=>rfl) _ _ _) (allc rfl (allc rfl rfl))))) rfl),_,x21_ok hb3,?_⟩
  conv=>whnf
  obtain rfl:=Option.some.inj h
  exact hR _ _ ⟨.inr rfl,_,rfl,_,frz_pure rfl,rfl⟩
 ·rw [hb2]
  conv=>whnf
  replace h:=it_f hb2 h
  obtain ⟨r3,hb4,h⟩:=bd_some h
  refine ⟨(allc (pu_flat (fun _=>(allc rfl (allc rfl rfl))) _ _ _) rfl),_,x23_ok hb4,?_⟩
  conv=>whnf
  obtain rfl:=Option.some.inj h
  exact hR _ _ ⟨.inr rfl,_,rfl,_,frz_pure rfl,rfl⟩

noncomputable def xrc45:RC :=
 .seq (.reg false [I_ 2 [.tk 0] .box,I_ 4 [.cv (.bool false)] .mv]) (.seq (.reg false [I_ 5 [.sl 2] (.ld (.str 4)),I_ 6 [.sl 1] .mv,I_ 7 [.cv (.func 16 [] []),.sl 5,.sl 6] (.call 3),I_ 8 [.tv 7] (.un .not),I_ 9 [.tk 8] .mv,
 ⟨some 10,[.tv 2],some (9,true),none,.ld (.str 4)⟩,⟨some 11,[.tk 1],some (9,true),none,.mv⟩,⟨some 12,[.cv (.func 66 [] []),.sl 10,.sl 11],some (9,true),none,.call 3⟩,⟨some 13,[.tv 12,.cv (.int .i64 0)],
 some (9,true),none,.bin .eql⟩,I_ 14 [.tv 9,.tv 13,.cv (.bool false)] .pick,I_ 4 [.tk 14] .mv]) .ret)
theorem lxx45:linkF Tryz.prog ann45 45=some (xrc45,15,[.tmp 4]):=by kernel_rfl
def x45 (b:(Int×(List Int)×Int×Int)) (panels:(List (Int×Int))):Option Bool :=
 (x16 b panels).bind fun r1 =>
 if r1=true then
  some false
 else
  (x66 b panels).bind fun r2 =>
  some (decide (r2=(0:Int)))
theorem x45_ok {b:(Int×(List Int)×Int×Int)} {panels:(List (Int×Int))} {v:Bool} (h:x45 b panels=some v):PO 45 [(.agg [(I b.1),(.lst (b.2.1.map I) b.2.1.length .shared),(I b.2.2.1),(I b.2.2.2)]),(.lst (panels.flatMap pr) panels.length .shared)] (B v):=by
 refine fn_pureW hmix lxx45 rfl rfl fun Q hQ=>?_
 have hR:∀ T H,RetW [.tmp 4] (B v) .ret T H→Q .ret T H:=fun T H hh=>hQ _ T H hh
 unfold x45 at h
 unfold xrc45
 skip
 conv=>whnf
 obtain ⟨r1,hb1,h⟩:=bd_some h
 refine ⟨(allc (pu_agg (allc rfl (allc (pu_map (fun _=>rfl) _ _ _) (allc rfl (allc rfl rfl))))) (allc (pu_flat (fun _=>(allc rfl (allc rfl rfl))) _ _ _) rfl)),_,x16_ok hb1,?_⟩
 conv=>whnf
 cases r1
 ·conv=>whnf
  replace h:=it_f rfl h
  obtain ⟨r2,hb2,h⟩:=bd_some h
  refine ⟨(allc (pu_agg (allc rfl (allc (pu_map (fun _=>rfl) _ _ _) (allc rfl (allc rfl rfl))))) (allc (pu_flat (fun _=>(allc rfl (allc rfl rfl))) _ _ _) rfl)),_,x66_ok hb2,?_⟩
  conv=>whnf
  obtain rfl:=Option.some.inj h
  exact hR _ _ ⟨.inr rfl,_,rfl,_,frz_pure rfl,rfl⟩
 ·conv=>whnf
  replace h:=it_t rfl h
  obtain rfl:=Option.some.inj h
  exact hR _ _ ⟨.inr rfl,_,rfl,_,frz_pure rfl,rfl⟩

end Go.Proofs.YtbnbjjgagikobaaGreat.Ab


namespace Go.Proofs.YtbnbjjgagikobaaGreat.Ab
open Go
set_option maxRecDepth 20000
set_option maxHeartbeats 4000000
end Go.Proofs.YtbnbjjgagikobaaGreat.Ab
