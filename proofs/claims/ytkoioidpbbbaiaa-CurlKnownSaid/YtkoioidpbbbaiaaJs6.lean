
import Derived.Test.YtkoioidpbbbaiaaJs5
import Derived.KernelRfl
import Derived.Test.YtkoioidpbbbaiaaJs4
import Derived.Test.YtkoioidpbbbaiaaProg
set_option linter.unusedSimpArgs false
set_option linter.unusedVariables false
set_option linter.unusedSectionVars false

open Array renaming length_toList→sX
open Bool renaming and_true→tp
open Classical renaming choose_spec→ur
open Int renaming le_refl→sS,toNat_natCast→tH
open List renaming any_eq_true→vu,append_assoc→sw,append_nil→sM,drop_eq_getElem_cons→s7,drop_length→uU,exists_cons_of_ne_nil→tI,filter_append→tX,filter_congr→ud,filter_cons_of_neg→uy,filter_cons_of_pos→uT,filter_eq_self→tE,filter_filter→uL,find?_eq_none→vv,flatMap_append→uc,getD_eq_getElem?_getD→sv,getElem?_append→sm,getElem?_append_right→sr,getElem?_eq_getElem→sg,getElem?_eq_some_iff→r_,getElem?_map→sj,getElem_map→tW,getElem_of_mem→uR,length_append→sB,length_cons→sJ,length_eq_zero_iff→sO,length_erase_of_mem→tP,length_map→sW,length_nil→tR,length_take→s9,map_append→sT,map_cons→sD,map_set→tD,mem_append→tc,mem_cons→sx,mem_filter→td,mem_flatMap→tG,mem_map→sA,mem_map_of_mem→ta,mem_range→sE,mem_singleton→sQ,nil_append→ui,nodup_append→ue,nodup_cons→tQ,not_mem_nil→tM,set_append_right→uP,take_length→uS,take_of_length_le→tb,take_succ_eq_append_getElem→uV
open Nat renaming add_assoc→s_,le_refl→sb,lt_succ_self→sG,zero_add→sy,zero_le→sC
open Option renaming bind_some→sa,map_eq_some_iff→rZ,map_some→sd
namespace Go.Proofs.Ytkoioidpbbbaiaa.Ab
open Go
set_option maxRecDepth 20000
set_option maxHeartbeats 4000000
theorem WC (l:List Int) (ao:l.length≤1000):Seq Try.prog 75 [.bS [.av (l.map h0) l.length .shared]] (l.map h0):=by
 intro L N qF hlen fq ai Y;obtain ⟨Z,KH,J9⟩:=aeQ ai Y;have rL:(l.map h0).length=l.length:=by simp
 have T8:∀ j (h:j<l.length),Sem Try.prog (.yield L) [h0 l[j]] (qF j++Z j) 0 (.bool true) (qF (j+1)++Z (j+1)):=fun j aw=>by
  have:=J9 j (by rw [rL];exact aw);rw [tW] at this;exact this
 refine ⟨Z l.length,?_⟩;rw [rL];refine re eG ab2 rfl (Iw ?_) fun Q bp=>?_
 ·have key:∀ j,j≤l.length→(qF 0++Y).length≤(qF j++Z j).length:=fun j=>by
   induction j with
   | zero=>intro _;rw [KH];exact sb _
   | succ j a8=>intro aw;exact Nat.le_trans (a8 (by omega)) (T8 j (by omega)).1.1
  exact key l.length (sb _)
 unfold Wm;conv=>whnf
 refine .intro (fun m T H=>∃ j:Nat,j≤l.length∧m=l.length-j∧T=qb 16 [(0,.yield L),(5,.av (l.map h0) l.length .shared),(6,h0 (l.length:Int)),(7,h0 (j:Int))]∧H=qF j++Z j) l.length ⟨0,sC _,rfl,rfl,by rw [KH]⟩ ?_;rintro m T H ⟨j,aw,rfl,rfl,rfl⟩;conv=>whnf
 refine HB (fun JM=>?_) (fun JM=>?_)
 ·have aR:j<l.length:=by omega
  have af:0≤(j:Int)∧(j:Int)<(l.length:Int):=by omega
  conv=>whnf
  refine ⟨af,?_⟩;rw [rD h0 l (j:Int) af];conv=>whnf
  rw [rK aR];refine ⟨_,_,ra (T8 j aR),?_⟩;conv=>whnf
  refine ⟨l.length-(j+1),by omega,j+1,by omega,rfl,?_,rfl⟩;rw [show ((j+1:Nat):Int)=IntKind.i64.wrap ((j:Int)+1) by rw [HK _ (by omega) (by omega)];omega];rfl
 ·obtain rfl:j=l.length:=by omega
  conv=>whnf
  exact bp _ _ _ ⟨.inl rfl,lI.refl _,rfl⟩
def IP (l:List Int):List Int:=(Sort.insertionSort Sort.ltInt l.toArray 0 l.length).toList
theorem Uo (lt:Int→Int→Bool) (d:Array Int) (a b:Nat):(Sort.insertionSort lt d a b).size=d.size:=by
 have kE:∀ (j:Nat) (d:Array Int),(Sort.insInner lt a j d).size=d.size:=fun j=>by
  induction j with
  | zero=>intro d;rfl
  | succ j a8 =>
    intro d;rw [Sort.insInner];split
    ·rw [a8,swp_size]
    ·rfl
 show (Sort.insOuter lt a b (a+1) d).size=d.size
 have:∀ (n i:Nat) (d:Array Int),b-i=n→(Sort.insOuter lt a b i d).size=d.size:=fun n=>by
  induction n with
  | zero=>intro i d h;rw [Sort.insOuter.eq_1,if_neg (by omega)]
  | succ n a8=>intro i d h;rw [Sort.insOuter.eq_1,if_pos (by omega),a8 _ _ (by omega),kE]
 exact this _ _ d rfl
section
variable {H:List ar} {lo:Nat}
theorem abc:Sem Go.Proofs.Try.prog (.fn 96) [.av [] 0 .full,h0 0,h0 0] H lo (.tuple []) H:=by
 refine re eG US rfl (a'.refl _ _) fun Q bp=>?_;unfold Q9;conv=>whnf
 refine .intro (fun m T H'=>T=qb 49 [(0,.av [] 0 .full),(1,h0 0),(2,h0 0),(6,h0 1)]∧H=H') 0 ⟨rfl,rfl⟩ ?_;rintro m T H' ⟨rfl,rfl⟩;conv=>whnf
 exact bp _ _ _ ⟨.inl rfl,⟨by simp,fun j o aw=>.inr aw⟩,rfl⟩
theorem adn {Jf:Int}:Sem Go.Proofs.Try.prog (.fn 89) [.av [] 0 .full,h0 0,h0 0,h0 Jf] H lo (.tuple []) H:=by
 refine re eG UR rfl (a'.refl _ _) fun Q bp=>?_;unfold Q7;obtain ⟨P7,I9⟩:∃ c,Nk=c:=⟨_,rfl⟩;rw [I9];conv=>whnf
 refine .intro (fun m T H'=>T=qb 134 [(0,.av [] 0 .full),(1,h0 0),(2,h0 0),(3,h0 Jf),(8,B true),(9,B true)]∧H'=H) 0 ⟨rfl,rfl⟩ ?_;rintro m T H' ⟨rfl,rfl⟩;subst I9;unfold Nk;obtain ⟨a7,cf⟩:∃ c,Nj=c:=⟨_,rfl⟩;obtain ⟨P6,KE⟩:∃ c,Q8=c:=⟨_,rfl⟩;rw [cf,KE];conv=>whnf
 subst cf;unfold Nj;conv=>whnf
 refine ⟨_,_,ra abc,?_⟩;conv=>whnf
 exact bp _ _ _ ⟨.inr rfl,⟨rfl,fun j o aw=>.inr aw⟩,rfl⟩
theorem ae0:Sem Go.Proofs.Try.prog (.fn 74) [.av [] 0 .full] H lo (.tuple []) H:=by
 refine re eG UY rfl (a'.refl _ _) fun Q bp=>?_;unfold RH;conv=>whnf
 refine ⟨by first | rfl | simp only [List.all_cons,List.all_nil,LZ,L7,L0,L2,L1,L3,L9,L8,JS,L4,L5,L6,tp,Bool.and_self],_,N9 0 (by decide),?_⟩
 conv=>whnf
 refine ⟨_,_,ra adn,?_⟩;conv=>whnf
 exact bp _ _ _ ⟨.inl rfl,⟨by simp,fun j o aw=>.inr aw⟩,rfl⟩
end
def Pp (l:List Int):Option (List Int):=if l.length≤12 then some (IP l) else none
theorem R' {l v:List Int} (h:Pp l=some v):qt 58 [.func 75 [] [.bS [.av (l.map h0) l.length .shared]]] (.av (v.map h0) v.length .shared):=by
 unfold Pp at h;split at h
 ·rename_i ak;obtain rfl:=Option.some.inj h;by_cases aQ:l.length=0
  ·obtain rfl:=sO.1 aQ;have aa9:IP []=[]:=sO.1 (by unfold IP;rw [sX,Uo];rfl);rw [aa9];have hk:[I.bS [.av (([]:List Int).map h0) ([]:List Int).length .shared]].all (cr 7)=true:=rfl;refine qD eG UU rfl (rE (fun _=>rfl) _ _ _) fun Q bp=>?_;unfold Rt Wc;(conv=>whnf);refine ⟨_,_,MI (p4 (IK rfl hk) rfl) (Ty hk (WC [] (by simp)) (by simp)) _ _,?_⟩;(conv=>whnf);refine ⟨_,_,ra ae0,?_⟩;(conv=>whnf);refine ⟨_,_,fun C=>rfl,?_⟩;(conv=>whnf);exact bp _ _ _ ⟨.inr rfl,_,rfl,_,yW rfl,rfl⟩
  replace ak:0<l.length∧l.length≤12:=⟨by omega,ak⟩;have hk:[I.bS [.av (l.map h0) l.length .shared]].all (cr 7)=true:=p4 (Ia (p4 (rE (fun _=>rfl) _ _ _) rfl)) rfl;have cH:=Ty hk (WC l (by omega)) (by omega);have cp:=aeW (lo:=0) (id:=0) (sb 0) l.toArray (by simpa using ak.2) (H:=[Iq l.toArray]) rfl;obtain ⟨S,Qr⟩:∃ S,S=Sort.insertionSort Sort.ltInt l.toArray 0 l.toArray.size:=⟨_,rfl⟩;have ad:IP l=S.toList:=by rw [Qr];unfold IP;simp
  have bR:S.size=l.length:=by rw [Qr,Uo];simp
  rw [←Qr] at cp;rw [ad];have bJ:l≠[]:=fun e=>by rw [e] at ak;exact absurd ak.1 (by decide)
  have aaO:Oc l=.av (l.map h0) l.length (.uniq 1):=by
   cases l with
   | nil=>exact absurd rfl bJ
   | cons a l=>rfl
  rw [aaO] at cH;refine qD eG UU rfl (rE (fun _=>rfl) _ _ _) fun Q bp=>?_;unfold Rt;conv=>whnf
  refine ⟨_,_,MI (p4 (IK rfl hk) rfl) cH _ _,?_⟩;conv=>whnf
  refine .inl ⟨by omega,?_⟩;conv=>whnf
  have e1:ar.cells (l.map h0)=Iq l.toArray:=rfl;have b':I.ref 0 0 l.length none 1=J2 0 l.toArray.size:=by unfold J2;simp
  erw [e1];refine ⟨_,_,ra (by show Sem Try.prog (.fn 74) [I.ref 0 0 l.length none 1] [Iq l.toArray] 0 (.tuple []) [Iq S];rw [b'];exact cp),?_⟩;conv=>whnf
  have cI:rowOf [Iq S] (.ref 0 0 l.length none 1)=some (S.toList.map h0):=aeK rfl (bR.symm.trans sX.symm) fun _=>rfl;refine ⟨.av (S.toList.map h0) l.length .shared,[.dead],fun C=>?_,?_⟩
  ·show ((rowOf [Iq S] (.ref 0 0 l.length none 1)).bind fun row=>some (I.av row l.length .shared,[ar.dead]))=_;rw [cI];rfl
  conv=>whnf
  rw [show S.toList.length=l.length from sX.trans bR] at bp;exact bp _ _ _ ⟨.inr rfl,_,rfl,_,yW (rE (fun _=>rfl) _ _ _),rfl⟩
 ·cases h

noncomputable def PI:gE :=
 .loop (some (p_ false [0,2,5,2,10])) (p2 [p0 9 [.nc 8,.nc 7] (.bin .lss)] (.seq (.cond (.nc 9) .skip (.exit 0)) (.seq (.block 1 (p2 [p3 10 8,p1 5 10] (p2 [p3 11 1,p3 12 0,p3 13 5,rn 14 12 13 1,qf 15 14,p0 16 [.nc 11,.nc 15] (.call 6)] (.cond (.nc 16) (p2 [p1 17 5,p1 4 17] .ret) .skip)))) (qM [qU 18 8 1,p1 8 18]))))
noncomputable def Yv:gE :=
 p2 [p' 4 0] (.seq (p2 [p3 6 0,qW 7 6,p' 8 0] (.block 0 PI)) (p2 [p' 4 (-1)] .ret))
theorem acW:qj Try.prog P4 76=some (Yv,19,[.tmp 4]):=by kernel_rfl
def JD (s:qk) (f:(Int→Option Bool)) (qe:Unit→Option Int):Nat→Int→Option Int
 | 0,_=>none
 | m+1,s1 =>
   if (decide (s1<(s.length:Int)))=true then
    qI (0≤s1∧s1<(s.length:Int)) <|
    (f (ix s s1)).bind fun aS =>
    if aS=true then
     some s1
    else
     JD s f qe m (w (s1+(1:Int)))
   else
    qe ()
def N1 (s:qk) (f:(Int→Option Bool)):Option Int :=
 JD s f (fun _ =>
   some (-1:Int)) qn (0:Int)
theorem agv {s:qk} {f:(Int→Option Bool)} {qe:Unit→Option Int} {s1:Int} {rV:FuncId} {rh:List I} (Hm:Hy rh) (Je:∀ (q4:Int) (r:Bool),f q4=some r→qt rV ((h0 q4)::rh) (B r)) {v:Int} {Q:H6}   (jJ:qC [.tmp 4] Q (fun v=>(h0 v)) v) (ry:∀ (qh:List I),qe ()=some v→rO 19 [] qh→Q (.exit 0) qh []) {T:List I} (b0:eZ (p_ false [0,2,5,2,10]) T=qb 19 [(0,(q3 s .shared)),(1,(.func rV [] rh)),(7,(h0 (s.length:Int))),(8,(h0 s1))]) (h:JD s f qe qn s1=some v) :
  dQ Try.prog P4 76 0 none PI T [] Q:=by
 unfold PI;refine wp_loop b0 ?_;refine .intro (fun m T H=>∃ (s1:Int),T=qb 19 [(0,(q3 s .shared)),(1,(.func rV [] rh)),(7,(h0 (s.length:Int))),(8,(h0 s1))]∧H=[]∧JD s f qe m s1=some v) qn ⟨s1,rfl,rfl,h⟩ ?_;clear h b0;rintro m T H ⟨s1,rfl,rfl,h⟩;cases m
 ·exact Hr h
 rename_i m;rw [JD.eq_2] at h;conv=>whnf
 refine bs h (fun gM h=>?_) fun gM h=>?_
 ·rw [gM];conv=>whnf
  refine q8 h id fun gN h=>?_;rw [rD h0 s s1 gN];conv=>whnf
  obtain ⟨aS,qp,h⟩:=p8 h;refine ⟨_,_,call6 (bs:=((h0 (ix s s1))::rh)) (by simp only [sD,Hm.iD,Hm.cc];rfl) (by simp only [sD,Hm.iD];exact (p4 rfl Hm.Sv)) (Je _ _ qp) rfl,?_⟩;conv=>whnf
  cases aS
  ·(conv=>whnf);replace h:=Ho rfl h;exact ⟨m,sG m,(w (s1+(1:Int))),rfl,rfl,h⟩
  ·(conv=>whnf);replace h:=Hp rfl h;exact p9 h jJ rfl rfl
 ·rw [gM];conv=>whnf
  exact ry  _ h ⟨rfl,rfl⟩
theorem agw {s:qk} {f:(Int→Option Bool)} {rV:FuncId} {rh:List I} (Hm:Hy rh) (Je:∀ (q4:Int) (r:Bool),f q4=some r→qt rV ((h0 q4)::rh) (B r)) {v:Int} (h:N1 s f=some v):qt 76 [(.av (s.map h0) s.length .shared),(.func rV [] rh)] (h0 v):=by
 refine qD eG acW rfl rfl fun Q bp=>?_;have jJ:qC [.tmp 4] Q (fun v=>(h0 v)) v:=fun T H bE=>bp _ T H bE;unfold N1 at h;unfold Yv;obtain ⟨H9,qG⟩:∃ c,PI=c:=⟨_,rfl⟩;rw [qG];conv=>whnf
 subst qG;refine agv Hm Je ?_ ?_ (by exact rfl) h
 ·exact fun T H bE=>jJ T H bE
 ·intro  qh h qK;obtain ⟨rT,rfl⟩:=qK.ex;conv=>whnf
  exact p9 h jJ rfl rfl

noncomputable def Yp:gE :=
 p2 [p0 4 [.cv (.bool false)] .mU] (p2 [p1 5 0,p1 6 1,p0 7 [.cv (.func 76 [] []),.nc 5,.nc 6] (.call 6),qu 8 7 0 .geq,p1 4 8] .ret)
theorem acQ:qj Try.prog S9 60=some (Yp,9,[.tmp 4]):=by kernel_rfl
def NZ (s:qk) (f:(Int→Option Bool)):Option Bool :=
 (N1 s f).bind fun aS =>
 some (decide ((0:Int)≤aS))
theorem agn {s:qk} {f:(Int→Option Bool)} {rV:FuncId} {rh:List I} (Hm:Hy rh) (Je:∀ (q4:Int) (r:Bool),f q4=some r→qt rV ((h0 q4)::rh) (B r)) {v:Bool} (h:NZ s f=some v):qt 60 [(.av (s.map h0) s.length .shared),(.func rV [] rh)] (B v):=by
 refine qD eG acQ rfl rfl fun Q bp=>?_;have jJ:qC [.tmp 4] Q (fun v=>(B v)) v:=fun T H bE=>bp _ T H bE;unfold NZ at h;unfold Yp;conv=>whnf
 obtain ⟨aS,gM,h⟩:=p8 h;refine ⟨_,_,P8 (cs:=[(q3 s .shared),(.func rV [] rh)]) (bs:=[(q3 s .shared),(.func rV [] rh)]) (Ka rfl (Ka (Hm.fn _ _) M7)) (by rfl) (by exact (p4 (rE (fun _=>rfl) _ _ _) (p4 (Hm.Vo _) rfl))) (agw Hm Je gM) rfl,?_⟩;conv=>whnf
 exact p9 h jJ rfl rfl

noncomputable def Yq:gE :=
 p2 [p0 4 [.cv (.bool false)] .mU] (p2 [p3 5 0,qf 6 1,qs 7 5 6 .lss,p1 8 7,cl 9 [.jq 0] 8 false .mU,cl 10 [.Bs 2] 8 false (.zE .one),cl 11 [.Bs 9,.Bs 10] 8 false (.bin .gtr),p0 12 [.Bs 8,.cv (.bool true),.Bs 11] .pick,p1 4 12] .ret)
theorem acR:qj Try.prog S_ 61=some (Yq,13,[.tmp 4]):=by kernel_rfl
def Lv (n g9 a7:Int):Option Bool :=
 if (decide (n<g9))=true then
  some true
 else
  some (decide (a7<n))
theorem ago {n:Int} {g9:Int} {a7:Int} {v:Bool} (h:Lv n g9 a7=some v):qt 61 [(h0 n),(.bS [(h0 g9)]),(.bS [(h0 a7)])] (B v):=by
 refine qD eG acR rfl rfl fun Q bp=>?_;have jJ:qC [.tmp 4] Q (fun v=>(B v)) v:=fun T H bE=>bp _ T H bE;unfold Lv at h;unfold Yq;conv=>whnf
 refine bs h (fun gM h=>?_) fun gM h=>?_
 ·rw [gM];conv=>whnf
  exact p9 h jJ rfl rfl
 ·rw [gM];conv=>whnf
  exact p9 h jJ rfl rfl

noncomputable def Yf:gE :=
 p2 [p0 3 [.jq 0] .box,p0 4 [.jq 1] .box,p0 6 [.cv (.bool false)] .mU] (p2 [p1 7 2,p0 8 [.Bs 3,.Bs 4] (.zY 61 0 2),p0 9 [.cv (.func 60 [] []),.nc 7,.nc 8] (.call 6),p0 10 [.Bs 9] (.un .not),p1 6 10] .ret)
theorem acG:qj Try.prog SS 37=some (Yf,11,[.tmp 6]):=by kernel_rfl
def IB (lo hi:Int) (l:qk):Option Bool :=
 (NZ l (fun q4=>Lv q4 lo hi)).bind fun aS =>
 some (!aS)
theorem Kr {lo:Int} {hi:Int} {l:qk} {v:Bool} (h:IB lo hi l=some v):qt 37 [(h0 lo),(h0 hi),(.av (l.map h0) l.length .shared)] (B v):=by
 refine qD eG acG rfl rfl fun Q bp=>?_;have jJ:qC [.tmp 6] Q (fun v=>(B v)) v:=fun T H bE=>bp _ T H bE;unfold IB at h;unfold Yf;conv=>whnf
 obtain ⟨aS,gM,h⟩:=p8 h;refine ⟨_,_,P8 (cs:=[(q3 l .shared),(.func 61 [] [(.bS [(h0 lo)]),(.bS [(h0 hi)])])]) (bs:=[(q3 l .shared),(.func 61 [] [(.bS [(h0 lo)]),(.bS [(h0 hi)])])]) (Ka rfl (Ka (aeT M7 (Ka (WM (cs:=[(h0 lo)]) (by first | exact qN.h | rfl | (simp [sm,I.settle];done)) rfl) (Ka (WM (cs:=[(h0 hi)]) (by first | exact qN.h | rfl | (simp [sm,I.settle];done)) rfl) M7))) M7)) (by rfl) (by exact (p4 (rE (fun _=>rfl) _ _ _) (p4 (IK rfl (p4 (Ia (p4 rfl rfl)) (p4 (Ia (p4 rfl rfl)) rfl))) rfl))) (agn ⟨(p4 (Ia (p4 rfl rfl)) (p4 (Ia (p4 rfl rfl)) rfl)),by simp⟩ (fun _ _ aY=>ago aY) gM) rfl,?_⟩
 conv=>whnf
 exact p9 h jJ rfl rfl

noncomputable def Yg:gE :=
 p2 [p0 1 [.jq 0] .box,p0 2 [.cv (.bool false)] .mU] (p2 [p0 3 [.nc 1] (.yM 0),qf 4 3,p0 5 [.Bs 4] (.yB 1 1 [.int .i64 0] [0]),p0 6 [.cv (.func 37 [] []),.cv (.int .i64 0),.cv (.int .i64 100),.nc 5] (.call 3),p0 7 [.Bs 6] (.un .not),p1 8 7,cl 9 [.Bs 1] 8 false (.yM 1),cl 10 [.Bs 9] 8 false (.zE .one),⟨some 11,[.Bs 10],some (8,false),none,.yB 1 1 [.int .i64 0] [0]⟩,⟨some 12,[.cv (.func 37 [] []),.cv (.int .i64 (-10)),.cv (.int .i64 10),.nc 11],some (8,false),none,.call 3⟩,cl 13 [.Bs 12] 8 false (.un .not),p0 14 [.Bs 8,.cv (.bool true),.Bs 13] .pick,p1 2 14] .ret)
theorem acH:qj Try.prog SX 44=some (Yg,15,[.tmp 2]):=by kernel_rfl
def Ks (s:(Int×Int)):Option Bool :=
 (IB (0:Int) (100:Int) [s.1]).bind fun aS =>
 if aS=true then
  (IB (-10:Int) (10:Int) [s.2]).bind fun bj =>
  some (!bj)
 else
  some true
theorem XG {s:(Int×Int)} {v:Bool} (h:Ks s=some v):qt 44 [(.agg [(h0 s.1),(h0 s.2)])] (B v):=by
 refine qD eG acH rfl rfl fun Q bp=>?_;have jJ:qC [.tmp 2] Q (fun v=>(B v)) v:=fun T H bE=>bp _ T H bE;unfold Ks at h;unfold Yg;conv=>whnf
 obtain ⟨aS,gM,h⟩:=p8 h;refine ⟨(p4 rfl (p4 rfl (p4 rfl rfl))),_,Kr gM,?_⟩;conv=>whnf
 cases aS
 ·conv=>whnf
  replace h:=Ho rfl h;exact p9 h jJ rfl rfl
 ·conv=>whnf
  replace h:=Hp rfl h;obtain ⟨bj,gN,h⟩:=p8 h;refine ⟨(p4 rfl (p4 rfl (p4 rfl rfl))),_,Kr gN,?_⟩;conv=>whnf
  exact p9 h jJ rfl rfl

noncomputable def Pu:gE :=
 .loop (some (p_ false [0,2,5,2,10])) (p2 [p0 9 [.nc 8,.nc 7] (.bin .lss)] (.seq (.cond (.nc 9) .skip (.exit 0)) (.seq (.block 1 (p2 [p3 10 8,p1 5 10] (p2 [p3 11 1,p3 12 0,p3 13 5,rn 14 12 13 2,p0 15 [.Bs 14] (.zE (.str 2)),p0 16 [.nc 11,.nc 15] (.call 6)] (.cond (.nc 16) (p2 [p1 17 5,p1 4 17] .ret) .skip)))) (qM [qU 18 8 1,p1 8 18]))))
noncomputable def XU:gE :=
 p2 [p' 4 0] (.seq (p2 [p3 6 0,qW 7 6,p' 8 0] (.block 0 Pu)) (p2 [p' 4 (-1)] .ret))
theorem ach:qj Try.prog P3 64=some (XU,19,[.tmp 4]):=by kernel_rfl
def Lh (s:qg) (f:((Int×Int)→Option Bool)) (qe:Unit→Option Int):Nat→Int→Option Int
 | 0,_=>none
 | m+1,s1 =>
   if (decide (s1<(s.length:Int)))=true then
    qI (0≤s1∧s1<(s.length:Int)) <|
    (f (ix s s1)).bind fun aS =>
    if aS=true then
     some s1
    else
     Lh s f qe m (w (s1+(1:Int)))
   else
    qe ()
def Pc (s:qg) (f:((Int×Int)→Option Bool)):Option Int :=
 Lh s f (fun _ =>
   some (-1:Int)) qn (0:Int)
theorem afI {s:qg} {f:((Int×Int)→Option Bool)} {qe:Unit→Option Int} {s1:Int} {rV:FuncId} {rh:List I} (Hm:Hy rh) (Je:∀ (q4:(Int×Int)) (r:Bool),f q4=some r→qt rV ((.agg [(h0 q4.1),(h0 q4.2)])::rh) (B r)) {v:Int} {Q:H6}   (jJ:qC [.tmp 4] Q (fun v=>(h0 v)) v) (ry:∀ (qh:List I),qe ()=some v→rO 19 [] qh→Q (.exit 0) qh []) {T:List I} (b0:eZ (p_ false [0,2,5,2,10]) T=qb 19 [(0,(q9 s .shared)),(1,(.func rV [] rh)),(7,(h0 (s.length:Int))),(8,(h0 s1))]) (h:Lh s f qe qn s1=some v) :
  dQ Try.prog P3 64 0 none Pu T [] Q:=by
 unfold Pu;refine wp_loop b0 ?_;refine .intro (fun m T H=>∃ (s1:Int),T=qb 19 [(0,(q9 s .shared)),(1,(.func rV [] rh)),(7,(h0 (s.length:Int))),(8,(h0 s1))]∧H=[]∧Lh s f qe m s1=some v) qn ⟨s1,rfl,rfl,h⟩ ?_;clear h b0;rintro m T H ⟨s1,rfl,rfl,h⟩;cases m
 ·exact Hr h
 rename_i m;rw [Lh.eq_2] at h;conv=>whnf
 refine bs h (fun gM h=>?_) fun gM h=>?_
 ·rw [gM];conv=>whnf
  refine q8 h id fun gN h=>?_;rw [IY p7 2 LY s s1 gN];conv=>whnf
  obtain ⟨aS,qp,h⟩:=p8 h;refine ⟨_,_,call6 (bs:=((.agg [(h0 (ix s s1).1),(h0 (ix s s1).2)])::rh)) (by simp only [sD,Hm.iD,Hm.cc];rfl) (by simp only [sD,Hm.iD];exact (p4 (HS (p4 rfl (p4 rfl rfl))) Hm.Sv)) (Je _ _ qp) rfl,?_⟩;conv=>whnf
  cases aS
  ·(conv=>whnf);replace h:=Ho rfl h;exact ⟨m,sG m,(w (s1+(1:Int))),rfl,rfl,h⟩
  ·(conv=>whnf);replace h:=Hp rfl h;exact p9 h jJ rfl rfl
 ·rw [gM];conv=>whnf
  exact ry  _ h ⟨rfl,rfl⟩
theorem afJ {s:qg} {f:((Int×Int)→Option Bool)} {rV:FuncId} {rh:List I} (Hm:Hy rh) (Je:∀ (q4:(Int×Int)) (r:Bool),f q4=some r→qt rV ((.agg [(h0 q4.1),(h0 q4.2)])::rh) (B r)) {v:Int} (h:Pc s f=some v):qt 64 [(.av (s.flatMap p7) s.length .shared),(.func rV [] rh)] (h0 v):=by
 refine qD eG ach rfl rfl fun Q bp=>?_;have jJ:qC [.tmp 4] Q (fun v=>(h0 v)) v:=fun T H bE=>bp _ T H bE;unfold Pc at h;unfold XU;obtain ⟨H9,qG⟩:∃ c,Pu=c:=⟨_,rfl⟩;rw [qG];conv=>whnf
 subst qG;refine afI Hm Je ?_ ?_ (by exact rfl) h
 ·exact fun T H bE=>jJ T H bE
 ·intro  qh h qK;obtain ⟨rT,rfl⟩:=qK.ex;conv=>whnf
  exact p9 h jJ rfl rfl

noncomputable def Yu:gE :=
 p2 [p0 4 [.cv (.bool false)] .mU] (p2 [p1 5 0,p1 6 1,p0 7 [.cv (.func 64 [] []),.nc 5,.nc 6] (.call 6),qu 8 7 0 .geq,p1 4 8] .ret)
theorem acV:qj Try.prog SW 43=some (Yu,9,[.tmp 4]):=by kernel_rfl
def N0 (s:qg) (f:((Int×Int)→Option Bool)):Option Bool :=
 (Pc s f).bind fun aS =>
 some (decide ((0:Int)≤aS))
theorem agu {s:qg} {f:((Int×Int)→Option Bool)} {rV:FuncId} {rh:List I} (Hm:Hy rh) (Je:∀ (q4:(Int×Int)) (r:Bool),f q4=some r→qt rV ((.agg [(h0 q4.1),(h0 q4.2)])::rh) (B r)) {v:Bool} (h:N0 s f=some v):qt 43 [(.av (s.flatMap p7) s.length .shared),(.func rV [] rh)] (B v):=by
 refine qD eG acV rfl rfl fun Q bp=>?_;have jJ:qC [.tmp 4] Q (fun v=>(B v)) v:=fun T H bE=>bp _ T H bE;unfold N0 at h;unfold Yu;conv=>whnf
 obtain ⟨aS,gM,h⟩:=p8 h;refine ⟨_,_,P8 (cs:=[(q9 s .shared),(.func rV [] rh)]) (bs:=[(q9 s .shared),(.func rV [] rh)]) (Ka rfl (Ka (Hm.fn _ _) M7)) (by rfl) (by exact (p4 (Hu (fun _=>(p4 rfl (p4 rfl rfl))) _ _ _) (p4 (Hm.Vo _) rfl))) (afJ Hm Je gM) rfl,?_⟩;conv=>whnf
 exact p9 h jJ rfl rfl

noncomputable def PF:gE :=
 .cond (.nc 3) (p2 [p' 2 6] .ret) (p2 [p0 18 [.nc 1] (.yM 0),qf 19 18,p0 20 [.cv (.func 43 [] []),.nc 19,.cv (.func 44 [] [])] (.call 3),p1 21 20,cl 22 [.nc 1] 21 false (.yM 1),cl 23 [.Bs 22] 21 false (.yM 0),cl 24 [.Bs 23] 21 false (.zE .one),cl 25 [.nc 1] 21 false (.yM 1),cl 26 [.Bs 25] 21 false (.yM 1),cl 27 [.Bs 26] 21 false (.zE .one),⟨some 28,[.Bs 24,.Bs 27],some (21,false),none,.yB 2 1 [.int .i64 0] [0,1]⟩,⟨some 29,[.cv (.func 37 [] []),.cv (.int .i64 0),.cv (.int .i64 50),.nc 28],some (21,false),none,.call 3⟩,cl 30 [.Bs 29] 21 false (.un .not),p0 31 [.Bs 21,.cv (.bool true),.Bs 30] .pick,p1 32 31,cl 33 [.nc 1] 32 false (.yM 1),cl 34 [.Bs 33] 32 false (.yM 0),cl 35 [.Bs 34] 32 false (.zE .one),cl 36 [.Bs 1] 32 false (.yM 1),cl 37 [.Bs 36] 32 false (.yM 1),cl 38 [.Bs 37] 32 false (.zE .one),cl 39 [.Bs 35,.Bs 38] 32 false (.bin .gtr),p0 40 [.Bs 32,.cv (.bool true),.Bs 39] .pick,p1 17 40] (.cond (.nc 17) (p2 [p' 2 3] .ret) .skip))
noncomputable def Ym:gE :=
 p2 [p0 1 [.jq 0] .box,p' 2 0] (.seq (.block 0 (p2 [p0 4 [.nc 1] (.yM 0),qf 5 4,qW 6 5,p0 7 [.Bs 6] (.yB 1 1 [.int .i64 0] [0]),p0 8 [.cv (.func 37 [] []),.cv (.int .i64 3),.cv (.int .i64 7),.nc 7] (.call 3),p0 9 [.Bs 8] (.un .not),p1 10 9,cl 11 [.nc 1] 10 false (.yM 0),cl 12 [.Bs 11] 10 false (.zE .one),cl 13 [.jq 12] 10 false .zJ,cl 14 [.Bs 13,.cv (.int .i64 2)] 10 false (.bin .rem),cl 15 [.Bs 14,.cv (.int .i64 0)] 10 false (.bin .eql),p0 16 [.Bs 10,.cv (.bool true),.Bs 15] .pick,p1 3 16] PF)) (p2 [p' 2 0] .ret))
theorem acN:qj Try.prog PS 16=some (Ym,41,[.tmp 2]):=by kernel_rfl
def MA (p:(qg×(Int×Int))) (Oy:Unit→Option Int) (dD:Bool):Option Int :=
 if dD=true then
  some (6:Int)
 else
  (N0 p.1 (fun q4=>Ks q4)).bind fun bj =>
  if bj=true then
   some (3:Int)
  else
   (IB (0:Int) (50:Int) [p.2.1,p.2.2]).bind fun eK =>
   if eK=true then
    if (decide (p.2.2<p.2.1))=true then
     some (3:Int)
    else
     Oy ()
   else
    some (3:Int)
def Kv (p:(qg×(Int×Int))):Option Int :=
 (IB (3:Int) (7:Int) [(p.1.length:Int)]).bind fun aS =>
 if aS=true then
  qI ((2:Int)≠0) <|
  MA p (fun _ =>
    some (0:Int)) (decide (((p.1.length:Int).tmod (2:Int))=(0:Int)))
 else
  MA p (fun _ =>
    some (0:Int)) true
theorem XP {p:(qg×(Int×Int))} {Oy:Unit→Option Int} {dD:Bool} {v:Int} {Q:H6}  {qh:List I}  (jJ:qC [.tmp 2] Q (fun v=>(h0 v)) v) (aaZ:∀ (bx:ar) (qh:List I),Oy ()=some v→rO 41 [] qh→Q .normal qh [bx]) (qK:rO 41 [(1,(.ptr 0 0)),(3,(B dD))] qh) (h:MA p Oy dD=some v) :
  dQ Try.prog PS 16 0 none PF qh [ar.cells [(q9 p.1 .shared),(h0 p.2.1),(h0 p.2.2)]] Q:=by
 obtain ⟨rT,rfl⟩:=qK.ex;unfold MA at h;unfold PF;conv=>whnf
 cases dD
 ·conv=>whnf
  replace h:=Ho rfl h;obtain ⟨bj,qp,h⟩:=p8 h;refine ⟨(p4 (Hu (fun _=>(p4 rfl (p4 rfl rfl))) _ _ _) (p4 (IK rfl rfl) rfl)),_,agu ⟨rfl,by simp⟩ (fun _ _ aY=>XG aY) qp,?_⟩;conv=>whnf
  cases bj
  ·(conv=>whnf);replace h:=Ho rfl h;obtain ⟨eK,qE,h⟩:=p8 h;refine ⟨(p4 rfl (p4 rfl (p4 rfl rfl))),_,Kr qE,?_⟩;(conv=>whnf);cases eK
   ·(conv=>whnf);replace h:=Ho rfl h;exact p9 h jJ rfl rfl
   ·(conv=>whnf);replace h:=Hp rfl h;refine bs h (fun qX h=>?_) fun qX h=>?_
    ·rw [qX];(conv=>whnf);exact p9 h jJ rfl rfl
    ·rw [qX];(conv=>whnf);exact aaZ _ _ h ⟨rfl,rfl⟩
  ·(conv=>whnf);replace h:=Hp rfl h;exact p9 h jJ rfl rfl
 ·conv=>whnf
  replace h:=Hp rfl h;exact p9 h jJ rfl rfl
theorem Lt {p:(qg×(Int×Int))} {v:Int} (h:Kv p=some v):qt 16 [(.agg [(.av (p.1.flatMap p7) p.1.length .shared),(h0 p.2.1),(h0 p.2.2)])] (h0 v):=by
 refine qD eG acN rfl rfl fun Q bp=>?_;have jJ:qC [.tmp 2] Q (fun v=>(h0 v)) v:=fun T H bE=>bp _ T H bE;unfold Kv at h;unfold Ym;obtain ⟨H9,qG⟩:∃ c,PF=c:=⟨_,rfl⟩;rw [qG];conv=>whnf
 obtain ⟨aS,gM,h⟩:=p8 h;refine ⟨(p4 rfl (p4 rfl (p4 rfl rfl))),_,Kr gM,?_⟩;conv=>whnf
 cases aS
 ·conv=>whnf
  replace h:=Ho rfl h;subst qG;refine XP ?_ ?_ (by exact ⟨rfl,rfl⟩) h
  ·exact fun T H bE=>jJ T H bE
  ·intro bx qh h qK;obtain ⟨rT,rfl⟩:=qK.ex;(conv=>whnf);exact p9 h jJ rfl rfl
 ·conv=>whnf
  replace h:=Hp rfl h;refine q8 h id fun gN h=>?_;conv=>whnf
  subst qG;refine XP ?_ ?_ (by exact ⟨rfl,rfl⟩) h
  ·exact fun T H bE=>jJ T H bE
  ·intro bx qh h qK;obtain ⟨rT,rfl⟩:=qK.ex;(conv=>whnf);exact p9 h jJ rfl rfl

noncomputable def Yn:gE :=
 p2 [p0 1 [.jq 0] .box,p0 2 [.cv .a0] .mU] (p2 [p0 3 [.Bs 1] (.zY 75 0 1),p1 2 3] .ret)
theorem acO:qj Try.prog S8 59=some (Yn,4,[.tmp 2]):=by kernel_rfl
def Pq (s:qk):Option Unit :=
 some ()
theorem Sa {s:qk} {v:Unit} (h:Pq s=some v):qt 59 [(.av (s.map h0) s.length .shared)] (.func 75 [] [(.bS [(.av (s.map h0) s.length .shared)])]):=by
 refine qD eG acO rfl (IK rfl (p4 (Ia (p4 (rE (fun _=>rfl) _ _ _) rfl)) rfl)) fun Q bp=>?_;have jJ:qC [.tmp 2] Q (fun v=>(.func 75 [] [(.bS [(q3 s .shared)])])) v:=fun T H bE=>bp _ T H bE;unfold Pq at h;unfold Yn;conv=>whnf
 exact jJ _ _ ⟨.inr rfl,_,rfl,_,(TM Ix (rf (TP (l:=[(q3 s .shared)]) (by first | exact qN.h | rfl | (simp [sm,I.settle];done)) (p4 (rE (fun _=>rfl) _ _ _) rfl)) Ix)),rfl⟩

def ME (x:((qg×(Int×Int))×Unit)):List I:=[(q9 x.1.1 .shared),(h0 x.1.2.1),(h0 x.1.2.2),Hf]
instance {d:Nat} {x:((qg×(Int×Int))×Unit)}:qd (d+2) (ME x):=⟨(inferInstance:qd (d+2) [(q9 x.1.1 .shared),(h0 x.1.2.1),(h0 x.1.2.2),Hf]).pl⟩
noncomputable def JE:gE :=
 .loop (some (p_ false [2,1,5,1,8,3,6,3,19])) (p2 [p0 29 [.nc 28,.nc 27] (.bin .lss)] (.seq (.cond (.nc 29) .skip (.exit 2)) (.seq (.block 3 (p2 [p3 30 28,p0 31 [.nc 26,.nc 28] (.kY 1),qf 32 31,p1 10 30,p1 11 32] (p2 [p1 33 11,p1 34 10,qs 35 33 34 .neq] (.cond (.nc 35) (p2 [p0 4 [.cv .eI] .mU,p' 5 16] .ret) .skip)))) (qM [qU 36 28 1,p1 28 36]))))
noncomputable def I5:gE :=
 .loop (some (p_ false [2,1,14,3,28])) (p2 [p0 20 [.nc 19,.nc 18] (.bin .lss)] (.seq (.cond (.nc 20) .skip (.exit 0)) (.seq (.block 1 (p2 [p0 21 [.nc 17,.nc 19] (.kY 1),qf 22 21,p1 8 22] (p2 [p3 23 8,p0 24 [.cv (.func 59 [] []),.nc 23] (.call 3),p0 25 [.cv (.func 58 [] []),.nc 24] (.call 3),p1 9 25] (.seq (p2 [p1 26 9,p0 27 [.nc 26] .zJ,p' 28 0] (.block 2 JE)) (p2 [p1 37 8,qW 38 37,p0 39 [.nc 2] (.yM 0),qf 40 39,qW 41 40,qs 42 38 41 .neq] (.cond (.nc 42) (p2 [p0 4 [.cv .eI] .mU,p' 5 16] .ret) .skip)))))) (qM [qU 43 19 1,p1 19 43]))))
noncomputable def MD:gE :=
 p2 [p0 2 [.jq 0] .box,p0 4 [.cv .eI] .mU,p' 5 0] (.seq (p2 [p0 12 [.nc 2] (.zE (.str 3)),p0 13 [.cv (.func 16 [] []),.nc 12] (.call 3),p1 6 13] (p2 [p3 14 6,qu 15 14 0 .neq] (.cond (.nc 15) (p2 [p1 16 6,p0 4 [.cv .eI] .mU,p1 5 16] .ret) .skip))) (.seq (p2 [p1 17 1,p0 18 [.nc 17] .zJ,p' 19 0] (.block 0 I5)) (p2 [p0 44 [.Bs 2] (.zE (.str 3)),p0 45 [] .zZ,p0 46 [.Bs 44,.Bs 45] (.build [.av [] 0 .full,.int .i64 0,.int .i64 0,.a0] [(0,3),(3,1)]),p0 47 [.jq 46] .box,p1 4 47,p' 5 0] .ret)))
theorem M6:qj Try.prog J4 36=some (MD,48,[.tmp 4,.tmp 5]):=by kernel_rfl
def Io (eK:qk) (Hq:Unit→Option ((Option ((qg×(Int×Int))×Unit))×Int)):Nat→Int→Option ((Option ((qg×(Int×Int))×Unit))×Int)
 | 0,_=>none
 | m+1,s2 =>
   if (decide (s2<(eK.length:Int)))=true then
    qI (0≤s2∧s2<(eK.length:Int)) <|
    if (decide ((ix eK s2)≠s2))=true then
     some (none,(16:Int))
    else
     Io eK Hq m (w (s2+(1:Int)))
   else
    Hq ()
def Hx (p:(qg×(Int×Int))) (qa:Ky) (qe:Unit→Option ((Option ((qg×(Int×Int))×Unit))×Int)):Nat→Int→Option ((Option ((qg×(Int×Int))×Unit))×Int)
 | 0,_=>none
 | m+1,s1 =>
   if (decide (s1<(qa.length:Int)))=true then
    qI (0≤s1∧s1<(qa.length:Int)) <|
    (Pq (ix qa s1)).bind fun bj =>
    (Pp (ix qa s1)).bind fun eK =>
    Io eK (fun _ =>
      if (decide (((ix qa s1).length:Int)≠(p.1.length:Int)))=true then
       some (none,(16:Int))
      else
       Hx p qa qe m (w (s1+(1:Int)))) qn (0:Int)
   else
    qe ()
def rz (p:(qg×(Int×Int))) (qa:Ky):Option ((Option ((qg×(Int×Int))×Unit))×Int) :=
 (Kv p).bind fun aS =>
 if (decide (aS≠(0:Int)))=true then
  some (none,aS)
 else
  Hx p qa (fun _ =>
    some ((some (p,())),(0:Int))) qn (0:Int)
theorem af4 {eK:qk} {Hq:Unit→Option ((Option ((qg×(Int×Int))×Unit))×Int)} {s2:Int} {p:(qg×(Int×Int))} {qa:Ky} {s1:Int} {v:((Option ((qg×(Int×Int))×Unit))×Int)} {Q:H6}   (jJ:qC [.tmp 4,.tmp 5] Q (fun v=>(.tuple [(LW ME v.1),(h0 v.2)])) v) (K0:∀ (qh:List I),Hq ()=some v→rO 48 [(2,(.ptr 0 0)),(8,(q3 (ix qa s1) .shared)),(17,(.av (qa.map oX) qa.length .shared)),(18,(h0 (qa.length:Int))),(19,(h0 s1))] qh→Q (.exit 2) qh [ar.cells [(q9 p.1 .shared),(h0 p.2.1),(h0 p.2.2)]]) {T:List I} (b0:eZ (p_ false [2,1,5,1,8,3,6,3,19]) T=qb 48 [(2,(.ptr 0 0)),(8,(q3 (ix qa s1) .shared)),(17,(.av (qa.map oX) qa.length .shared)),(18,(h0 (qa.length:Int))),(19,(h0 s1)),(26,(q3 eK .shared)),(27,(h0 (eK.length:Int))),(28,(h0 s2))]) (h:Io eK Hq qn s2=some v) :
  dQ Try.prog J4 36 0 none JE T [ar.cells [(q9 p.1 .shared),(h0 p.2.1),(h0 p.2.2)]] Q:=by
 unfold JE;refine wp_loop b0 ?_;refine .intro (fun m T H=>∃ (s2:Int),T=qb 48 [(2,(.ptr 0 0)),(8,(q3 (ix qa s1) .shared)),(17,(.av (qa.map oX) qa.length .shared)),(18,(h0 (qa.length:Int))),(19,(h0 s1)),(26,(q3 eK .shared)),(27,(h0 (eK.length:Int))),(28,(h0 s2))]∧H=[ar.cells [(q9 p.1 .shared),(h0 p.2.1),(h0 p.2.2)]]∧Io eK Hq m s2=some v) qn ⟨s2,rfl,rfl,h⟩ ?_;clear h b0;rintro m T H ⟨s2,rfl,rfl,h⟩;cases m
 ·exact Hr h
 rename_i m;rw [Io.eq_2] at h;conv=>whnf
 refine bs h (fun qR h=>?_) fun qR h=>?_
 ·rw [qR];conv=>whnf
  refine q8 h id fun rU h=>?_;rw [rD h0 eK s2 rU];conv=>whnf
  refine bs h (fun rJ h=>?_) fun rJ h=>?_
  ·rw [rJ];(conv=>whnf);exact p9 h jJ rfl rfl
  ·rw [rJ];(conv=>whnf);exact ⟨m,sG m,(w (s2+(1:Int))),rfl,rfl,h⟩
 ·rw [qR];conv=>whnf
  exact K0  _ h ⟨rfl,rfl⟩
theorem af3 {p:(qg×(Int×Int))} {qa:Ky} {qe:Unit→Option ((Option ((qg×(Int×Int))×Unit))×Int)} {s1:Int} {v:((Option ((qg×(Int×Int))×Unit))×Int)} {Q:H6}   (jJ:qC [.tmp 4,.tmp 5] Q (fun v=>(.tuple [(LW ME v.1),(h0 v.2)])) v) (ry:∀ (qh:List I),qe ()=some v→rO 48 [(2,(.ptr 0 0))] qh→Q (.exit 0) qh [ar.cells [(q9 p.1 .shared),(h0 p.2.1),(h0 p.2.2)]]) {T:List I} (b0:eZ (p_ false [2,1,14,3,28]) T=qb 48 [(2,(.ptr 0 0)),(17,(.av (qa.map oX) qa.length .shared)),(18,(h0 (qa.length:Int))),(19,(h0 s1))]) (h:Hx p qa qe qn s1=some v) :
  dQ Try.prog J4 36 0 none I5 T [ar.cells [(q9 p.1 .shared),(h0 p.2.1),(h0 p.2.2)]] Q:=by
 unfold I5;obtain ⟨H9,qG⟩:∃ c,JE=c:=⟨_,rfl⟩;rw [qG];refine wp_loop b0 ?_;refine .intro (fun m T H=>∃ (s1:Int),T=qb 48 [(2,(.ptr 0 0)),(17,(.av (qa.map oX) qa.length .shared)),(18,(h0 (qa.length:Int))),(19,(h0 s1))]∧H=[ar.cells [(q9 p.1 .shared),(h0 p.2.1),(h0 p.2.2)]]∧Hx p qa qe m s1=some v) qn ⟨s1,rfl,rfl,h⟩ ?_;clear h b0;rintro m T H ⟨s1,rfl,rfl,h⟩;cases m
 ·exact Hr h
 rename_i m;rw [Hx.eq_2] at h;conv=>whnf
 refine bs h (fun qp h=>?_) fun qp h=>?_
 ·rw [qp];conv=>whnf
  refine q8 h id fun qE h=>?_;rw [rD oX qa s1 qE];conv=>whnf
  obtain ⟨bj,qX,h⟩:=p8 h;refine ⟨qd.pl,_,Sa qX,?_⟩;conv=>whnf
  obtain ⟨eK,rG,h⟩:=p8 h;refine ⟨(p4 (IK rfl (p4 (Ia (p4 (rE (fun _=>rfl) _ _ _) rfl)) rfl)) rfl),_,R'  rG,?_⟩;conv=>whnf
  subst qG;refine af4 ?_ ?_ (by exact rfl) h
  ·exact fun T H bE=>jJ T H bE
  ·intro  qh h qK;obtain ⟨rT,rfl⟩:=qK.ex;(conv=>whnf);refine bs h (fun rW h=>?_) fun rW h=>?_
   ·rw [rW];(conv=>whnf);exact p9 h jJ rfl rfl
   ·rw [rW];(conv=>whnf);exact ⟨m,sG m,(w (s1+(1:Int))),rfl,rfl,h⟩
 ·rw [qp];conv=>whnf
  exact ry  _ h ⟨rfl,rfl⟩
theorem Mx {p:(qg×(Int×Int))} {qa:Ky} {v:((Option ((qg×(Int×Int))×Unit))×Int)} (h:rz p qa=some v):qt 36 [(.agg [(.av (p.1.flatMap p7) p.1.length .shared),(h0 p.2.1),(h0 p.2.2)]),(.av (qa.map oX) qa.length .shared)] (.tuple [(LW ME v.1),(h0 v.2)]):=by
 refine qD eG M6 rfl (IL (p4 (Vs (fun _=>(p4 (Hu (fun _=>(p4 rfl (p4 rfl rfl))) _ _ _) (p4 rfl (p4 rfl (p4 rfl rfl))))) _) (p4 rfl rfl))) fun Q bp=>?_;have jJ:qC [.tmp 4,.tmp 5] Q (fun v=>(.tuple [(LW ME v.1),(h0 v.2)])) v:=fun T H bE=>bp _ T H bE;unfold rz at h;unfold MD;obtain ⟨LH,Hi⟩:∃ c,I5=c:=⟨_,rfl⟩;rw [Hi];conv=>whnf
 obtain ⟨aS,gM,h⟩:=p8 h;refine ⟨qd.pl,_,Lt gM,?_⟩;conv=>whnf
 refine bs h (fun gN h=>?_) fun gN h=>?_
 ·rw [gN];conv=>whnf
  exact p9 h jJ rfl rfl
 ·rw [gN];conv=>whnf
  subst Hi;refine af3 ?_ ?_ (by exact rfl) h
  ·exact fun T H bE=>jJ T H bE
  ·intro  qh h qK;obtain ⟨rT,rfl⟩:=qK.ex;(conv=>whnf);obtain rfl:=Option.some.inj h;exact jJ _ _ ⟨.inr rfl,_,rfl,_,(MJ (rf (aal (l:=[(q9 p.1 .shared),(h0 p.2.1),(h0 p.2.2),(.map 1)]) (by first | exact qN.h | rfl | (simp [sm,I.settle];done)) (rf (yW (Hu (fun _=>(p4 rfl (p4 rfl rfl))) _ _ _)) (rf (yW rfl) (rf (yW rfl) (rf (TN (by simp) (by simp)) Ix))))) (rf (yW rfl) Ix))),rfl⟩
end Go.Proofs.Ytkoioidpbbbaiaa.Ab


namespace Go.Proofs.Ytkoioidpbbbaiaa.Ab
open Go
section
variable {P:Program}
theorem call9 {k:FuncId} {xs bs:List I} {H:List ar} {lo:Nat} {v:I} (af:(xs.map I.gw).map I.cc=bs) (aB:(xs.map I.gw).all (cr 8)=true) (h:nn P k bs v):oV P 9 lo (.fn k) xs H v.cc H:=by
 subst af;refine ⟨_,EB h.1,?_⟩;simp only [eQ,aB,EA,sa,yW h.2,sd]
theorem aeP {k:FuncId} {args:List I} {H H':List ar} {lo:Nat} {r:I} (h:Sem P (.fn k) (args.map I.gw) H lo r H'):Sem P (.fn k) args H lo r H':=by
 obtain ⟨aQ,ab,ae⟩:=h;exact ⟨aQ,ab,fun B aa J S w vs ag aI ad=>ae B aa J S w vs ag aI ad.gw⟩
theorem ZA {k:FuncId} {args:List I} {es:List (Nat×I×I)} {clock:Nat} {D:List ar} (cu:(args.map I.gw).all (cr 8)=true) (Jd:∀ (j i:Nat) (k v:I),es[j]?=some (i,k,v)→cr 8 k=true∧cr 8 v=true)
  (h:Sem P (.fn k) (args.map I.gw) [] 0 (.map 0) (.map es clock::D)) (H:List ar) (lo:Nat):oV P 2 lo (.fn k) args H (.map H.length) (H++[.map es clock]):=by
 refine ⟨_,EB (aeP (aeN cu Jd h H)),?_⟩;have e1:Co H.length (.map H.length)=some H.length:=by simp [Co,yU]
 have b':(H++[ar.map es clock])[H.length]?=some (.map es clock):=by simp
 have dA:bM (H++[ar.map es clock]) H.length H.length H.length 8 (.map H.length)=some (.map H.length):=by simp [bM]
 have gb:DM 2 H.length (H++[ar.map es clock]) (.map H.length)=some H.length:=e1;simp only [eQ,EA,sa,gb,b',dA,sb,if_true,U1 fun j i k v aw=>⟨yW (Jd j i k v aw).1,yW (Jd j i k v aw).2⟩]
def I.Ld:I→I
 | .av c n (.own _)=>.av c n .shared
 | v=>v
variable {J:List Nat} {S:Nat→Nat→Prop} {w:World} {aa:Nat→Option aH}
theorem aez {u:I} {v:Value} (h:Rel J S w u v):Rel J S w u.Ld v:=by
 unfold I.Ld;split
 ·rename_i c n z;exact h.view rfl
 ·exact h
theorem adi {l:aH} {u:I} {v:Value} (h:aU aa J S w l u v):aU aa J S w l u.Ld v:=by
 unfold I.Ld;split
 ·exact aU.b4 rfl
 ·exact h
theorem afm {bA:Nat→aH} {T:List I} {bc:List Value} (h:a5 bA aa J S w T bc):a5 bA aa J S w (T.map I.Ld) bc :=
 ⟨by simpa using h.len,fun i u v hu ad=>by
  rw [sj] at hu;simp only [rZ] at hu;obtain ⟨x,aj,rfl⟩:=hu;exact aez (h.rel i x v aj ad),fun i u v hu ad=>by
  rw [sj] at hu;simp only [rZ] at hu
  obtain ⟨x,aj,rfl⟩:=hu;exact adi (h.own i x v aj ad)⟩
theorem aeO {k:FuncId} {args:List I} {H H':List ar} {lo:Nat} {r:I} (h:Sem P (.fn k) (args.map I.Ld) H lo r H'):Sem P (.fn k) args H lo r H':=by
 obtain ⟨aQ,ab,ae⟩:=h;exact ⟨aQ,ab,fun B aa J S w vs ag aI ad=>ae B aa J S w vs ag aI (afm ad)⟩
theorem adv {k:FuncId} {args:List I} {v:I} (h:nn P k (args.map I.Ld) v):nn P k args v:=⟨aeO h.1,h.2⟩
end
end Go.Proofs.Ytkoioidpbbbaiaa.Ab


namespace Go.Proofs.Ytkoioidpbbbaiaa.Ab
open Go
set_option maxRecDepth 20000
set_option maxHeartbeats 4000000
abbrev qc:=(List (Int×Int))×(Int×Int)
abbrev rp (p:qc):ar:=ar.cells [(.av (p.1.flatMap p7) p.1.length .shared),(h0 p.2.1),(h0 p.2.2)]
abbrev Ly (p:qc) (qa:List (List Int)):List I:=[(.agg [(.av (p.1.flatMap p7) p.1.length .shared),(h0 p.2.1),(h0 p.2.2)]),(.av (qa.map oX) qa.length .shared)]
theorem af5 {eK:(List Int)} {Hq:Unit→Option ((Option (((List (Int×Int))×(Int×Int))×Unit))×Int)} {s2:Int} {p:((List (Int×Int))×(Int×Int))} {qa:(List (List Int))} {s1:Int} {v:((Option (((List (Int×Int))×(Int×Int))×Unit))×Int)} {Q:cQ→List I→List ar→Prop}   (jJ:∀ (e:Int) (T:List I),v=(none,e)→rB [rp p] T [.tmp 4,.tmp 5]=some [.eI,h0 e]→Q .ret T [rp p]) (K0:∀ (qh:List I),Hq ()=some v→rO 48 [(2,(.ptr 0 0)),(8,(.av ((ix qa s1).map h0) (ix qa s1).length .shared)),(17,(.av (qa.map oX) qa.length .shared)),(18,(h0 (qa.length:Int))),(19,(h0 s1))] qh→Q (.exit 2) qh [ar.cells [(.av (p.1.flatMap p7) p.1.length .shared),(h0 p.2.1),(h0 p.2.2)]]) {T:List I} (b0:eZ [false,false,true,false,false,false,false,false,true,false,false,false,false,false,false,false,false,true,true,true,false,false,false,false,false,false,true,true,true,false,false,false,false,false,false,false,false,false,false,false,false,false,false,false,false,false,false,false] T=qb 48 [(2,(.ptr 0 0)),(8,(.av ((ix qa s1).map h0) (ix qa s1).length .shared)),(17,(.av (qa.map oX) qa.length .shared)),(18,(h0 (qa.length:Int))),(19,(h0 s1)),(26,(.av (eK.map h0) eK.length .shared)),(27,(h0 (eK.length:Int))),(28,(h0 s2))]) (h:Io eK Hq qn s2=some v) :
  dQ Try.prog J4 36 0 none JE T [ar.cells [(.av (p.1.flatMap p7) p.1.length .shared),(h0 p.2.1),(h0 p.2.2)]] Q:=by
 unfold JE;skip;refine wp_loop b0 ?_;refine .intro (fun m T H=>∃ (s2:Int),T=qb 48 [(2,(.ptr 0 0)),(8,(.av ((ix qa s1).map h0) (ix qa s1).length .shared)),(17,(.av (qa.map oX) qa.length .shared)),(18,(h0 (qa.length:Int))),(19,(h0 s1)),(26,(.av (eK.map h0) eK.length .shared)),(27,(h0 (eK.length:Int))),(28,(h0 s2))]∧H=[ar.cells [(.av (p.1.flatMap p7) p.1.length .shared),(h0 p.2.1),(h0 p.2.2)]]∧Io eK Hq m s2=some v) qn ⟨s2,rfl,rfl,h⟩ ?_;clear h b0;rintro m T H ⟨s2,rfl,rfl,h⟩;cases m
 ·exact Hr h
 rename_i m;rw [Io.eq_2] at h;conv=>whnf
 refine bs h (fun qR h=>?_) fun qR h=>?_
 ·rw [qR];conv=>whnf
  refine q8 h id fun rU h=>?_;rw [rD h0 eK s2 rU];conv=>whnf
  refine bs h (fun rJ h=>?_) fun rJ h=>?_
  ·rw [rJ];(conv=>whnf);obtain rfl:=Option.some.inj h;exact jJ _ _ rfl rfl
  ·rw [rJ];(conv=>whnf);exact ⟨m,sG m,(w (s2+(1:Int))),rfl,rfl,h⟩
 ·rw [qR];conv=>whnf
  exact K0  _ h ⟨rfl,rfl⟩
theorem XB {p:((List (Int×Int))×(Int×Int))} {qa:(List (List Int))} {qe:Unit→Option ((Option (((List (Int×Int))×(Int×Int))×Unit))×Int)} {s1:Int} {v:((Option (((List (Int×Int))×(Int×Int))×Unit))×Int)} {Q:cQ→List I→List ar→Prop}   (jJ:∀ (e:Int) (T:List I),v=(none,e)→rB [rp p] T [.tmp 4,.tmp 5]=some [.eI,h0 e]→Q .ret T [rp p]) (ry:∀ (qh:List I),qe ()=some v→rO 48 [(2,(.ptr 0 0))] qh→Q (.exit 0) qh [ar.cells [(.av (p.1.flatMap p7) p.1.length .shared),(h0 p.2.1),(h0 p.2.2)]]) {T:List I} (b0:eZ [false,false,true,false,false,false,false,false,false,false,false,false,false,false,false,false,false,true,true,true,false,false,false,false,false,false,false,false,false,false,false,false,false,false,false,false,false,false,false,false,false,false,false,false,false,false,false,false] T=qb 48 [(2,(.ptr 0 0)),(17,(.av (qa.map oX) qa.length .shared)),(18,(h0 (qa.length:Int))),(19,(h0 s1))]) (h:Hx p qa qe qn s1=some v) :
  dQ Try.prog J4 36 0 none I5 T [ar.cells [(.av (p.1.flatMap p7) p.1.length .shared),(h0 p.2.1),(h0 p.2.2)]] Q:=by
 unfold I5;obtain ⟨H9,qG⟩:∃ c,JE=c:=⟨_,rfl⟩;rw [qG];refine wp_loop b0 ?_;refine .intro (fun m T H=>∃ (s1:Int),T=qb 48 [(2,(.ptr 0 0)),(17,(.av (qa.map oX) qa.length .shared)),(18,(h0 (qa.length:Int))),(19,(h0 s1))]∧H=[ar.cells [(.av (p.1.flatMap p7) p.1.length .shared),(h0 p.2.1),(h0 p.2.2)]]∧Hx p qa qe m s1=some v) qn ⟨s1,rfl,rfl,h⟩ ?_;clear h b0;rintro m T H ⟨s1,rfl,rfl,h⟩;cases m
 ·exact Hr h
 rename_i m;rw [Hx.eq_2] at h;conv=>whnf
 refine bs h (fun qp h=>?_) fun qp h=>?_
 ·rw [qp];conv=>whnf
  refine q8 h id fun qE h=>?_;rw [rD oX qa s1 qE];conv=>whnf
  obtain ⟨bj,qX,h⟩:=p8 h;refine ⟨qd.pl,_,Sa qX,?_⟩;conv=>whnf
  obtain ⟨eK,rG,h⟩:=p8 h;refine ⟨(p4 (IK rfl (p4 (Ia (p4 (rE (fun _=>rfl) _ _ _) rfl)) rfl)) rfl),_,R'  rG,?_⟩;conv=>whnf
  subst qG;refine af5 ?_ ?_ (by exact rfl) h
  ·exact fun e T bE ai=>jJ e T bE ai
  ·intro  qh h qK;obtain ⟨rT,rfl⟩:=qK.ex;(conv=>whnf);refine bs h (fun rW h=>?_) fun rW h=>?_
   ·rw [rW];(conv=>whnf);obtain rfl:=Option.some.inj h;exact jJ _ _ rfl rfl
   ·rw [rW];(conv=>whnf);exact ⟨m,sG m,(w (s1+(1:Int))),rfl,rfl,h⟩
 ·rw [qp];conv=>whnf
  exact ry  _ h ⟨rfl,rfl⟩
theorem UB {eK:List Int} {K:Unit→Option (Option (qc×Unit)×Int)} {t:qc×Unit} {e:Int}:∀ {m:Nat} {s:Int},Io eK K m s=some (some t,e)→K ()=some (some t,e)
 | 0,s,h=>by cases h
 | m+1,s,h=>by
   rw [Io.eq_2] at h;split at h
   ·obtain ⟨_,h⟩:=Hj h;split at h
    ·cases h
    ·exact UB h
   ·exact h
theorem UA {p:qc} {qa:List (List Int)} {K:Unit→Option (Option (qc×Unit)×Int)} {t:qc×Unit} {e:Int}:∀ {m:Nat} {s:Int},Hx p qa K m s=some (some t,e)→K ()=some (some t,e)
 | 0,s,h=>by cases h
 | m+1,s,h=>by
   rw [Hx.eq_2] at h;split at h
   ·obtain ⟨_,h⟩:=Hj h;obtain ⟨bj,_,h⟩:=p8 h;obtain ⟨eK,_,h⟩:=p8 h;have h:=UB h;split at h
    ·cases h
    ·exact UA h
   ·exact h
theorem Uz {p:qc} {qa:List (List Int)} {t:qc×Unit} {e:Int} (h:Hx p qa (fun _=>some (some (p,()),0)) qn 0=some (some t,e)):t=(p,())∧e=0:=by
 have h:=UA h;obtain ⟨ab,ae⟩:=Prod.mk.inj (Option.some.inj h);exact ⟨(Option.some.inj ab).symm,ae.symm⟩
theorem XA {p:qc} {qa:List (List Int)} {e:Int} (h:rz p qa=some (none,e)):Sem Try.prog (.fn 36) (Ly p qa) [] 0 (.tuple [.eI,h0 e]) [rp p]:=by
 refine re eG M6 rfl (Iw (sC _)) fun Q bp=>?_;have jJ:∀ (cV:Int) (T:List I),((none,e):Option (qc×Unit)×Int)=(none,cV)→rB [rp p] T [.tmp 4,.tmp 5]=some [.eI,h0 cV]→Q .ret T [rp p]:=fun cV T he ai=>by
  obtain rfl:=(Prod.mk.inj he).2;exact bp _ _ _ ⟨.inr rfl,lI.refl _,by rw [ai];rfl⟩
 unfold rz at h;unfold MD;obtain ⟨LH,Hi⟩:∃ c,I5=c:=⟨_,rfl⟩;rw [Hi];conv=>whnf
 obtain ⟨aS,gM,h⟩:=p8 h;refine ⟨qd.pl,_,Lt gM,?_⟩;conv=>whnf
 refine bs h (fun gN h=>?_) fun gN h=>?_
 ·rw [gN];conv=>whnf
  obtain rfl:aS=e:=(Prod.mk.inj (Option.some.inj h)).2;exact jJ _ _ rfl rfl
 ·rw [gN];conv=>whnf
  subst Hi;refine XB ?_ ?_ (by exact rfl) h
  ·exact fun e T bE ai=>jJ e T bE ai
  ·intro  qh h qK;exact absurd (Prod.mk.inj (Option.some.inj h)).1 (by simp)
theorem NQ {p:qc} {qa:List (List Int)} {t:qc×Unit} {e:Int} (h:rz p qa=some (some t,e)):t=(p,())∧e=0∧Sem Try.prog (.fn 36) (Ly p qa) [] 0 (.tuple [.ptr 2 0,h0 0]) [rp p,.map [] 0,.cells [(.av (p.1.flatMap p7) p.1.length .shared),(h0 p.2.1),(h0 p.2.2),.map 1]]:=by
 have ad:t=(p,())∧e=0:=by
  have aX:=h;unfold rz at aX;obtain ⟨aS,gM,aX⟩:=p8 aX;split at aX
  ·cases aX
  ·exact Uz aX
 obtain ⟨rfl,rfl⟩:=ad;refine ⟨rfl,rfl,?_⟩;refine re eG M6 rfl (Iw (sC _)) fun Q bp=>?_;unfold rz at h;unfold MD;obtain ⟨LH,Hi⟩:∃ c,I5=c:=⟨_,rfl⟩;rw [Hi];conv=>whnf
 obtain ⟨aS,gM,h⟩:=p8 h;refine ⟨qd.pl,_,Lt gM,?_⟩;conv=>whnf
 refine bs h (fun gN h=>?_) fun gN h=>?_
 ·exact absurd (Prod.mk.inj (Option.some.inj h)).1 (by simp)
 ·rw [gN];conv=>whnf
  subst Hi;refine XB ?_ ?_ (by exact rfl) h
  ·exact fun e T bE ai=>absurd (Prod.mk.inj bE).1 (by simp)
  ·intro  qh h qK;obtain ⟨rT,rfl⟩:=qK.ex;(conv=>whnf);exact bp _ _ _ ⟨.inr rfl,lI.refl _,rfl⟩
section
variable {p:qc} {qa:List (List Int)}
theorem ZC {e:Int} {lo:Nat} (h:rz p qa=some (none,e)):oV Try.prog 2 lo (.fn 36) (Ly p qa) [] (.tuple [.eI,h0 e]) [] :=
 ⟨_,EB (XA h),by
  show (k9 _ _ _ _ _ _ (.fn 36) (Ly p qa) [] 0).bind _=_
  rw [EA];rfl⟩
theorem ZB {t:qc×Unit} {e:Int} {lo:Nat} (h:rz p qa=some (some t,e)):oV Try.prog 2 lo (.fn 36) (Ly p qa) [] (.tuple [.ptr 0 0,h0 0]) [.cells [(.av (p.1.flatMap p7) p.1.length .shared),(h0 p.2.1),(h0 p.2.2),Hf]] :=
 ⟨_,EB (NQ h).2.2,by
  show (k9 _ _ _ _ _ _ (.fn 36) (Ly p qa) [] 0).bind _=_;rw [EA];have e1:ea (bM [rp p,.map [] 0,.cells [(.av (p.1.flatMap p7) p.1.length .shared),(h0 p.2.1),(h0 p.2.2),.map 1]] 0 2 0 8) [(.av (p.1.flatMap p7) p.1.length .shared),(h0 p.2.1),(h0 p.2.2),.map 1]=some [(.av (p.1.flatMap p7) p.1.length .shared),(h0 p.2.1),(h0 p.2.2),Hf] :=
   rf (yW (Hu (fun _=>p4 rfl (p4 rfl rfl)) _ _ _)) (rf (yW rfl) (rf (yW rfl) (rf (TN (by simp) (by simp)) Ix)))
  show (if 0≤2 then (match ea (bM [rp p,.map [] 0,.cells [(.av (p.1.flatMap p7) p.1.length .shared),(h0 p.2.1),(h0 p.2.2),.map 1]] 0 2 0 8) [(.av (p.1.flatMap p7) p.1.length .shared),(h0 p.2.1),(h0 p.2.2),.map 1],bM _ 0 2 0 8 (.tuple [.ptr 2 0,h0 0]) with | some l',some v=>some (v,[]++[ar.cells l']) | _,_=>none) else none)=_
  rw [e1];rfl⟩
end
end Go.Proofs.Ytkoioidpbbbaiaa.Ab


namespace Go.Proofs.Ytkoioidpbbbaiaa.Ab
open Go
noncomputable def Rv:gE :=
 p2 [p0 5 [.Bs 1,.Bs 2,.Bs 3,.nc 4] (.zY 66 0 4),⟨none,[.nc 4,.jq 5],none,none,.st 1⟩] (qM [qf 6 4,p0 7 [.jq 6,.cv (.av [] 0 .full)] (.call 1)])
noncomputable def Ru:gE :=
 p2 [p0 2 [.jq 0] .box] (p2 [p0 3 [] (.alloc [.int .i64 0,.int .i64 0,.int .i64 0,.int .i64 0,.int .i64 0,.int .i64 0,.int .i64 0])] (p2 [p0 4 [] (.alloc [.a0])] Rv))
theorem UW:qj Go.Proofs.Try.prog Tb 65=some (Ru,8,[]):=by kernel_rfl
noncomputable def aeb:gE :=
 p2 [qf 18 2,p1 19 0,p0 20 [.jq 18,.jq 19] (.call 1),p1 6 20] .ret
noncomputable def Nq:gE :=
 p2 [p1 47 7,p0 48 [.nc 3,.Bs 47] (.zu 7 1),⟨none,[.jq 48,.cv (.int .i64 0)],none,none,.st 1⟩] (p2 [p1 49 8,p0 50 [.Bs 49] (.un .not)] (.cond (.nc 50) (p2 [p0 6 [.cv (.bool false)] .mU] .ret) .skip))
noncomputable def La:gE :=
 p2 [p0 36 [.nc 4] (.zE .one),p3 37 0,p3 38 0,qW 39 38,p3 40 0,qW 41 40,p0 42 [.jq 37,.jq 39,.jq 41] (.Bh 1 false true true),p3 43 7,p0 44 [.Bs 43] (.yB 1 1 [.int .i64 0] [0]),p0 45 [.jq 42,.jq 44] (.app 1 8),p0 46 [.jq 36,.jq 45] (.call 1),p1 8 46] Nq
noncomputable def Rw:gE :=
 .seq (p2 [p3 30 7,p0 31 [.nc 3,.Bs 30] (.zu 7 1),qf 32 31,qu 33 32 0 .gtr] (.cond (.nc 33) (.exit 1) .skip)) (p2 [p3 34 7,p0 35 [.nc 3,.Bs 34] (.zu 7 1),⟨none,[.jq 35,.cv (.int .i64 1)],none,none,.st 1⟩] La)
noncomputable def Rx:gE :=
 .block 1 (p2 [p3 29 27,p1 7 29] Rw)
noncomputable def Jj:gE :=
 .seq (p2 [qf 21 1,p0 22 [.Bs 21] .z4,qv 23 22 0,qv 24 23 0,qf 25 24,qW 26 25,p' 27 0] (.block 0 (.loop (some (p_ false [0,1,2,2,21,2,24])) (p2 [p0 28 [.nc 27,.nc 26] (.bin .lss)] (.seq (.cond (.nc 28) .skip (.exit 0)) (.seq Rx (qM [qU 51 27 1,p1 27 51]))))))) (p2 [p0 6 [.cv (.bool true)] .mU] .ret)
noncomputable def Lb:gE :=
 .seq (p2 [p3 9 0,qW 10 9,p0 11 [.nc 1] (.zE .one),p0 12 [.Bs 11] .z4,qv 13 12 0,qv 14 13 0,qf 15 14,qW 16 15,qs 17 10 16 .eql] (.cond (.nc 17) aeb .skip)) Jj
noncomputable def K_:gE :=
 p2 [p0 6 [.cv (.bool false)] .mU] Lb
theorem Oz:qj Go.Proofs.Try.prog J5 66=some (K_,52,[.tmp 6]):=by kernel_rfl
end Go.Proofs.Ytkoioidpbbbaiaa.Ab


namespace Go.Proofs.Ytkoioidpbbbaiaa.Ab
open Go
set_option maxRecDepth 20000
set_option maxHeartbeats 4000000
def IG (b:I) (p:Nat):I:=.func 66 [] [b,.ptr p 0,.ptr (p+1) 0,.ptr (p+2) 0]
@[irreducible] def rq (X Y0:List ar) (L:Nat) (b:I) (p:Nat) (U:List Int) (Y:List ar):List ar:=X++(Y0++([.cells [.yield L],.cells (U.map h0),.cells [IG b p]]++Y))
section
variable {X Y0 Y:List ar} {L p:Nat} {b:I} {U:List Int} (aB:X.length+Y0.length=p)
include aB
theorem ae3:(rq X Y0 L b p U Y)[p]?=some (.cells [.yield L]):=by
 unfold rq;rw [sr (by omega),sr (by omega),show p-X.length-Y0.length=0 by omega];rfl
theorem RS:(rq X Y0 L b p U Y)[p+1]?=some (.cells (U.map h0)):=by
 unfold rq;rw [sr (by omega),sr (by omega),show p+1-X.length-Y0.length=1 by omega];rfl
theorem WT:(rq X Y0 L b p U Y)[p+2]?=some (.cells [IG b p]):=by
 unfold rq;rw [sr (by omega),sr (by omega),show p+2-X.length-Y0.length=2 by omega];rfl
theorem WU (MH:List Int):(rq X Y0 L b p U Y).set (p+1) (.cells (MH.map h0))=rq X Y0 L b p MH Y:=by
 unfold rq;rw [uP _ _ (by omega),uP _ _ (by omega),show p+1-X.length-Y0.length=1 by omega];rfl
end
def rX (l:List Int):I:=match l with | []=>.av [] 0 .full | _=>.av (l.map h0) l.length (.own 1)
theorem ae2 {Lf Lg:I} {Q:cQ→List I→List ar→Prop} {begun:List Int} {i n:Nat} {X Y0 Y:List ar} {L p:Nat} {b:I} {U:List Int} (aB:X.length+Y0.length=p) (Hl:U.length=7) (hi:i<7) (af:begun.length≤7)
  (dW:∃ Lx qy,Lx.length=X.length∧Sem Try.prog (.fn 66) [.av ((begun++[(i:Int)]).map h0) (begun++[(i:Int)]).length (.uniq 1),b,.ptr p 0,.ptr (p+1) 0,.ptr (p+2) 0] (rq X Y0 L b p U Y) 0 (.bool true) (rq Lx Y0 L b p U qy) ∧
   Q .normal (qb 52 [(0,rX begun),(3,.ptr (p+1) 0),(4,.ptr (p+2) 0),(26,h0 n),(27,h0 i),(28,Lf),(33,Lg),(50,.bool false)]) (rq Lx Y0 L b p (U.set i 0) qy)) :
  dQ Try.prog J5 66 0 none La (qb 52 [(0,rX begun),(3,.ptr (p+1) 0),(4,.ptr (p+2) 0),(7,h0 i),(26,h0 n),(27,h0 i),(28,Lf),(33,Lg)]) (rq X Y0 L b p U Y) Q:=by
 obtain ⟨Lx,qy,ag3,cp,bp⟩:=dW;have Ui:Lx.length+Y0.length=p:=by omega
 have fin:∀ dH,dH=qb 52 [(0,rX begun),(3,.ptr (p+1) 0),(4,.ptr (p+2) 0),(7,h0 i),(8,.bool true),(26,h0 n),(27,h0 i),(28,Lf),(33,Lg)]→dQ Try.prog J5 66 0 none Nq dH (rq Lx Y0 L b p U qy) Q:=by
  rintro _ rfl;unfold Nq;conv=>whnf
  refine ⟨by omega,?_⟩;conv=>whnf
  refine Ew (RS Ui) ?_;conv=>whnf
  rw [show 0+(i:Int).toNat*1=i by omega];refine Gn (by simp;omega) ?_;conv=>whnf
  rw [show (List.map h0 U).set i (I.int IntKind.i64 0)=(U.set i 0).map h0 by rw [tD],WU Ui];exact bp
 unfold La;cases begun with
 | nil =>
   (conv=>whnf);refine Ew (WT aB) ?_;(conv=>whnf);refine ⟨⟨by decide,by decide,by decide⟩,?_⟩;(conv=>whnf);refine ⟨rfl,by decide,?_⟩;(conv=>whnf);refine ⟨by decide,by decide,rfl,?_⟩;(conv=>whnf);refine ⟨_,_,ra cp,?_⟩;(conv=>whnf);exact fin _ rfl
 | cons a l =>
   (conv=>whnf);refine Ew (WT aB) ?_;(conv=>whnf);refine ⟨⟨rfl,by omega,sS _⟩,?_⟩;(conv=>whnf);rw [tH,Nat.mul_one,tb (by simp)];refine ⟨rfl,by decide,?_⟩;(conv=>whnf);refine ⟨by decide,by omega,by simp,?_⟩;(conv=>whnf);(have e1:List.map h0 (a::l)++[h0 (i:Int)]=((a::l)++[(i:Int)]).map h0:=by simp);(have b':(a::l).length+1=((a::l)++[(i:Int)]).length:=by simp);refine ⟨_,_,ra (by erw [e1,b'];exact cp),?_⟩;(conv=>whnf);exact fin _ rfl
def rb (U:List Int) (n:Nat):List Int:=((List.range n).filter fun i=>decide (U.getD i 0=0)).map fun i:Nat=>(i:Int)
theorem QS (U:List Int) (n:Nat):rb U (n+1)=rb U n++if U.getD n 0=0 then [(n:Int)] else []:=by
 unfold rb;rw [List.range_succ,tX,sT];by_cases h:U.getD n 0=0
 ·rw [if_pos h,uT (by simpa using h)];rfl
 ·rw [if_neg h,uy (by simpa using h)];rfl
theorem abE (U:List Int) (n:Nat):(rb U n).Nodup:=by
 unfold rb;refine List.Pairwise.map _ (R:=(·≠·)) (fun a b h=>by omega) ?_;exact List.Pairwise.filter _ List.nodup_range
theorem U6 {U:List Int} {n:Nat} {x:Int}:x∈rb U n↔∃ i:Nat,i<n∧U.getD i 0=0∧x=(i:Int):=by
 unfold rb;simp only [sA,td,sE,decide_eq_true_eq];constructor
 ·rintro ⟨i,⟨ab,ae⟩,rfl⟩;exact ⟨i,ab,ae,rfl⟩
 ·rintro ⟨i,ab,ae,rfl⟩;exact ⟨i,⟨ab,ae⟩,rfl⟩
theorem LR {U:List Int} {n i:Nat} (hi:i<U.length) (aQ:U.getD i 0=0):rb (U.set i 1) n=(rb U n).erase (i:Int):=by
 rw [(abE U n).erase_eq_filter];unfold rb;rw [List.filter_map,uL];congr 1;refine ud fun x _=>?_;by_cases e:x=i
 ·subst e;simp [hi]
 ·have:((x:Int) != (i:Int))=true:=by simp;omega
  simp only [Function.comp,this,Bool.true_and];congr 1;simp only [sv];rw [List.getElem?_set_ne (by omega)]
def rS (k:Nat) (U:List Int) (n i:Nat):Nat:=((rb U i).flatMap fun x=>(qV k ((rb U n).erase x)).map (x::·)).length
theorem Od (k:Nat) (U:List Int) (n i:Nat):rS k U n (i+1)=rS k U n i+if U.getD i 0=0 then (qV k ((rb U n).erase (i:Int))).length else 0:=by
 unfold rS;rw [QS,uc,sB];congr 1;by_cases h:U.getD i 0=0
 ·rw [if_pos h,if_pos h];simp
 ·rw [if_neg h,if_neg h];rfl
theorem abF {U:List Int} {n i:Nat} (hi:i≤n):∃ r,rb U n=rb U i++r:=by
 obtain ⟨d,rfl⟩:=Nat.exists_eq_add_of_le hi;clear hi
 induction d with
 | zero=>exact ⟨[],by simp⟩
 | succ d a8 =>
   obtain ⟨r,ai⟩:=a8;rw [←s_,QS,ai];exact ⟨_,sw ..⟩
theorem UL {k:Nat} {U:List Int} {n i j:Nat} {l:List Int} (hi:i<n) (aQ:U.getD i 0=0) (ao:(qV k ((rb U n).erase (i:Int)))[j]?=some l):(qV (k+1) (rb U n))[rS k U n i+j]?=some ((i:Int)::l):=by
 obtain ⟨r,ai⟩:=abF (U:=U) (n:=n) (i:=i+1) hi;rw [QS,if_pos aQ] at ai;show ((rb U n).flatMap fun x=>(qV k ((rb U n).erase x)).map (x::·))[rS k U n i+j]?=_;have aw:=(r_.1 ao).1;conv=>lhs;arg 1;arg 2;rw [ai]
 rw [uc,uc,sw,sr (by unfold rS;omega)];rw [show rS k U n i+j-((rb U i).flatMap fun x=>(qV k ((rb U n).erase x)).map (x::·)).length=j by unfold rS;omega];rw [List.getElem?_append_left (by simp;exact aw)];simp [ao]
theorem Ob {α:Type} (P:Nat→α→α→Prop) (h3:α) (h:∀ i a,∃ b,P i a b):∃ f:Nat→α,f 0=h3∧∀ i,P i (f i) (f (i+1)):=by
 classical
 exact ⟨fun n=>Nat.rec h3 (fun i a=>Classical.choose (h i a)) n,rfl,fun i=>ur (h i _)⟩
theorem WJ {U:List Int} {i:Nat} (h:∀ i,0≤U.getD i 0):∀ j,0≤(U.set i 1).getD j 0:=fun j=>by
 have:=h j;simp only [sv,List.getElem?_set] at this ⊢;split
 ·split <;> simp
 ·exact this
theorem WH {U:List Int} {i:Nat} (hi:i<U.length) (h:U.getD i 0=0):U.set i 0=U:=by
 rw [sv,sg hi] at h;rw [←show U[i]=0 from h,List.set_getElem_self]
def YA (L:Nat) (qF:Nat→List ar) (c:Nat) (begun:List Int) (E:List (List Int)):Prop :=
 ∀ (j:Nat) (l:List Int),E[j]?=some l→∀ Y:List ar,∃ Z,Sem Try.prog (.yield L) [rX (begun++l)] (qF (c+j)++Y) 0 (.bool true) (qF (c+j+1)++(Y++Z))
theorem T6 {b:((List (Int×Int))×(Int×Int))×Unit} (qR:b.1.1.length≤7) (iS:0<b.1.1.length) {L N:Nat} {qF:Nat→List ar} (hlen:∀ i,(qF i).length=N) {Y0:List ar} {p:Nat} (aB:N+Y0.length=p) :
  ∀ (k:Nat) (begun:List Int) (IC:hE) (U:List Int) (c:Nat),U.length=7→(∀ i,0≤U.getD i 0)→begun.length+k=b.1.1.length→(rb U b.1.1.length).length=k→((IC=.full∧begun=[])∨IC=.uniq 1∧begun≠[])→YA L qF c begun (qV k (rb U b.1.1.length)) →
  ∀ Y,∃ Z,Sem Try.prog (.fn 66) [.av (begun.map h0) begun.length IC,.bS [lp b],.ptr p 0,.ptr (p+1) 0,.ptr (p+2) 0] (rq (qF c) Y0 L (.bS [lp b]) p U Y) 0 (.bool true) (rq (qF (c+(qV k (rb U b.1.1.length)).length)) Y0 L (.bS [lp b]) p U (Y++Z))
 | 0,begun,IC,U,c,Hl,_,al,ao,CM,ai,Y=>by
   obtain ⟨Z,cp⟩:=ai 0 [] rfl (Y0++([.cells [.yield L],.cells (U.map h0),.cells [IG (.bS [lp b]) p]]++Y));(have Jz:(qF c).length+Y0.length=p:=by rw [hlen];exact aB);(have bJ:begun≠[]:=fun e=>by subst e;simp at al;omega);have CM:IC=.uniq 1:=by
    rcases CM with ⟨_,h⟩ | ⟨h,_⟩
    ·exact absurd h bJ
    ·exact h
   subst CM;obtain ⟨a,l,rfl⟩:=tI bJ;refine ⟨Z,?_⟩;(have e1:qF (c+0)++(Y0++([.cells [.yield L],.cells (U.map h0),.cells [IG (.bS [lp b]) p]]++Y))=rq (qF c) Y0 L (.bS [lp b]) p U Y:=by unfold rq;rfl);(have b':qF (c+0+1)++((Y0++([.cells [.yield L],.cells (U.map h0),.cells [IG (.bS [lp b]) p]]++Y))++Z)=rq (qF (c+1)) Y0 L (.bS [lp b]) p U (Y++Z):=by unfold rq;simp);rw [e1,b',sM] at cp;show Sem _ _ _ _ _ _ (rq (qF (c+1)) _ _ _ _ _ _);refine re eG Oz rfl cp.1 fun Q bp=>?_;unfold K_ Lb;obtain ⟨f',Hh⟩:∃ c,Jj=c:=⟨_,rfl⟩;rw [Hh];(conv=>whnf);rw [decide_eq_true (show (((a::l).length:Nat):Int)=(b.1.1.length:Int) by omega)];(conv=>whnf);refine Ew (ae3 Jz) ?_;(conv=>whnf);refine ⟨_,_,ra cp,?_⟩;(conv=>whnf);exact bp _ _ _ ⟨.inr rfl,lI.refl _,rfl⟩
 | k+1,begun,IC,U,c,Hl,MP,al,ao,CM,ai,Y=>by
   obtain ⟨n,aI⟩:∃ n,n=b.1.1.length:=⟨_,rfl⟩;have MF:=T6 (L:=L) qR iS hlen aB k;rw [←aI] at qR iS al ao ai MF ⊢;have Jz:∀ j,(qF j).length+Y0.length=p:=fun j=>by rw [hlen];exact aB
   obtain ⟨JG,KH,J9⟩:=Ob (fun i Z PO=>(i<n→U.getD i 0=0→∃ W,PO=Z++W∧Sem Try.prog (.fn 66) [.av ((begun++[(i:Int)]).map h0) (begun++[(i:Int)]).length (.uniq 1),.bS [lp b],.ptr p 0,.ptr (p+1) 0,.ptr (p+2) 0] (rq (qF (c+rS k U n i)) Y0 L (.bS [lp b]) p (U.set i 1) (Y++Z)) 0 (.bool true) (rq (qF (c+rS k U n (i+1))) Y0 L (.bS [lp b]) p (U.set i 1) (Y++PO)))∧(¬ (i<n∧U.getD i 0=0)→PO=Z)) ([]:List ar) (fun i Z=>by
    by_cases h:i<n∧U.getD i 0=0
    ·obtain ⟨hi,aQ⟩:=h;have hm:(i:Int)∈rb U n:=U6.2 ⟨i,hi,aQ,rfl⟩
     obtain ⟨W,mb⟩:=MF (begun++[(i:Int)]) (.uniq 1) (U.set i 1) (c+rS k U n i) (by simpa using Hl) (WJ MP) (by simp;omega) (by rw [LR (by omega) aQ,tP hm];omega) (.inr ⟨rfl,by simp⟩) (fun j l aw Y=>by
      rw [LR (by omega) aQ] at aw;obtain ⟨Z,cp⟩:=ai _ _ (UL hi aQ aw) Y;refine ⟨Z,?_⟩;rw [show c+rS k U n i+j=c+(rS k U n i+j) by omega,sw]
      exact cp) (Y++Z)
     refine ⟨Z++W,fun _ _=>⟨W,rfl,?_⟩,fun h=>absurd ⟨hi,aQ⟩ h⟩;rw [LR (by omega) aQ] at mb;rw [Od,if_pos aQ,←sw,←s_];exact mb
    ·exact ⟨Z,fun ab ae=>absurd ⟨ab,ae⟩ h,fun _=>rfl⟩)
   refine ⟨JG n,?_⟩;have QI:rS k U n n=(qV (k+1) (rb U n)).length:=rfl;rw [←QI];refine re eG Oz rfl (Iw (by unfold rq;simp [hlen])) fun Q bp=>?_;have main:∀ T,T=qb 52 [(0,rX begun),(1,.bS [lp b]),(2,.ptr p 0),(3,.ptr (p+1) 0),(4,.ptr (p+2) 0),(6,.bool false),(17,.bool false)]→dQ Try.prog J5 66 0 none Jj T (rq (qF c) Y0 L (.bS [lp b]) p U Y) Q:=by
    rintro _ rfl;unfold Jj Rx Rw;obtain ⟨bt,eS⟩:∃ c,La=c:=⟨_,rfl⟩;rw [eS];(conv=>whnf);rw [←aI];refine .intro (fun m T H=>∃ i:Nat,i≤n∧m=n-i∧T=qb 52 [(0,rX begun),(3,.ptr (p+1) 0),(4,.ptr (p+2) 0),(26,h0 n),(27,h0 i)]∧H=rq (qF (c+rS k U n i)) Y0 L (.bS [lp b]) p U (Y++JG i)) n ⟨0,sC _,rfl,rfl,by rw [KH,sM];rfl⟩ ?_;rintro m T H ⟨i,hi,rfl,rfl,rfl⟩;(conv=>whnf);refine HB (fun aR=>?_) (fun aR=>?_)
    ·(have hg:i<n:=by omega);(conv=>whnf);refine ⟨by omega,?_⟩;(conv=>whnf);refine Ew (RS (Jz _)) ?_;(conv=>whnf);rw [show 0+(i:Int).toNat*1=i by omega];refine Ew (x:=h0 (U.getD i 0)) (by rw [sj,sv,sg (show i<U.length by omega)];rfl) ?_;(conv=>whnf);(have rr:IntKind.i64.wrap ((i:Int)+1)=((i+1:Nat):Int):=by rw [HK _ (by omega) (by omega)];omega);refine HB (fun aQ=>?_) (fun aQ=>?_)
     ·(conv=>whnf);refine ⟨n-(i+1),by omega,i+1,by omega,rfl,by rw [rr];rfl,?_⟩;rw [Od,if_neg (by omega),(J9 i).2 (by omega)];rfl
     ·(have MN:U.getD i 0=0:=by have:=MP i;omega);obtain ⟨W,mb,cp⟩:=(J9 i).1 hg MN;(conv=>whnf);refine ⟨by omega,?_⟩;(conv=>whnf);refine Ew (RS (Jz _)) ?_;(conv=>whnf);rw [show 0+(i:Int).toNat*1=i by omega];refine Gn (by simp;omega) ?_;(conv=>whnf);rw [show (List.map h0 U).set i (I.int IntKind.i64 1)=(U.set i 1).map h0 by rw [tD],WU (Jz _)];subst eS;refine ae2 (Jz _) (by simpa using Hl) (by omega) (by omega) ⟨qF (c+rS k U n (i+1)),Y++JG (i+1),by rw [hlen,hlen],cp,?_⟩;(conv=>whnf);refine ⟨n-(i+1),by omega,i+1,by omega,rfl,by rw [rr];rfl,?_⟩;rw [List.set_set,WH (by omega) MN]
    ·(obtain rfl:i=n:=by omega);(conv=>whnf);exact bp _ _ _ ⟨.inr rfl,lI.refl _,rfl⟩
   rcases CM with ⟨rfl,rfl⟩ | ⟨rfl,bJ⟩
   ·unfold K_ Lb;obtain ⟨f',Hh⟩:∃ c,Jj=c:=⟨_,rfl⟩;rw [Hh];(conv=>whnf);rw [decide_eq_false (show ¬ (((([]:List Int).length:Nat):Int)=(b.1.1.length:Int)) by simp only [tR];omega)];(conv=>whnf);subst Hh;exact main _ rfl
   ·obtain ⟨a,l,rfl⟩:=tI bJ;unfold K_ Lb;obtain ⟨f',Hh⟩:∃ c,Jj=c:=⟨_,rfl⟩;rw [Hh];(conv=>whnf);rw [decide_eq_false (show ¬ ((((a::l).length:Nat):Int)=(b.1.1.length:Int)) by omega)];(conv=>whnf);subst Hh;exact main _ rfl
def N4 (P:Program) (k:FuncId) (cap:List I) (E:List I):Prop :=
 ∀ (l N:Nat) (qF:Nat→List ar),(∀ i,(qF i).length=N)→l<N →
   (∀ (i:Nat) (h:i<E.length) (Y:List ar),∃ Z,Sem P (.yield l) [E[i]] (qF i++Y) 0 (.bool true) (qF (i+1)++(Y++Z))) →
   ∀ Y,∃ Z,Sem P (.fn k) (.yield l::cap) (qF 0++Y) 0 (.tuple []) (qF E.length++(Y++Z))
theorem Ww {α:Type} {P:Program} {A:dw} {fn:FuncId} {rl:Option Nat} {k:FuncId} {cap:List I} {t:Nat} {bq:List Nat} {gH ct:Code} {T:List I} {H Hn:List ar} {Q:cQ→List I→List ar→Prop} {f:α→I} {L:List α} (Ik:N4 P k cap (L.map f))
  (Obj:Nat→List ar) (ax:df T t=.func k [] cap) (aQ:Obj 0=H) (hlen:∀ i,(Obj i).length=H.length)
  (K2:∀ (i:Nat) (h:i<L.length) (Y:List ar),∃ Z,Sem P (.yield H.length) [f L[i]] ((Obj i++[.loop .ready none fn (T.map I.view) bq gH ct A])++Y) 0 (.bool true) ((Obj (i+1)++[.loop .ready none fn (T.map I.view) bq gH ct A])++(Y++Z)))
  (hg:inLoop H rl=true) (aI:Obj L.length=Hn) (bp:∀ qy,Q .normal (T.map I.settle) ((Hn++[.dead])++qy)):dQ P A fn 0 rl (.AM (.nc t) bq gH ct) T H Q:=by
 show hI T t _;rw [iQ,ax]
 obtain ⟨qy,cp⟩:=Ik H.length (H.length+1) (fun i=>Obj i++[.loop .ready none fn (T.map I.view) bq gH ct A]) (fun i=>by simp [hlen]) (by omega) (fun i h Y=>by
  have aX:i<L.length:=by simpa using h
  obtain ⟨qy,ai⟩:=K2 i aX Y
  exact ⟨qy,by rw [tW];exact ai⟩) []
 subst aI;simp only [sM,ui,sW,aQ] at cp;have ao:(Obj L.length).length=H.length:=hlen _;refine ⟨hg,.tuple [],_,.ready,none,fn,T.map I.view,bq,gH,ct,A,cp,by rw [←ao];exact It _ _ _,by decide,?_⟩;show Q .normal (T.map I.settle) (((Obj L.length++[ar.loop .ready none fn (T.map I.view) bq gH ct A])++qy).set H.length .dead);rw [←ao,Jl];exact bp qy
def qi (n:Nat):List Int:=(List.range n).map fun i:Nat=>(i:Int)
theorem UJ {n:Nat} (aI:n≤7):rb [0,0,0,0,0,0,0] n=qi n:=by
 unfold rb qi;rw [tE.2];intro a cu
 have:a<n:=sE.1 cu
 have cO:a<7:=by omega
 match a,cO with
 | 0,_ | 1,_ | 2,_ | 3,_ | 4,_ | 5,_ | 6,_=>rfl
theorem WB {b:((List (Int×Int))×(Int×Int))×Unit} (qR:b.1.1.length≤7) (iS:0<b.1.1.length):N4 Try.prog 65 [.bS [lp b]] ((qV b.1.1.length (qi b.1.1.length)).map rX):=by
 intro L N qF hlen fq ai Y;have jT:=UJ qR
 obtain ⟨Z,cp⟩:=T6 (b:=b) (L:=L) qR iS hlen (Y0:=Y) (p:=N+Y.length) rfl b.1.1.length [] .full [0,0,0,0,0,0,0] 0 rfl (fun i=>by
  rw [sv]
  match i with
  | 0 | 1 | 2 | 3 | 4 | 5 | 6 | i+7=>simp) (by simp) (by rw [jT];simp [qi]) (.inl ⟨rfl,rfl⟩) (fun j l aw Y=>by
    rw [jT] at aw;obtain ⟨ab,ae⟩:=r_.1 aw;obtain ⟨Z,h⟩:=ai j (by simpa using ab) Y;refine ⟨Z,?_⟩;rw [tW,ae] at h;rw [sy]
    exact h) []
 rw [jT,sy] at cp;rw [sW];have e1:rq (qF 0) Y L (.bS [lp b]) (N+Y.length) [0,0,0,0,0,0,0] []=((qF 0++Y)++[.cells [.yield L]])++[.cells [h0 0,h0 0,h0 0,h0 0,h0 0,h0 0,h0 0]]++[.cells [IG (.bS [lp b]) (N+Y.length)]]:=by
  unfold rq;simp
 refine ⟨[.cells [.yield L],.cells [h0 0,h0 0,h0 0,h0 0,h0 0,h0 0,h0 0],.cells [IG (.bS [lp b]) (N+Y.length)]]++Z,?_⟩;have b':rq (qF (qV b.1.1.length (qi b.1.1.length)).length) Y L (.bS [lp b]) (N+Y.length) [0,0,0,0,0,0,0] ([]++Z)=qF (qV b.1.1.length (qi b.1.1.length)).length++(Y++([.cells [.yield L],.cells [h0 0,h0 0,h0 0,h0 0,h0 0,h0 0,h0 0],.cells [IG (.bS [lp b]) (N+Y.length)]]++Z)):=by
  unfold rq;simp
 rw [e1,b'] at cp;obtain ⟨Hn,T7⟩:∃ Hn,Hn=qF (qV b.1.1.length (qi b.1.1.length)).length++(Y++([.cells [.yield L],.cells [h0 0,h0 0,h0 0,h0 0,h0 0,h0 0,h0 0],.cells [IG (.bS [lp b]) (N+Y.length)]]++Z)):=⟨_,rfl⟩;rw [←T7] at cp ⊢;have hle:(qF 0++Y).length=N+Y.length:=by simp [hlen]
 obtain ⟨HL,gL⟩:∃ HL,HL=qF 0++Y:=⟨_,rfl⟩;rw [←gL] at cp hle ⊢;refine re eG UW rfl (Iw (by rw [T7,hle];simp [hlen])) fun Q bp=>?_;rw [←hle] at cp;unfold Ru Rv;conv=>whnf
 have l1:(HL++[ar.cells [I.yield L]]).length=HL.length+1:=by simp
 have l2:((HL++[ar.cells [I.yield L]])++[ar.cells [I.int IntKind.i64 0,I.int IntKind.i64 0,I.int IntKind.i64 0,I.int IntKind.i64 0,I.int IntKind.i64 0,I.int IntKind.i64 0,I.int IntKind.i64 0]]).length=HL.length+2:=by simp
 refine Ew (x:=.cells [.a0]) (by simp) ?_;conv=>whnf
 rw [HO];refine Ew (x:=.cells [IG (.bS [lp b]) HL.length]) (by rw [sr (sb _),l1,l2,Nat.sub_self];rfl) ?_;conv=>whnf
 refine ⟨_,_,ra (by rw [l1,l2];exact cp),?_⟩;conv=>whnf
 exact bp _ _ _ ⟨.inl rfl,lI.refl _,rfl⟩
end Go.Proofs.Ytkoioidpbbbaiaa.Ab


namespace Go.Proofs.Ytkoioidpbbbaiaa.Ab
open Go
noncomputable def V0:gE :=
 p2 [p0 2 [.cv (.av [] 0 .full)] (.nil 1)] (p2 [p1 3 0,p0 4 [.cv (.func 72 [] []),.cv (.av [] 0 .full),.nc 3] (.call 0),p1 2 4] .ret)
theorem abT:qj Go.Proofs.Try.prog S5 55=some (V0,5,[.tmp 2]):=by kernel_rfl
noncomputable def Wd:gE :=
 p2 [p0 2 [.jq 0] .box,p0 4 [.cv (.av [] 0 .full)] (.nil 1)] (.seq (p2 [p1 6 1] (.block 0 (.AM (.nc 6) [7] (q6 Go.Proofs.Try.prog 72 0) (q7 Go.Proofs.Try.prog 72 0)))) (p2 [p0 12 [.Bs 2] .take,p1 4 12] .ret))
theorem abZ:qj Go.Proofs.Try.prog Jw 72=some (Wd,13,[.tmp 4]):=by kernel_rfl
noncomputable def Q':gE :=
 .seq (p2 [p0 16 [.nc 4] (.zE .one),p0 17 [.cv (.func 46 [] []),.nc 16] (.call 3)] (.block 0 (.AM (.nc 17) [18] (q6 Go.Proofs.Try.prog 20 0) (q7 Go.Proofs.Try.prog 20 0)))) (p2 [qf 25 6,p1 2 25,p' 3 0] .ret)
noncomputable def VM:gE :=
 .seq (p2 [p3 13 5,qu 14 13 0 .neq] (.cond (.nc 14) (p2 [p1 15 5,p' 2 0,p1 3 15] .ret) .skip)) (p2 [p0 6 [] (.alloc [.int .i64 0]),⟨none,[.nc 6,.cv (.int .i64 0)],none,none,.st 1⟩] Q')
noncomputable def VN:gE :=
 p2 [p0 9 [.Bs 1] (.zE (.str 3)),p0 10 [.cv (.func 36 [] []),.nc 9,.cv (.av [] 0 .full)] (.call 3),p1 8 10,qo 11 8 0,p0 12 [.Bs 8] (.ext 1),p0 4 [] (.alloc [.eI]),⟨none,[.nc 4,.jq 11],none,none,.st 1⟩,p1 5 12] VM
noncomputable def VL:gE :=
 p2 [p0 1 [.jq 0] .box,p' 2 0,p' 3 0] VN
theorem abO:qj Go.Proofs.Try.prog Ju 20=some (VL,26,[.tmp 2,.tmp 3]):=by kernel_rfl
noncomputable def VH:gE :=
 p2 [p1 21 7,p0 22 [.Bs 6] (.zY 57 0 1),p0 23 [.cv (.func 56 [] []),.nc 21,.nc 22] (.call 0),p1 2 23,p' 3 0] .ret
noncomputable def VI:gE :=
 p2 [p1 18 4,p0 19 [.cv (.func 46 [] []),.nc 18] (.call 3),p0 20 [.cv (.func 55 [] []),.nc 19] (.call 3),p1 7 20] VH
noncomputable def Q_:gE :=
 p2 [p3 16 4,p0 17 [.Bs 16] (.zY 41 1 0),p0 6 [] (.alloc [.a0]),⟨none,[.nc 6,.jq 17],none,none,.st 1⟩] VI
noncomputable def VJ:gE :=
 .seq (p2 [p3 13 5,qu 14 13 0 .neq] (.cond (.nc 14) (p2 [p1 15 5,p0 2 [.cv (.av [] 0 .full)] (.nil 1),p1 3 15] .ret) .skip)) Q_
noncomputable def VK:gE :=
 p2 [p0 9 [.Bs 1] (.zE (.str 3)),p0 10 [.cv (.func 36 [] []),.nc 9,.cv (.av [] 0 .full)] (.call 3),p1 8 10,qo 11 8 0,p0 12 [.Bs 8] (.ext 1),p1 4 11,p1 5 12] VJ
noncomputable def VG:gE :=
 p2 [p0 1 [.jq 0] .box,p0 2 [.cv (.av [] 0 .full)] (.nil 1),p' 3 0] VK
theorem abN:qj Go.Proofs.Try.prog SP 33=some (VG,24,[.tmp 2,.tmp 3]):=by kernel_rfl
noncomputable def V2:gE :=
 .seq (qT [p0 6 [.nc 2] (.zE .one),p1 7 0,p0 8 [.nc 6,.nc 7] (.call 3),p0 9 [.nc 2] (.zE .one),p1 10 1,p0 11 [.nc 9,.nc 10] (.call 3),qs 12 8 11 .lss,p1 5 12]) .ret
noncomputable def V1:gE :=
 p2 [p0 5 [.cv (.bool false)] .mU] V2
theorem abU:qj Go.Proofs.Try.prog S6 57=some (V1,13,[.tmp 5]):=by kernel_rfl
end Go.Proofs.Ytkoioidpbbbaiaa.Ab


namespace Go.Proofs.Ytkoioidpbbbaiaa.Ab
open Go
theorem PQ {k k':FuncId} {xs ys:List I} {v bo:I} {acc:c7} (h:k'=k→ys=xs→bo=v) (t:∀ p∈acc,p.1=k→p.2.1=xs→p.2.2=v):∀ p∈((k',ys,bo)::acc:c7),p.1=k→p.2.1=xs→p.2.2=v:=fun p aB=>by
 rcases sx.1 aB with rfl | aB
 ·exact h
 ·exact t p aB
end Go.Proofs.Ytkoioidpbbbaiaa.Ab


namespace Go.Proofs.Ytkoioidpbbbaiaa.Ab
open Go
set_option maxRecDepth 20000
set_option maxHeartbeats 4000000
noncomputable def Wq:gE :=
 .ov false [p0 5 [.jq 7] .mU]
theorem ab6:ey Try.prog Jw (q6 Try.prog 72 0) 0=some Wq:=by kernel_rfl
noncomputable def Wv:gE :=
 .block 1 (.ov false [p0 8 [.nc 2] .take,p0 9 [.jq 5] .mU,p0 10 [.Bs 9] (.yB 1 1 [.av [] 0 .full] [0]),p0 11 [.jq 8,.jq 10] (.app 1 24),⟨none,[.jq 2,.jq 11],none,none,.st 1⟩])
theorem ab_:ey Try.prog Jw (q7 Try.prog 72 0) 0=some Wv:=by kernel_rfl
def H_ (l:List (List Int)):I:=match l with | []=>.av [] 0 .full | _=>.av (l.map oX) l.length (.own 1)
theorem Zj {l:List (List Int)} {e:List Int} (he:e≠[]) {yh fA Gi Gj rI IU HI u8 HJ HF HG HH:I} (ao:l.length≤100000) (Y:List ar) :
  ∃ Z,Sem Try.prog (.yield [ar.cells [H_ l]].length) [rX e] (([ar.cells [H_ l]]++[ar.loop .ready none 72 [yh,fA,.ptr 0 0,Gi,Gj,rI,IU,HI,u8,HJ,HF,HG,HH] [7] (q6 Try.prog 72 0) (q7 Try.prog 72 0) Jw])++Y) 0 (.bool true) (([ar.cells [H_ (l++[e])]]++[ar.loop .ready none 72 [yh,fA,.ptr 0 0,Gi,Gj,rI,IU,HI,u8,HJ,HF,HG,HH] [7] (q6 Try.prog 72 0) (q7 Try.prog 72 0) Jw])++(Y++Z)):=by
 refine ⟨[],?_⟩;rw [sM];obtain ⟨gb,e,rfl⟩:=tI he;refine O2 eG ab6 ab_ (It _ _ _) rfl (Iw (by simp)) ?_;unfold Wq;conv=>whnf
 refine ⟨rfl,It _ _ _,?_⟩;rw [Jl];unfold Wv;cases l with
 | nil =>
   (conv=>whnf);refine ⟨rfl,by omega,?_⟩;(conv=>whnf);refine ⟨by decide,by decide,rfl,?_⟩;(conv=>whnf);show _∧(([ar.cells [H_ ([]++[gb::e])]]++[ar.loop .busy none 72 [yh,fA,.ptr 0 0,Gi,Gj,rI,IU,HI,u8,HJ,HF,HG,HH] [7] (q6 Try.prog 72 0) (q7 Try.prog 72 0) Jw])++Y)[[ar.cells [H_ ([]++[gb::e])]].length]?=_∧lI ((([ar.cells [H_ ([]++[gb::e])]]++[ar.loop .busy none 72 [yh,fA,.ptr 0 0,Gi,Gj,rI,IU,HI,u8,HJ,HF,HG,HH] [7] (q6 Try.prog 72 0) (q7 Try.prog 72 0) Jw])++Y).set [ar.cells [H_ ([]++[gb::e])]].length _) _;exact ⟨rfl,It _ _ _,by rw [Jl];exact lI.refl _⟩
 | cons a l =>
   (conv=>whnf);refine ⟨rfl,by omega,?_⟩;(conv=>whnf);refine ⟨by decide,by simp only [sJ] at ao ⊢;omega,by simp,?_⟩;(conv=>whnf);(have e1:List.map oX (a::l)++[I.av (List.map h0 (gb::e)) (gb::e).length .shared]=((a::l)++[gb::e]).map oX:=by rw [sT];rfl);have dA:I.av (List.map oX (a::l)++[I.av (List.map h0 (gb::e)) (gb::e).length .shared]) ((a::l).length+1) (.own 1)=H_ ((a::l)++[gb::e]):=by
    show _=I.av (((a::l)++[gb::e]).map oX) ((a::l)++[gb::e]).length (.own 1);rw [sT,sB];rfl
   have l0:((([ar.cells [H_ (a::l)]]++[ar.loop .busy none 72 [yh,fA,.ptr 0 0,Gi,Gj,rI,IU,HI,u8,HJ,HF,HG,HH] [7] (q6 Try.prog 72 0) (q7 Try.prog 72 0) Jw])++Y).set 0 (ar.cells ([H_ (a::l)].set 0 (I.av (List.map oX (a::l)) (a::l).length hE.shared)))).set 0 (ar.cells [I.av (List.map oX (a::l)++[I.av (List.map h0 (gb::e)) (gb::e).length .shared]) ((a::l).length+1) (.own 1)])=([ar.cells [H_ ((a::l)++[gb::e])]]++[ar.loop .busy none 72 [yh,fA,.ptr 0 0,Gi,Gj,rI,IU,HI,u8,HJ,HF,HG,HH] [7] (q6 Try.prog 72 0) (q7 Try.prog 72 0) Jw])++Y:=by
    rw [dA];rfl
   erw [l0];exact ⟨It _ _ _,by erw [Jl];exact lI.refl _⟩
theorem OD (l:List (List Int)) (n:Nat) (c:hE):cr 8 (.av (l.map oX) n c)=true:=rE (d:=7) (f:=oX) (fun x=>rE (fun _=>rfl) _ _ _) l n c
theorem Vq (l:List (List Int)):cr 8 (H_ l)=true:=by
 cases l with
 | nil=>rfl
 | cons a l=>exact OD _ _ _
theorem ZX {k:FuncId} {cap:List I} {l:List (List Int)} (Ik:N4 Try.prog k cap (l.map rX)) (bJ:∀ e∈l,e≠[]) (ao:l.length≤100000):qt 72 [.av [] 0 .full,.func k [] cap] (H_ l):=by
 refine Oi eG abZ rfl (Vq l) fun Q bp=>?_;unfold Wd;obtain ⟨a7,cf⟩:∃ c,gE.AM (.nc 6) [7] (q6 Try.prog 72 0) (q7 Try.prog 72 0)=c:=⟨_,rfl⟩;rw [cf];conv=>whnf
 subst cf;refine Ww (f:=rX) Ik (fun i=>[ar.cells [H_ (l.take i)]]) (by exact rfl) (by exact rfl) (fun _=>rfl) ?_ (rl:=none) (by exact rfl) (Hn:=[ar.cells [H_ l]]) (by show [ar.cells [H_ (l.take l.length)]]=_;rw [uS]) ?_
 ·intro i hi Y;rw [show l.take (i+1)=l.take i++[l[i]] by rw [List.take_add_one,sg hi];rfl];exact Zj (l:=l.take i) (e:=l[i]) (bJ _ (List.getElem_mem hi)) (by rw [s9];omega) Y
 ·intro qy;cases l with
  | nil =>
    (conv=>whnf);exact bp _ _ _ (JU (.inr rfl) (Vq _) rfl)
  | cons a l =>
    (conv=>whnf);exact bp _ _ _ (aeB (.inr rfl) (OD _ _ _) (.inl rfl))
theorem ZW {k:FuncId} {cap:List I} {l:List (List Int)} (pw:cap.all (cr 7)=true) (Ik:N4 Try.prog k cap (l.map rX)) (bJ:∀ e∈l,e≠[]) (ao:l.length≤100000):qt 55 [.func k [] cap] (.av (l.map oX) l.length .shared):=by
 refine qD eG abT rfl (OD _ _ _) fun Q bp=>?_;unfold V0;conv=>whnf
 refine ⟨_,_,MI (p4 rfl (p4 (IK rfl pw) rfl)) (ZX Ik bJ ao) _ _,?_⟩;cases l with
 | nil =>
   (conv=>whnf);exact bp _ _ _ ⟨.inr rfl,_,rfl,_,yW rfl,rfl⟩
 | cons a l =>
   (conv=>whnf);exact bp _ _ _ ⟨.inr rfl,_,rfl,_,yW (OD _ _ _),rfl⟩
theorem U2:∀ {x y:List Int},x.map h0=y.map h0→x=y
 | [],[],_=>rfl
 | [],_::_,h=>by cases h
 | _::_,[],h=>by cases h
 | a::x,c::y,h=>by
   obtain ⟨ab,ae⟩:=List.cons.inj h;(have ab:a=c:=by injection ab);rw [ab,U2 ae]
def Kq (b:((List (Int×Int))×(Int×Int))×Unit) (x y:List Int):Option Bool :=
 (JY b x).bind fun n=>(JY b y).bind fun m=>some (decide (n<m))
theorem aga {b:((List (Int×Int))×(Int×Int))×Unit} {x y:List Int} {v:Bool} (h:Kq b x y=some v):qt 57 [.av (x.map h0) x.length .shared,.av (y.map h0) y.length .shared,.bS [.func 41 [lp b] []]] (B v):=by
 unfold Kq at h;obtain ⟨n,aI,h⟩:=p8 h;obtain ⟨m,hm,h⟩:=p8 h;obtain rfl:=Option.some.inj h;refine Oi eG abU rfl rfl fun Q bp=>?_;unfold V1 V2;conv=>whnf
 refine ⟨qd.pl,_,NS aI,q',?_⟩;conv=>whnf
 refine ⟨qd.pl,_,NS hm,(PQ (fun _ e=>?_) q'),?_⟩
 ·have b':x.map h0=y.map h0:=by
   have:=(List.cons.inj (List.cons.inj e).2).1;injection this
  obtain rfl:x=y:=U2 b';rw [aI] at hm;rw [Option.some.inj hm]
 conv=>whnf
 exact bp _ _ _ (JU (.inr rfl) rfl rfl)

noncomputable def Pz:gE :=
 .loop (some (p_ false [1,1,3,1,6,3,10])) (p2 [p0 15 [.nc 14,.nc 13] (.bin .lss)] (.seq (.cond (.nc 15) .skip (.exit 0)) (.seq (.block 1 (p2 [p0 16 [.nc 12,.nc 14] (.kY 1),qf 17 16,p1 7 17] (p2 [p3 18 1,p3 19 7,p3 20 5,p0 21 [.nc 18,.nc 19,.nc 20] (.call 6)] (.cond (.nc 21) (qM [p1 22 7,p1 5 22]) .skip)))) (qM [qU 23 14 1,p1 14 23]))))
noncomputable def Yd:gE :=
 p2 [p0 4 [.cv (.av [] 0 .full)] (.nil 1)] (p2 [p3 8 0,p0 9 [.Bs 8,.cv (.int .i64 0)] (.kY 1),qf 10 9,p1 5 10] (.seq (p2 [p1 11 0,p0 12 [.jq 11,.cv (.int .i64 1)] (.Bh 1 true false false),p0 13 [.nc 12] .zJ,p' 14 0] (.block 0 Pz)) (p2 [p1 24 5,p1 4 24] .ret)))
theorem acE:qj Try.prog P1 56=some (Yd,25,[.tmp 4]):=by kernel_rfl
def Kp (l:Ky) (better:(qk→qk→Option Bool)) (qe:qk→Option qk):Nat→qk→Int→Option qk
 | 0,_,_=>none
 | m+1,s1,s2 =>
   if (decide (s2<((l.drop (1:Int).toNat).length:Int)))=true then
    qI (0≤s2∧s2<((l.drop (1:Int).toNat).length:Int)) <|
    (better (ix (l.drop (1:Int).toNat) s2) s1).bind fun aS =>
    if aS=true then
     Kp l better qe m (ix (l.drop (1:Int).toNat) s2) (w (s2+(1:Int)))
    else
     Kp l better qe m s1 (w (s2+(1:Int)))
   else
    qe s1
def NT (l:Ky) (better:(qk→qk→Option Bool)):Option qk :=
 qI (0≤(0:Int)∧(0:Int)<(l.length:Int)) <|
 qI (0≤(1:Int)∧(1:Int)≤(l.length:Int)) <|
 Kp l better (fun yn =>
   some yn) qn (ix l (0:Int)) (0:Int)

noncomputable def Yc:gE :=
 p2 [p0 1 [.jq 0] .box,p0 2 [.cv .a0] .mU] (p2 [p0 3 [.Bs 1] (.zY 65 0 1),p1 2 3] .ret)
theorem acD:qj Try.prog SZ 46=some (Yc,4,[.tmp 2]):=by kernel_rfl
def XD (b:((qg×(Int×Int))×Unit)):Option Unit :=
 some ()
theorem R3 {b:((qg×(Int×Int))×Unit)} {v:Unit} (h:XD b=some v):qt 46 [(.bS [(.av (b.1.1.flatMap p7) b.1.1.length .shared),(h0 b.1.2.1),(h0 b.1.2.2),Hf])] (.func 65 [] [(.bS [(.bS [(.av (b.1.1.flatMap p7) b.1.1.length .shared),(h0 b.1.2.1),(h0 b.1.2.2),Hf])])]):=by
 refine qD eG acD rfl (IK rfl (p4 (Ia (p4 (Ia (p4 (Hu (fun _=>(p4 rfl (p4 rfl rfl))) _ _ _) (p4 rfl (p4 rfl (p4 rfl rfl))))) rfl)) rfl)) fun Q bp=>?_;have jJ:∀ T H,HQ [.tmp 2] (.func 65 [] [(.bS [(.bS [(q9 b.1.1 .shared),(h0 b.1.2.1),(h0 b.1.2.2),Hf])])]) .ret T H→Q .ret T H:=fun T H bE=>bp _ T H bE;unfold XD at h;unfold Yc;conv=>whnf
 exact jJ _ _ ⟨.inr rfl,_,rfl,_,(TM Ix (rf (TP (l:=[(.bS [(q9 b.1.1 .shared),(h0 b.1.2.1),(h0 b.1.2.2),Hf])]) (by first | exact qN.h | rfl | (simp [sm,I.settle];done)) (p4 (Ia (p4 (Hu (fun _=>(p4 rfl (p4 rfl rfl))) _ _ _) (p4 rfl (p4 rfl (p4 rfl rfl))))) rfl)) Ix)),rfl⟩

theorem af8 {l:(List (List Int))} {better:((List Int)→(List Int)→Option Bool)} {qe:(List Int)→Option (List Int)} {s1:(List Int)} {s2:Int} {kf_better oid lo:Nat} {HL:List ar} {cv:List I} (aE:HL[oid]?=some (.cells cv)) (hd:cv.map I.view=cv) (fg:cv.map (kh HL)=cv) (Jz:cv.all (cr 7)=true) (QK:∀ (q4:(List Int)) (BD:(List Int)) (r:Bool),better q4 BD=some r→qt kf_better [(.av (q4.map h0) q4.length .shared),(.av (BD.map h0) BD.length .shared),.bS cv] (B r)) {v:(List Int)} {Q:cQ→List I→List ar→Prop}   (ry:∀ (yn:(List Int)) (qh:List I),qe yn=some v→rO 25 [(5,(.av (yn.map h0) yn.length .shared))] qh→Q (.exit 0) qh HL) {T:List I} (b0:eZ [false,true,false,false,false,true,false,false,false,false,false,false,true,true,true,false,false,false,false,false,false,false,false,false,false] T=qb 25 [(1,(.func kf_better [] [.ptr oid 0])),(5,(.av (s1.map h0) s1.length .shared)),(12,(.av ((l.drop (1:Int).toNat).map oX) (l.drop (1:Int).toNat).length .shared)),(13,(h0 ((l.drop (1:Int).toNat).length:Int))),(14,(h0 s2))]) (h:Kp l better qe qn s1 s2=some v) :
  dQ Try.prog P1 56 lo none Pz T HL Q:=by
 unfold Pz;skip;refine wp_loop b0 ?_;refine .intro (fun m T H=>∃ (s1:(List Int)) (s2:Int),T=qb 25 [(1,(.func kf_better [] [.ptr oid 0])),(5,(.av (s1.map h0) s1.length .shared)),(12,(.av ((l.drop (1:Int).toNat).map oX) (l.drop (1:Int).toNat).length .shared)),(13,(h0 ((l.drop (1:Int).toNat).length:Int))),(14,(h0 s2))]∧H=HL∧Kp l better qe m s1 s2=some v) qn ⟨s1,s2,rfl,rfl,h⟩ ?_;clear h b0;rintro m T H ⟨s1,s2,rfl,rfl,h⟩;cases m
 ·exact Hr h
 rename_i m;rw [Kp.eq_2] at h;conv=>whnf
 refine bs h (fun qp h=>?_) fun qp h=>?_
 ·rw [qp];conv=>whnf
  refine q8 h id fun qE h=>?_;rw [rD oX (l.drop (1:Int).toNat) s2 qE];conv=>whnf
  obtain ⟨aS,qX,h⟩:=p8 h;have Cn:hW H (.ptr oid 0)=.bS cv:=by
   show (match H[oid]? with | some (.cells l)=>I.bS (((l.drop 0).map I.view).map (kh H)) | _=>.ptr oid 0)=_;rw [aE];show I.bS ((cv.map I.view).map (kh H))=_;rw [hd,fg]
  refine ⟨_,_,call6 (bs:=[(.av ((ix (l.drop (1:Int).toNat) s2).map h0) (ix (l.drop (1:Int).toNat) s2).length .shared),(.av (s1.map h0) s1.length .shared),.bS cv]) (by show [_,_,(hW H (.ptr oid 0)).cc]=_;rw [Cn];rfl) (by show ([_,_,hW H (.ptr oid 0)]:List I).all (cr 8)=true;rw [Cn];exact (p4 (rE (fun _=>rfl) _ _ _) (p4 (rE (fun _=>rfl) _ _ _) (p4 (Ia Jz) rfl)))) (QK _ _ _ qX) rfl,?_⟩;conv=>whnf
  cases aS
  ·(conv=>whnf);replace h:=Ho rfl h;exact ⟨m,sG m,s1,(w (s2+(1:Int))),rfl,rfl,h⟩
  ·(conv=>whnf);replace h:=Hp rfl h;exact ⟨m,sG m,(ix (l.drop (1:Int).toNat) s2),(w (s2+(1:Int))),rfl,rfl,h⟩
 ·rw [qp];conv=>whnf
  exact ry _ _ h ⟨rfl,rfl⟩
theorem af9 {l:(List (List Int))} {better:((List Int)→(List Int)→Option Bool)} {kf_better oid:Nat} {HL:List ar} {cv:List I} (aE:HL[oid]?=some (.cells cv)) (hd:cv.map I.view=cv) (fg:cv.map (kh HL)=cv) (Jz:cv.all (cr 7)=true) (QK:∀ (q4:(List Int)) (BD:(List Int)) (r:Bool),better q4 BD=some r→qt kf_better [(.av (q4.map h0) q4.length .shared),(.av (BD.map h0) BD.length .shared),.bS cv] (B r)) {v:(List Int)} (h:NT l better=some v):Sem Try.prog (.fn 56) [(.av (l.map oX) l.length .shared),(.func kf_better [] [.ptr oid 0])] HL HL.length (.av (v.map h0) v.length .shared) HL:=by
 refine re eG acE rfl (a'.refl _ _) fun Q bp=>?_;unfold NT at h;unfold Yd;obtain ⟨H9,qG⟩:∃ c,Pz=c:=⟨_,rfl⟩;rw [qG];conv=>whnf
 refine q8 h id fun gM h=>?_;rw [rD oX l (0:Int) gM];conv=>whnf
 refine q8 h id fun gN h=>?_;erw [aeV oX l (1:Int) gN];conv=>whnf
 subst qG;refine af8 aE hd fg Jz QK ?_ (by exact rfl) h;intro yn qh h qK;obtain ⟨rT,rfl⟩:=qK.ex;conv=>whnf
 obtain rfl:=Option.some.inj h;exact bp _ _ _ ⟨.inr rfl,lI.refl _,rfl⟩
theorem Le (n:Nat):(qi n).length=n:=by simp [qi]
theorem QT {n:Nat} (aI:0<n):∀ e∈qV n (qi n),e≠[]:=fun e he h=>by
 have:=abI (Le n) he;rw [h] at this;simp at this;omega
def Oe:Nat→Nat
 | 0=>1
 | n+1=>(n+1)*Oe n
theorem TF {α β:Type} {f:α→List β} {c:Nat}:∀ {l:List α},(∀ x∈l,(f x).length=c)→(l.flatMap f).length=l.length*c
 | [],_=>by simp
 | a::l,h=>by
   rw [List.flatMap_cons,sB,h a (by simp),TF fun x aj=>h x (by simp [aj]),sJ,Nat.succ_mul];omega
theorem UM:∀ (n:Nat) (left:List Int),left.length=n→(qV n left).length=Oe n
 | 0,_,_=>rfl
 | n+1,left,h=>by
   show (left.flatMap fun x=>(qV n (left.erase x)).map (x::·)).length=(n+1)*Oe n;rw [TF (c:=Oe n) fun x aj=>by rw [sW];exact UM n _ (by rw [tP aj];omega),h]
theorem UO {n:Nat} (aI:n≤7):(qV n (qi n)).length≤100000:=by
 rw [UM n _ (Le n)]
 match n,aI with
 | 0,_ | 1,_ | 2,_ | 3,_ | 4,_ | 5,_ | 6,_ | 7,_=>decide
theorem Zz {P:Program} {k:FuncId} {args:List I} {H H':List ar} {lo:Nat} {r:I} (h:Sem P (.fn k) args H H.length r H') (aB:cr 8 r=true):oV P 0 lo (.fn k) args H r H:=by
 refine ⟨_,EB h,?_⟩;simp only [eQ,EA,sa,yW aB,sd]
theorem H0 {d:Nat} (b:((List (Int×Int))×(Int×Int))×Unit):cr (d+3) (lp b)=true:=Ia (p4 (Hu (fun _=>p4 rfl (p4 rfl rfl)) _ _ _) (p4 rfl (p4 rfl (p4 rfl rfl))))
def JW (p:qc):Option (List Int×Int) :=
 (rz p []).bind fun r=>match r with
 | (none,q)=>if decide (q≠0)=true then some ([],q) else none
 | (some b,q)=>if decide (q≠0)=true then some ([],q) else
   qI (0<b.1.1.length∧b.1.1.length≤7) <|
   (NT (qV b.1.1.length (qi b.1.1.length)) (Kq b)).bind fun l=>some (l,0)
theorem RX {p:qc} {v:List Int×Int} (h:JW p=some v):qt 33 [.agg [.av (p.1.flatMap p7) p.1.length .shared,h0 p.2.1,h0 p.2.2]] (.tuple [.av (v.1.map h0) v.1.length .shared,h0 v.2]):=by
 unfold JW at h;obtain ⟨⟨aS,bj⟩,ai,h⟩:=p8 h;refine qD eG abN rfl (IL (p4 (rE (fun _=>rfl) _ _ _) (p4 rfl rfl))) fun Q bp=>?_;have jJ:∀ T H,HQ [.tmp 2,.tmp 3] (.tuple [(.av (v.1.map h0) v.1.length .shared),(h0 v.2)]) .ret T H→Q .ret T H:=fun T H bE=>bp _ T H bE;unfold VG VK VJ;obtain ⟨bt,eS⟩:∃ c,Q_=c:=⟨_,rfl⟩;rw [eS];conv=>whnf
 refine ⟨qd.pl,_,Mx ai,?_⟩;rcases aS with _ | b
 ·conv=>whnf
  refine bs h (fun af h=>?_) fun af h=>?_
  ·rw [af];(conv=>whnf);obtain rfl:=Option.some.inj h;exact jJ _ _ (Ib rfl rfl)
  ·cases h
 ·conv=>whnf
  refine bs h (fun af h=>?_) fun af h=>?_
  ·rw [af];(conv=>whnf);obtain rfl:=Option.some.inj h;exact jJ _ _ (Ib rfl rfl)
  ·rw [af];(conv=>whnf);subst eS;unfold Q_ VI VH;obtain ⟨⟨Di,LP⟩,h⟩:=Hj h;obtain ⟨l,ao,h⟩:=p8 h;obtain rfl:=Option.some.inj h;(conv=>whnf);refine ⟨p4 (H0 b) rfl,_,R3 (b:=b) (v:=()) rfl,?_⟩;(conv=>whnf);have pw:[I.bS [lp b]].all (cr 7)=true:=p4 (Ia (p4 (H0 b) rfl)) rfl;refine ⟨p4 (IK rfl pw) rfl,_,ZW pw (WB LP Di) (QT Di) (UO LP),?_⟩;(conv=>whnf);refine ⟨_,_,Zz (af9 (better:=Kq b) (kf_better:=57) (cv:=[.func 41 [lp b] []]) (oid:=1) rfl rfl rfl (p4 (IK (p4 (H0 b) rfl) rfl) rfl) (fun q4 BD r aY=>aga aY) ao) (rE (fun _=>rfl) _ _ _),?_⟩;(conv=>whnf);exact jJ _ _ (Ib rfl rfl)
end Go.Proofs.Ytkoioidpbbbaiaa.Ab


namespace Go.Proofs.Ytkoioidpbbbaiaa.Ab
open Go
noncomputable def Ra:gE :=
 .ov true [p3 54 8, p0 55 [.Bs 54] .z4, qv 56 55 0, qv 57 56 0, qf 58 57, p0 59 [.nc 12] (.yM 0), qf 60 59, p0 61 [.nc 12] (.yM 1), p0 62 [.Bs 61] (.zE (.str 2)), p0 63 [.nc 12] (.yM 0), p0 64 [.Bs 63] (.other (Oper.mk (some 64) (Op.load 3 (Operand.tmp 63)) 3 "curl.go:119" (Array.mk [Edge.mk 9 Ground.data, Edge.mk 13 (Ground.gcOnly Departure.lateStores)]) none) 13), qU 65 64 1, rn 66 58 60 2, ⟨none, [.jq 66, .jq 62], none, none, .other (Oper.mk none (Op.store 52 (Operand.tmp 66) (Operand.tmp 62)) 0 "curl.go:119" (Array.mk [Edge.mk 12 Ground.data, Edge.mk 8 Ground.data, Edge.mk 0 Ground.phase, Edge.mk 1 Ground.phase, Edge.mk 2 Ground.phase, Edge.mk 3 Ground.phase, Edge.mk 4 Ground.phase, Edge.mk 5 Ground.phase, Edge.mk 6 Ground.phase, Edge.mk 7 Ground.phase, Edge.mk 8 Ground.phase, Edge.mk 9 (Ground.textOnly Departure.lateStores), Edge.mk 10 (Ground.textOnly Departure.lateStores), Edge.mk 11 (Ground.textOnly Departure.lateStores)]) none) 13⟩, p1 10 65]
noncomputable def VP:gE :=
 .seq (p2 [p1 39 10,p0 40 [.nc 3] (.yM 0),qf 41 40,qW 42 41,qu 43 42 1 .sub,p0 44 [.nc 12] (.yM 0),qf 45 44,p0 46 [.Bs 45] (.yB 1 1 [.int .i64 0] [0]),p0 47 [.cv (.func 37 [] []),.nc 39,.nc 43,.nc 46] (.call 3),p0 48 [.Bs 47] (.un .not),p1 49 48,cl 50 [.nc 12] 49 false (.yM 1),cl 51 [.Bs 50] 49 false (.zE (.str 2)),⟨some 52,[.cv (.func 44 [] []),.nc 51],some (49,false),none,.call 3⟩,p0 53 [.Bs 49,.cv (.bool true),.Bs 52] .pick] (.cond (.nc 53) (p2 [p' 6 0,p' 7 3] .ret) .skip)) Ra
noncomputable def Rb:gE :=
 .block 1 (p2 [p0 37 [.nc 33,.nc 35] (.kY 3),p0 38 [.Bs 37] (.zE (.str 3)),p0 12 [] (.alloc [.int .i64 0,.int .i64 0,.int .i64 0]),⟨none,[.nc 12,.jq 38],none,none,.st 3⟩] VP)
noncomputable def VQ:gE :=
 p2 [p1 72 2,qW 73 72,p1 6 73,p' 7 0] .ret
noncomputable def Rc:gE :=
 .seq (p2 [p1 68 8,p1 69 1,p0 70 [.cv (.func 41 [] []),.nc 68,.nc 69] (.call 6),qu 71 70 0 .gtr] (.cond (.nc 71) (p2 [p' 6 0,p' 7 23] .ret) .skip)) VQ
noncomputable def VR:gE :=
 .seq (p2 [p3 33 2,p0 34 [.nc 33] .zJ,p' 35 0] (.block 0 (.loop (some (p_ false [1,3,4,1,1,1,22,3,38])) (p2 [p0 36 [.nc 35,.nc 34] (.bin .lss)] (.seq (.cond (.nc 36) .skip (.exit 0)) (.seq Rb (qM [qU 67 35 1,p1 35 67]))))))) Rc
noncomputable def Rd:gE :=
 p2 [p3 23 8,p3 24 8,p0 25 [.Bs 24] .z4,qv 26 25 0,qv 27 26 0,qf 28 27,p0 29 [.cv (.func 51 [] []),.nc 28] (.call 2),p0 30 [.Bs 23] .z4,qv 31 30 0,qv 32 31 0,⟨none,[.jq 32,.jq 29],none,none,.st 1⟩] VR
noncomputable def VS:gE :=
 .seq (p2 [p3 20 9,qu 21 20 0 .neq] (.cond (.nc 21) (p2 [p1 22 9,p' 6 0,p1 7 22] .ret) .skip)) (p2 [p' 10 0] Rd)
noncomputable def VT:gE :=
 p2 [p0 14 [.nc 3] (.zE (.str 3)),p3 15 1,p0 16 [.Bs 15] (.yB 1 1 [.av [] 0 .full] [0]),p0 17 [.cv (.func 36 [] []),.nc 14,.nc 16] (.call 2),p1 13 17,qo 18 13 0,p0 19 [.Bs 13] (.ext 1),p1 8 18,p1 9 19] VS
noncomputable def VO:gE :=
 p2 [p0 3 [.jq 0] .yy,p' 6 0,p' 7 0] VT
theorem abP:qj Go.Proofs.Try.prog SH 23=some (VO,74,[.tmp 6,.tmp 7]):=by kernel_rfl
noncomputable def adY:gE :=
 p2 [p0 5 [] (.yB 0 2 [.int .i64 0,.int .i64 0] []),p1 6 0,p0 7 [.jq 5,.jq 6] (.app 2 16),⟨some 2,[.jq 7],none,some 7,.Bq⟩] .ret
noncomputable def V3:gE :=
 p2 [p0 2 [.cv (.av [] 0 .full)] (.nil 2)] (.seq (p2 [p3 3 0, p0 4 [.Bs 3, .cv (.av [] 0 .full)] (.other (Oper.mk (some 4) (Op.binOp .eql 22 (Operand.tmp 3) (Operand.const (Value.slice none 0 0)) 22) 4 "slices.go:357" (Array.mk [Edge.mk 0 Ground.data]) none) 0)] (.cond (.nc 4) (p2 [p0 2 [.cv (.av [] 0 .full)] (.nil 2)] .ret) .skip)) adY)
theorem abV:qj Go.Proofs.Try.prog S4 51=some (V3,8,[.tmp 2]):=by kernel_rfl
end Go.Proofs.Ytkoioidpbbbaiaa.Ab


namespace Go.Proofs.Ytkoioidpbbbaiaa.Ab
open Go
set_option maxRecDepth 20000
set_option maxHeartbeats 4000000
theorem ZU {l:List (Int×Int)} (ao:l≠[]) (ab:l.length≤1000) (H:List ar):Sem Try.prog (.fn 51) [.av (l.flatMap p7) l.length .shared] H H.length (.ref H.length 0 l.length none 2) (H++[.cells (l.flatMap p7)]):=by
 obtain ⟨a,l,rfl⟩:=tI ao;refine re eG abV rfl (a'.append _ _ _) fun Q bp=>?_;unfold V3;conv=>whnf
 refine ⟨.bool false,H,fun C=>rfl,?_⟩;conv=>whnf
 refine ⟨Ih p7 2 (fun _=>rfl) _,by simp only [sJ] at ab ⊢;omega,?_⟩;conv=>whnf
 refine ⟨rfl,by simp only [sJ] at ab ⊢;omega,?_⟩;conv=>whnf
 refine .inl ⟨by simp,?_⟩;conv=>whnf
 rw [sy];exact bp _ _ _ ⟨.inr rfl,lI.refl _,rfl⟩
theorem ads {d:Nat} (l:List (Int×Int)) (n:Nat) (c:hE):cr (d+2) (.av (l.flatMap p7) n c)=true:=Hu (fun _=>p4 rfl (p4 rfl rfl)) _ _ _
theorem ZT {l:List (Int×Int)} (ao:l≠[]) (ab:l.length≤1000) (H:List ar) (lo:Nat):oV Try.prog 2 lo (.fn 51) [.av (l.flatMap p7) l.length .shared] H (.ref H.length 0 l.length none 2) (H++[.cells (l.flatMap p7)]):=by
 refine ⟨_,EB (ZU ao ab H),?_⟩;have e1:DM 2 H.length (H++[ar.cells (l.flatMap p7)]) (.ref H.length 0 l.length none 2)=some H.length:=by simp [DM,Co,yU]
 have b':(H++[ar.cells (l.flatMap p7)])[H.length]?=some (.cells (l.flatMap p7)):=by simp
 have dA:bM (H++[ar.cells (l.flatMap p7)]) H.length H.length H.length 8 (.ref H.length 0 l.length none 2)=some (.ref H.length 0 l.length none 2):=by simp [bM]
 have l0:ea (bM (H++[ar.cells (l.flatMap p7)]) H.length H.length H.length 8) (l.flatMap p7)=some (l.flatMap p7):=zU fun u hu=>by
  obtain ⟨x,_,aj⟩:=tG.1 hu;simp only [p7,sx,tM,or_false] at aj;rcases aj with rfl | rfl <;> rfl
 simp only [eQ,EA,sa,e1,b',dA,l0,sb,if_true]
theorem abx {P:Program} {C:b8} {lo id:Nat} {o:Oper} {t:TypeId} {e:Operand} {x y z:I} {H:List ar} (aq:o.op=.load t e) (cu:iL P t=some .one) (ag:H[id]?=some (.cells [x,y,z])):a3 P C lo o 13 [.ptr id 0] H=some (x.view,H):=by
 unfold a3;rw [aq];show dF P lo 13 t H [.ptr id 0]=_;unfold dF;simp only [ag,sJ,tR,if_true];rw [Tp cu];simp only [N7,ag,K4];rfl
theorem RO:∀ (S:List (Int×Int)) (i:Nat) (a b:Int),i<S.length→((S.flatMap p7).set (i*2) (h0 a)).set (i*2+1) (h0 b)=(S.set i (a,b)).flatMap p7
 | [],i,a,b,h=>absurd h (by simp)
 | s::S,0,a,b,_=>rfl
 | s::S,i+1,a,b,h=>by
   have a8:=RO S i a b (by simpa using h);show ((h0 s.1::h0 s.2::S.flatMap p7).set ((i+1)*2) (h0 a)).set ((i+1)*2+1) (h0 b)=h0 s.1::h0 s.2::(S.set i (a,b)).flatMap p7;rw [←a8,show (i+1)*2=i*2+1+1 by omega,show i*2+1+1+1=(i*2+1)+1+1 by omega];rfl
theorem ae1 {P:Program} {C:b8} {lo id i:Nat} {o:Oper} {t:TypeId} {e1 b':Operand} {S:List (Int×Int)} {a b:Int} {H:List ar} (aq:o.op=.store t e1 b') (ah:bF P t=some 2) (bD:lo≤id) (hi:i<S.length) (ag:H[id]?=some (.cells (S.flatMap p7))) :
  a3 P C lo o 13 [.ptr id (i*2),.agg [h0 a,h0 b]] H=some (.a0,H.set id (.cells ((S.set i (a,b)).flatMap p7))):=by
 have ao:(S.flatMap p7).length=S.length*2:=Ih p7 2 (fun _=>rfl) S;unfold a3;rw [aq];show gm P lo 13 t H [.ptr id (i*2),.agg [h0 a,h0 b]]=_;unfold gm;simp only [ag];rw [if_neg (by omega)];unfold g8;simp only [ah,I.cells,gT,ag,if_pos bD];rw [if_pos ⟨rfl,by omega⟩,←RO S i a b hi];rfl
theorem QW {α:Type} {f:α→α} {l:List α} (h:∀ u∈l,f u=u):l.map f=l:=by
 conv=>rhs;rw [←List.map_id l]
 exact List.map_congr_left fun u hu=>h u hu
theorem Wy {S:List (Int×Int)} {H:List ar} {id n:Nat} {cap:Option Nat} (ag:H[id]?=some (.cells (S.flatMap p7))) (aI:S.length=n):rowOf H (.ref id 0 n cap 2)=some (S.flatMap p7):=by
 have ao:(S.flatMap p7).length=S.length*2:=Ih p7 2 (fun _=>rfl) S;simp only [rowOf,ag,sy,List.drop_zero];rw [if_pos (by omega),tb (by omega),QW (Xk (f:=p7) (fun _=>ND rfl (ND rfl Xl)) S)]
abbrev qm:=Int×(Int×Int)
def LI (n:Int):List qm→List (Int×Int)→Int→Option (Option (List (Int×Int)))
 | [],S,_=>some (some S)
 | c::r,S,next=>(IB next (w (n-1)) [c.1]).bind fun a =>
   if a=true then (Ks c.2).bind fun bad=>if bad=true then some none else qI (0≤c.1∧c.1<(S.length:Int)) <| LI n r (S.set c.1.toNat c.2) (w (c.1+1))
   else some none
def Iz (p:qc) (order:List Int) (l:List qm):Option (Int×Int) :=
 (rz p [order]).bind fun r=>match r with
 | (none,q)=>if decide (q≠0)=true then some (0,q) else none
 | (some b,q)=>if decide (q≠0)=true then some (0,q) else
   qI (p.1≠[]∧p.1.length≤1000∧l.length≤1000) <|
   (LI p.1.length l p.1 0).bind fun o=>match o with
   | none=>some (0,3)
   | some S=>(JY ((S,p.2),()) order).bind fun c=>if decide (0<c)=true then some (0,23) else some (l.length,0)
theorem NI {p:qc} {order:List Int} {l:List qm} {v:Int×Int} (h:Iz p order l=some v):qt 23 [.agg [.av (p.1.flatMap p7) p.1.length .shared,h0 p.2.1,h0 p.2.2],.av (order.map h0) order.length .shared,.av (l.flatMap ql) l.length .shared] (.tuple [h0 v.1,h0 v.2]):=by
 unfold Iz at h;obtain ⟨⟨aS,bj⟩,ai,h⟩:=p8 h;refine qD eG abP rfl (IL (p4 rfl (p4 rfl rfl))) fun Q bp=>?_;have jJ:∀ T H,HQ [.tmp 6,.tmp 7] (.tuple [h0 v.1,h0 v.2]) .ret T H→Q .ret T H:=fun T H bE=>bp _ T H bE;unfold VO VT VS;obtain ⟨nu,LL⟩:∃ c,Rd=c:=⟨_,rfl⟩;rw [LL];conv=>whnf
 refine ⟨rfl,?_⟩;conv=>whnf
 rcases aS with _ | b
 ·refine ⟨_,_,ZC ai,?_⟩;conv=>whnf
  refine bs h (fun af h=>?_) fun af h=>?_
  ·rw [af];(conv=>whnf);obtain rfl:=Option.some.inj h;exact jJ _ _ (Ib rfl rfl)
  ·cases h
 ·obtain ⟨rfl,rfl,_⟩:=NQ ai;refine ⟨_,_,ZB ai,?_⟩;conv=>whnf
  refine bs h (fun af h=>?_) fun af h=>?_
  ·exact absurd af (by decide)
  subst LL;unfold Rd;obtain ⟨⟨bJ,aB,ao⟩,h⟩:=Hj h;obtain ⟨o,ak,h⟩:=p8 h;obtain ⟨bt,eS⟩:∃ c,Rb=c:=⟨_,rfl⟩;obtain ⟨dV,Cr⟩:∃ c,Rc=c:=⟨_,rfl⟩;unfold VR;rw [eS,Cr];conv=>whnf
  refine ⟨_,_,ZT bJ aB _ _,?_⟩;conv=>whnf
  have el:(l.flatMap ql).length=l.length*3:=Ih ql 3 (fun _=>rfl) _
  refine .intro (fun m T H=>∃ (i:Nat) (S:List (Int×Int)) (next:Int) (Y:List ar),i≤l.length∧m=l.length-i∧S.length=p.1.length∧LI p.1.length (l.drop i) S next=some o ∧
   T=qb 74 [(1,.av (order.map h0) order.length .shared),(2,.av (l.flatMap ql) l.length .shared),(3,.bS [.av (p.1.flatMap p7) p.1.length .shared,h0 p.2.1,h0 p.2.2]),(8,.ptr 0 0),(10,h0 next),(33,.av (l.flatMap ql) l.length .shared),(34,h0 l.length),(35,h0 i)] ∧
   H=ar.cells [.ref 1 0 p.1.length none 2,h0 p.2.1,h0 p.2.2,Hf]::ar.cells (S.flatMap p7)::Y) l.length ⟨0,p.1,0,[],sC _,rfl,rfl,ak,rfl,rfl⟩ ?_
  rintro m T H ⟨i,S,next,Y,hi,rfl,cp,al,rfl,rfl⟩;conv=>whnf
  refine HB (fun aR=>?_) (fun aR=>?_)
  ·(have HC:i<l.length:=by omega);rw [s7 HC] at al;unfold LI at al;obtain ⟨a,cu,al⟩:=p8 al;subst eS;unfold Rb VP;obtain ⟨a7,cf⟩:∃ c,Ra=c:=⟨_,rfl⟩;rw [cf];(conv=>whnf);(have Ij:0≤(i:Int)∧(i:Int)<(l.length:Int):=by omega);refine ⟨Ij,?_⟩;rw [IY ql 3 HT l (i:Int) Ij];rw [rK HC];obtain ⟨c,QF⟩:∃ c,c=l[i]:=⟨_,rfl⟩;rw [←QF] at cu al ⊢;(conv=>whnf);refine Ew (x:=ar.cells [h0 0,h0 0,h0 0]) (by first | exact qN.h | rfl | (simp [sm,I.settle];done)) ?_
   (conv=>whnf);rw [HO];refine Ew (x:=ar.cells [h0 c.1,h0 c.2.1,h0 c.2.2]) (by first | exact qN.h | rfl | (simp [sm,I.settle];done)) ?_
   (conv=>whnf);refine ⟨p4 rfl (p4 rfl (p4 rfl rfl)),_,Kr cu,?_⟩;(conv=>whnf);cases a with
   | false =>
     obtain rfl:=Option.some.inj (Ho rfl al);(conv=>whnf);obtain rfl:=Option.some.inj h;exact jJ _ _ (Ib rfl rfl)
   | true =>
     obtain ⟨bad,gN,al⟩:=p8 (Hp rfl al);(conv=>whnf);refine Ew (x:=ar.cells [h0 c.1,h0 c.2.1,h0 c.2.2]) (by first | exact qN.h | rfl | (simp [sm,I.settle];done)) ?_
     (conv=>whnf);refine ⟨p4 rfl rfl,_,XG gN,?_⟩;(conv=>whnf);cases bad with
     | true =>
       obtain rfl:=Option.some.inj (Hp rfl al);(conv=>whnf);obtain rfl:=Option.some.inj h;exact jJ _ _ (Ib rfl rfl)
     | false =>
       obtain ⟨jM,al⟩:=Hj (Ho rfl al);(conv=>whnf);subst cf;unfold Ra;(conv=>whnf);refine Ew (x:=ar.cells [h0 c.1,h0 c.2.1,h0 c.2.2]) (by first | exact qN.h | rfl | (simp [sm,I.settle];done)) ?_
       (conv=>whnf);refine Ew (x:=ar.cells [h0 c.1,h0 c.2.1,h0 c.2.2]) (by first | exact qN.h | rfl | (simp [sm,I.settle];done)) ?_
       (conv=>whnf);refine ⟨_,_,fun C=>abx (x:=h0 c.1) rfl (by kernel_rfl) (by first | exact qN.h | rfl | (simp [sm,I.settle];done)),?_⟩
       (conv=>whnf);refine ⟨by omega,?_⟩;(conv=>whnf);refine ⟨.a0,ar.cells [.ref 1 0 p.1.length none 2,h0 p.2.1,h0 p.2.2,Hf]::ar.cells ((S.set c.1.toNat c.2).flatMap p7)::(Y++[ar.cells [h0 c.1,h0 c.2.1,h0 c.2.2]]),fun C=>Eq.trans (by rw [sy];exact ae1 (S:=S) (i:=c.1.toNat) (id:=1) rfl (by kernel_rfl) (sC _) (by omega) rfl) rfl,?_⟩;(conv=>whnf);(have rr:IntKind.i64.wrap ((i:Int)+1)=((i+1:Nat):Int):=by rw [HK _ (by omega) (by omega)];omega);exact ⟨l.length-(i+1),by omega,i+1,S.set c.1.toNat c.2,w (c.1+1),_,by omega,rfl,by simpa using cp,al,by rw [rr];rfl,rfl⟩
  ·(obtain rfl:i=l.length:=by omega);rw [uU] at al;obtain rfl:=Option.some.inj al;obtain ⟨c,aaP,h⟩:=p8 h;(conv=>whnf);subst Cr;unfold Rc VQ;have cI:rowOf (ar.cells [.ref 1 0 p.1.length none 2,h0 p.2.1,h0 p.2.2,Hf]::ar.cells (S.flatMap p7)::Y) (.ref 1 0 p.1.length none 2)=some (S.flatMap p7):=Wy rfl cp;have Cn:iD (ar.cells [.ref 1 0 p.1.length none 2,h0 p.2.1,h0 p.2.2,Hf]::ar.cells (S.flatMap p7)::Y) (.ptr 0 0)=lp ((S,p.2),()):=by
    show I.bS [kh _ (.ref 1 0 p.1.length none 2),h0 p.2.1,h0 p.2.2,Hf]=_;have gb:kh (ar.cells [.ref 1 0 p.1.length none 2,h0 p.2.1,h0 p.2.2,Hf]::ar.cells (S.flatMap p7)::Y) (.ref 1 0 p.1.length none 2)=.av (S.flatMap p7) p.1.length .shared:=by
     show (match rowOf _ (.ref 1 0 p.1.length none 2) with | some row=>I.av row p.1.length .shared | none=>.ref 1 0 p.1.length none 2)=_;rw [cI]
    rw [gb,←cp]
   (conv=>whnf);refine ⟨_,_,call6 (bs:=[lp ((S,p.2),()),.av (order.map h0) order.length .shared]) (by rw [sD,Cn];rfl) (by rw [sD,Cn];exact p4 (H0 _) (p4 (rE (fun _=>rfl) _ _ _) rfl)) (NS aaP) rfl,?_⟩;(conv=>whnf);refine bs h (fun af h=>?_) fun af h=>?_
   ·rw [af];(conv=>whnf);obtain rfl:=Option.some.inj h;exact jJ _ _ (Ib rfl rfl)
   ·rw [af];(conv=>whnf);obtain rfl:=Option.some.inj h;exact jJ _ _ (Ib rfl rfl)
end Go.Proofs.Ytkoioidpbbbaiaa.Ab


namespace Go.Proofs.Ytkoioidpbbbaiaa.Ab
open Go
noncomputable def Rj:gE :=
 .block 1 (qT [p0 20 [.nc 5] (.yM 0),qf 21 20,p3 22 1,p3 23 6,rn 24 22 23 3,qv 25 24 0,qf 26 25,p3 27 1,p3 28 6,rn 29 27 28 3,qv 30 29 1,p0 31 [.Bs 30] (.zE (.str 2)),rn 32 21 26 2,⟨none,[.jq 32,.jq 31],none,none,.st 2⟩])
noncomputable def V5:gE :=
 .seq (p2 [p3 14 6,p3 15 1,qW 16 15,qs 17 14 16 .lss] (.cond (.nc 17) .skip (.exit 0))) (.seq Rj (qM [p1 18 6,qU 19 18 1,p1 6 19]))
noncomputable def OH:gE :=
 .seq (p2 [p' 6 0] (.block 0 (.loop (some (p_ false [1,1,2,3,27])) V5))) (p2 [p0 33 [.Bs 5] (.zE (.str 3)),⟨none,[.nc 4,.jq 33],none,none,.st 3⟩] .ret)
noncomputable def V6:gE :=
 .seq (.two [p0 7 [] (.yB 0 2 [.int .i64 0,.int .i64 0] []),p0 8 [.nc 2] (.yM 0),p0 9 [.Bs 8] (.zF .one),p0 10 [.jq 7,.jq 9] (.yt 2 16),p0 11 [.nc 2] (.yM 1),p0 12 [.Bs 11] (.zF (.str 2)),p0 13 [.Bs 10,.Bs 12] (.build [.av [] 0 .full,.int .i64 0,.int .i64 0] [(0,1),(1,2)]),p0 5 [] (.alloc [.av [] 0 .full,.int .i64 0,.int .i64 0]),⟨none,[.nc 5,.jq 13],none,none,.st 3⟩] [p0 7 [] (.yB 0 2 [.int .i64 0,.int .i64 0] []),p0 8 [.nc 2] (.yM 0),p0 9 [.Bs 8] (.zF .one),p0 5 [] (.alloc [.av [] 0 .full,.int .i64 0,.int .i64 0]),p0 10 [.jq 7,.jq 9] (.yt 2 16),p0 11 [.nc 2] (.yM 1),p0 12 [.Bs 11] (.zF (.str 2)),p0 13 [.Bs 10,.Bs 12] (.build [.av [] 0 .full,.int .i64 0,.int .i64 0] [(0,1),(1,2)]),⟨none,[.nc 5,.jq 13],none,none,.st 3⟩]) OH
noncomputable def V4:gE :=
 p2 [p0 2 [.jq 0] .yy,p0 4 [] (.alloc [.av [] 0 .full,.int .i64 0,.int .i64 0])] V6
theorem abW:qj Go.Proofs.Try.prog PZ 52=some (V4,34,[.cell 4 (.str 3)]):=by kernel_rfl
end Go.Proofs.Ytkoioidpbbbaiaa.Ab


namespace Go.Proofs.Ytkoioidpbbbaiaa.Ab
open Go
set_option maxRecDepth 20000
set_option maxHeartbeats 4000000
def KD:List qm→List (Int×Int)→Option (List (Int×Int))
 | [],S=>some S
 | c::r,S=>qI (0≤c.1∧c.1<(S.length:Int)) <| KD r (S.set c.1.toNat c.2)
def NU (p:qc) (l:List qm):Option qc :=
 qI (p.1≠[]∧p.1.length≤1000∧l.length≤1000) <| (KD l p.1).bind fun S=>some (S,p.2)
theorem U0 {p:qc} {l:List qm} {S':List (Int×Int)} (ao:l.length≤1000) (C':KD l p.1=some S') {vid rid:Nat} {Hs:List (Int×Int)→List ar} (aQ:∀ S,∃ x,(Hs S)[0]?=some (.cells [x,h0 0,h0 0])) (ad:∀ S,(Hs S)[vid]?=some (.cells [.ref rid 0 p.1.length none 2,h0 p.2.1,h0 p.2.2])) (ai:∀ S,(Hs S)[rid]?=some (.cells (S.flatMap p7))) (ah:∀ S bL,(Hs S).set rid (.cells (bL.flatMap p7))=Hs bL)
  (nJ:∀ (S:List (Int×Int)) (T:List I),S.length=p.1.length→df T 4=.ptr 0 0→HQ [.cell 4 (.str 3)] (.agg [.av (S.flatMap p7) S.length .shared,h0 p.2.1,h0 p.2.2]) .ret T ((Hs S).set 0 (.cells [.ref rid 0 p.1.length none 2,h0 p.2.1,h0 p.2.2])))
  {Q:cQ→List I→List ar→Prop} (bp:∀ T H,HQ [.cell 4 (.str 3)] (.agg [.av (S'.flatMap p7) S'.length .shared,h0 p.2.1,h0 p.2.2]) .ret T H→Q .ret T H) {T:List I} {v2:I} (b0:T=qb 34 [(1,.av (l.flatMap ql) l.length .shared),(2,v2),(4,.ptr 0 0),(5,.ptr vid 0)]) :
  dQ Try.prog PZ 52 0 none OH T (Hs p.1) Q:=by
 subst b0;unfold OH V5;obtain ⟨a7,cf⟩:∃ c,Rj=c:=⟨_,rfl⟩;rw [cf];conv=>whnf
 refine .intro (fun m T H=>∃ (i:Nat) (S:List (Int×Int)),i≤l.length∧m=l.length-i∧S.length=p.1.length∧KD (l.drop i) S=some S'∧T=qb 34 [(1,.av (l.flatMap ql) l.length .shared),(4,.ptr 0 0),(5,.ptr vid 0),(6,h0 i)]∧H=Hs S) l.length ⟨0,p.1,sC _,rfl,rfl,C',rfl,rfl⟩ ?_;rintro m T H ⟨i,S,hi,rfl,cp,al,rfl,rfl⟩;conv=>whnf
 refine HB (fun aR=>?_) (fun aR=>?_)
 ·have HC:i<l.length:=by omega
  rw [s7 HC] at al;unfold KD at al;obtain ⟨jM,al⟩:=Hj al;subst cf;unfold Rj;conv=>whnf
  refine Ew (ad S) ?_;conv=>whnf
  have Ij:0≤(i:Int)∧(i:Int)<(l.length:Int):=by omega
  refine ⟨Ij,?_⟩;rw [IY ql 3 HT l (i:Int) Ij];rw [rK HC];conv=>whnf
  refine ⟨Ij,?_⟩;rw [IY ql 3 HT l (i:Int) Ij];rw [rK HC];obtain ⟨c,QF⟩:∃ c,c=l[i]:=⟨_,rfl⟩;rw [←QF] at al jM ⊢;conv=>whnf
  refine ⟨by omega,?_⟩;conv=>whnf
  refine Ew (ai S) ?_;conv=>whnf
  rw [show 0+c.1.toNat*2=c.1.toNat*2 by omega];have pE:(S.flatMap p7).length=S.length*2:=Ih p7 2 (fun _=>rfl) S;refine Gn (by omega) ?_;conv=>whnf
  refine Gn (by rw [List.length_set];omega) ?_;conv=>whnf
  erw [RO S c.1.toNat c.2.1 c.2.2 (by omega),ah];have rr:IntKind.i64.wrap ((i:Int)+1)=((i+1:Nat):Int):=by rw [HK _ (by omega) (by omega)];omega
  exact ⟨l.length-(i+1),by omega,i+1,S.set c.1.toNat c.2,by omega,rfl,by simpa using cp,al,by rw [rr];rfl,rfl⟩
 ·obtain rfl:i=l.length:=by omega
  rw [uU] at al;obtain rfl:=Option.some.inj al;conv=>whnf
  refine Ew (ad S) ?_;conv=>whnf
  obtain ⟨x,aj⟩:=aQ S;refine Ew aj ?_;conv=>whnf
  exact bp _ _ (nJ S _ cp rfl)
theorem TQ {S:List (Int×Int)} {H:List ar} {id n d:Nat} {x y:Int} (aE:id<H.length) (ag:H[id]?=some (.cells (S.flatMap p7))) (aI:S.length=n):bM H 0 H.length 0 (d+3) (.agg [.ref id 0 n none 2,h0 x,h0 y])=some (.agg [.av (S.flatMap p7) n .shared,h0 x,h0 y]):=by
 have e1:bM H 0 H.length 0 (d+2) (.ref id 0 n none 2)=some (.av (S.flatMap p7) n .shared):=by
  show (if id<0 then some (I.ref id 0 n none 2) else if id=H.length then some (.ref 0 0 n none 2) else match rowOf H (.ref id 0 n none 2) with | some row=>(ea (bM H 0 H.length 0 (d+1)) row).map fun cs=>.av cs n (e3 none n) | none=>none)=_;rw [if_neg (by omega),if_neg (by omega),Wy ag aI];have l0:ea (bM H 0 H.length 0 (d+1)) (S.flatMap p7)=some (S.flatMap p7):=zU fun u hu=>by
   obtain ⟨x,_,aj⟩:=tG.1 hu;simp only [p7,sx,tM,or_false] at aj;rcases aj with rfl | rfl <;> rfl
  simp only [l0,sd];rfl
 show (ea (bM H 0 H.length 0 (d+2)) [.ref id 0 n none 2,h0 x,h0 y]).map I.agg=_;rw [rf e1 (rf rfl (rf rfl Ix))];rfl
theorem age {p:qc} {l:List qm} {v:qc} (h:NU p l=some v):qt 52 [.agg [.av (p.1.flatMap p7) p.1.length .shared,h0 p.2.1,h0 p.2.2],.av (l.flatMap ql) l.length .shared] (.agg [.av (v.1.flatMap p7) v.1.length .shared,h0 v.2.1,h0 v.2.2]):=by
 unfold NU at h;obtain ⟨⟨bJ,aB,ao⟩,h⟩:=Hj h;obtain ⟨S',ak,h⟩:=p8 h;obtain rfl:=Option.some.inj h;refine qD eG abW rfl (HS (p4 (ads _ _ _) (p4 rfl (p4 rfl rfl)))) fun Q bp=>?_;have jJ:∀ T H,HQ [.cell 4 (.str 3)] (.agg [.av (S'.flatMap p7) S'.length .shared,h0 p.2.1,h0 p.2.2]) .ret T H→Q .ret T H:=fun T H bE=>bp _ T H bE;have pE:(p.1.flatMap p7).length=p.1.length*2:=Ih p7 2 (fun _=>rfl) p.1;have Uj:p.1.length≠0:=fun e=>bJ (sO.1 e);have e1:∀ S:List (Int×Int),S.length=p.1.length→∀ T:List I,df T 4=.ptr 0 0→HQ [.cell 4 (.str 3)] (.agg [.av (S.flatMap p7) S.length .shared,h0 p.2.1,h0 p.2.2]) .ret T [.cells [.ref 1 0 p.1.length none 2,h0 p.2.1,h0 p.2.2],.cells (S.flatMap p7),.cells [.ref 1 0 p.1.length none 2,h0 p.2.1,h0 p.2.2]]:=fun S cp T b0=>by
  refine ⟨.inr rfl,[.agg [.ref 1 0 p.1.length none 2,h0 p.2.1,h0 p.2.2]],by simp only [rB,b0];rfl,_,TQ (S:=S) (by simp) rfl cp,by rw [cp];rfl⟩
 have b':∀ S:List (Int×Int),S.length=p.1.length→∀ T:List I,df T 4=.ptr 0 0→HQ [.cell 4 (.str 3)] (.agg [.av (S.flatMap p7) S.length .shared,h0 p.2.1,h0 p.2.2]) .ret T [.cells [.ref 2 0 p.1.length none 2,h0 p.2.1,h0 p.2.2],.cells [.ref 2 0 p.1.length none 2,h0 p.2.1,h0 p.2.2],.cells (S.flatMap p7)]:=fun S cp T b0=>by
  refine ⟨.inr rfl,[.agg [.ref 2 0 p.1.length none 2,h0 p.2.1,h0 p.2.2]],by simp only [rB,b0];rfl,_,TQ (S:=S) (by simp) rfl cp,by rw [cp];rfl⟩
 unfold V4 V6;obtain ⟨agP,Qm⟩:∃ c,OH=c:=⟨_,rfl⟩;rw [Qm];conv=>whnf
 refine ⟨rfl,?_⟩;conv=>whnf
 refine ⟨?_,?_⟩
 ·conv=>whnf
  refine ⟨pE,by omega,?_⟩;conv=>whnf
  refine ⟨rfl,by omega,?_⟩;conv=>whnf
  refine ⟨by omega,?_⟩;conv=>whnf
  rw [sy];subst Qm;refine U0 ao ak (vid:=2) (rid:=1) (Hs:=fun S=>[.cells [.av [] 0 .full,h0 0,h0 0],.cells (S.flatMap p7),.cells [.ref 1 0 p.1.length none 2,h0 p.2.1,h0 p.2.2]]) (fun _=>⟨_,rfl⟩) (fun _=>rfl) (fun _=>rfl) (fun _ _=>rfl) (fun S T cp b0=>e1 S cp T b0) jJ rfl
 ·conv=>whnf
  refine ⟨pE,by omega,?_⟩;conv=>whnf
  refine ⟨rfl,by omega,?_⟩;conv=>whnf
  refine ⟨by omega,?_⟩;conv=>whnf
  rw [sy];subst Qm;refine U0 ao ak (vid:=1) (rid:=2) (Hs:=fun S=>[.cells [.av [] 0 .full,h0 0,h0 0],.cells [.ref 2 0 p.1.length none 2,h0 p.2.1,h0 p.2.2],.cells (S.flatMap p7)]) (fun _=>⟨_,rfl⟩) (fun _=>rfl) (fun _=>rfl) (fun _ _=>rfl) (fun S T cp b0=>b' S cp T b0) jJ rfl

abbrev qQ:=Int×Int
abbrev qY:=List (Nat×qQ×qQ)
def q2 (A:qY):List (Nat×I×I):=A.map fun a=>(a.1,.agg (p7 a.2.1),.agg (p7 a.2.2))
theorem Qd (a b:qQ):gK (.agg (p7 a)) (.agg (p7 b))=some (decide (a=b)):=by
 simp only [gK,p7,dL,if_true,sd,tp,Option.some.injEq];rw [Bool.eq_iff_iff];simp only [beq_iff_eq,decide_eq_true_eq,Bool.and_eq_true];exact ⟨fun h=>Prod.ext h.1 h.2,fun h=>by rw [h];exact ⟨rfl,rfl⟩⟩
theorem Qf {k:qQ}:∀ {A:qY} {n:Nat},(∀ x∈A,k≠x.2.1)→fH (.agg (p7 k)) (q2 A) n=some none
 | [],n,_=>rfl
 | a::A,n,h=>by
   simp only [q2,sD,fH,Qd];rw [decide_eq_false (h a (by simp))];exact Qf (n:=n+1) fun x aj=>h x (by simp [aj])
theorem Oh {k:qQ} {a:Nat×qQ×qQ} {R:qY} (cu:a.2.1=k):∀ {A:qY} {n:Nat},(∀ x∈A,k≠x.2.1)→fH (.agg (p7 k)) (q2 (A++a::R)) n=some (some (n+A.length))
 | [],n,_=>by
   simp only [ui,q2,sD,fH,Qd];rw [decide_eq_true cu.symm];rfl
 | b::A,n,h=>by
   simp only [List.cons_append,q2,sD,fH,Qd];rw [decide_eq_false (h b (by simp))];have:=Oh (R:=R) cu (A:=A) (n:=n+1) fun x aj=>h x (by simp [aj]);simp only [q2] at this;show fH (.agg (p7 k)) _ (n+1)=_;rw [this,sJ];congr 2;omega
theorem Nx (k:qQ):∀ (A:qY),(∀ x∈A,k≠x.2.1)∨∃ L a R,A=L++a::R∧a.2.1=k∧∀ x∈L,k≠x.2.1
 | []=>.inl (by simp)
 | b::A=>by
   by_cases h:b.2.1=k
   ·exact .inr ⟨[],b,A,rfl,h,by simp⟩
   ·rcases Nx k A with ab | ⟨L,a,R,ab,ae,aF⟩
    ·refine .inl fun x aj=>?_;rcases sx.1 aj with rfl | aj
     ·exact fun e=>h e.symm
     ·exact ab x aj
    ·refine .inr ⟨b::L,a,R,by rw [ab];rfl,ae,fun x aj=>?_⟩;rcases sx.1 aj with rfl | aj
     ·exact fun e=>h e.symm
     ·exact aF x aj
def HM (s:qY×Nat) (k v:qQ):qY×Nat :=
 if s.1.any (fun a=>decide (k=a.2.1))=true then (s.1.map fun a=>if k=a.2.1 then (a.1,k,v) else a,s.2) else (s.1++[(s.2,k,v)],s.2+1)
structure Jt (s:qY×Nat):Prop where
 ids:(s.1.map (·.1)).Nodup
 low:∀ a∈s.1,a.1<s.2
 keys:(s.1.map (·.2.1)).Nodup
theorem Uu {L R:qY} {a:Nat×qQ×qQ} (h:((L++a::R).map (·.2.1)).Nodup):(∀ x∈L,a.2.1≠x.2.1)∧∀ x∈R,a.2.1≠x.2.1:=by
 rw [sT,sD] at h;obtain ⟨_,ae,aF⟩:=ue.1 h;refine ⟨fun x aj e=>aF _ (ta aj) _ (by simp) e.symm,fun x aj e=>?_⟩;exact (tQ.1 ae).1 (by rw [e];exact ta aj)
theorem Va {s:qY×Nat} {k v:qQ} (h:∀ x∈s.1,k≠x.2.1):HM s k v=(s.1++[(s.2,k,v)],s.2+1):=by
 unfold HM;rw [if_neg];rw [vu];rintro ⟨x,aj,e⟩;exact h x aj (of_decide_eq_true e)
theorem Vb {L R:qY} {a:Nat×qQ×qQ} {c:Nat} {v:qQ} (al:((L++a::R).map (·.2.1)).Nodup):HM (L++a::R,c) a.2.1 v=(L++(a.1,a.2.1,v)::R,c):=by
 obtain ⟨ab,ae⟩:=Uu al;unfold HM;rw [if_pos (by rw [vu];exact ⟨a,by simp,decide_eq_true rfl⟩)];have key:∀ l:qY,(∀ x∈l,a.2.1≠x.2.1)→l.map (fun x=>if a.2.1=x.2.1 then (x.1,a.2.1,v) else x)=l:=fun l ao=>QW fun x aj=>if_neg (ao x aj);show (List.map _ (L++a::R),c)=_;rw [sT,sD,key L ab,key R ae,if_pos rfl]
theorem Jt.put {s:qY×Nat} (h:Jt s) (k v:qQ):Jt (HM s k v):=by
 rcases Nx k s.1 with ab | ⟨L,a,R,ab,ae,aF⟩
 ·rw [Va ab];refine ⟨?_,?_,?_⟩
  ·rw [sT,ue];refine ⟨h.ids,by simp,fun x aj y aY e=>?_⟩;obtain ⟨z,bk,rfl⟩:=sA.1 aj;have:=h.low z bk;simp at aY;omega
  ·intro z bk;rcases tc.1 bk with bk | bk
   ·have:=h.low z bk;show z.1<s.2+1;omega
   ·simp at bk;subst bk;show s.2<s.2+1;omega
  ·rw [sT,ue];refine ⟨h.keys,by simp,fun x aj y aY e=>?_⟩;obtain ⟨z,bk,rfl⟩:=sA.1 aj;simp at aY;exact ab z bk (by rw [e,aY])
 ·obtain ⟨s1,c⟩:=s;simp only at ab;subst ab ae;rw [Vb h.keys];refine ⟨?_,?_,?_⟩
  ·have:=h.ids;simpa using this
  ·intro z bk;rcases tc.1 bk with bk | bk
   ·exact h.low z (by simp [bk])
   ·rcases sx.1 bk with rfl | bk
    ·exact h.low a (by simp)
    ·exact h.low z (by simp [bk])
  ·have:=h.keys;simpa using this
theorem U_ {α:Type} (f:α→α) (x:α) (R:List α):∀ L:List α,(L++x::R).modify L.length f=L++f x::R
 | []=>rfl
 | a::L=>by
   show (a::(L++x::R)).modify (L.length+1) f=a::(L++f x::R);rw [List.modify_succ_cons,U_ f x R L]
theorem Vx {k v:qQ} {s:qY×Nat} (ah:Jt s) :
  (∃ i,fH (.agg (p7 k)) (q2 s.1) 0=some (some i)∧(q2 s.1).modify i (fun e=>(e.1,.agg (p7 k),.agg (p7 v)))=q2 (HM s k v).1∧s.2=(HM s k v).2) ∨
  (fH (.agg (p7 k)) (q2 s.1) 0=some none∧q2 s.1++[(s.2,.agg (p7 k),.agg (p7 v))]=q2 (HM s k v).1∧s.2+1=(HM s k v).2):=by
 rcases Nx k s.1 with ab | ⟨L,a,R,ab,ae,aF⟩
 ·refine .inr ⟨Qf ab,?_⟩;rw [Va ab];exact ⟨by simp [q2],rfl⟩
 ·obtain ⟨s1,c⟩:=s;simp only at ab;subst ab ae;refine .inl ⟨_,Oh rfl aF,?_⟩;rw [Vb ah.keys];refine ⟨?_,rfl⟩;rw [sy];simp only [q2,sT,sD];have:=U_ (fun e:Nat×I×I=>(e.1,I.agg (p7 a.2.1),I.agg (p7 v))) (a.1,I.agg (p7 a.2.1),I.agg (p7 a.2.2)) (R.map fun a=>(a.1,I.agg (p7 a.2.1),I.agg (p7 a.2.2))) (L.map fun a=>(a.1,I.agg (p7 a.2.1),I.agg (p7 a.2.2)));rw [sW] at this;exact this
def Jg (A:qY) (k:qQ):Option qQ:=(A.find? fun a=>decide (k=a.2.1)).map (·.2.2)
theorem ace (k:qQ) (A:qY) :
  (∃ v i e,Jg A k=some v∧fH (.agg (p7 k)) (q2 A) 0=some (some i)∧(q2 A)[i]?=some e∧e.2.2=.agg (p7 v))∨(Jg A k=none∧fH (.agg (p7 k)) (q2 A) 0=some none):=by
 rcases Nx k A with ab | ⟨L,a,R,ab,ae,aF⟩
 ·refine .inr ⟨?_,Qf ab⟩;unfold Jg;rw [vv.2 fun x aj=>by simpa using ab x aj];rfl
 ·subst ab ae;refine .inl ⟨a.2.2,_,(a.1,.agg (p7 a.2.1),.agg (p7 a.2.2)),?_,Oh rfl aF,?_,rfl⟩
  ·unfold Jg;rw [List.find?_append,vv.2 fun x aj=>by simpa using aF x aj];simp
  ·simp only [q2,sT,sD,sy];rw [sr (by simp)];simp
theorem aaa {A:qY} {a:Nat×qQ×qQ} (al:(A.map (·.2.1)).Nodup) (cu:a∈A):∃ i,fH (.agg (p7 a.2.1)) (q2 A) 0=some (some i)∧(q2 A).eraseIdx i=q2 (A.filter fun x=>decide (a.2.1≠x.2.1)):=by
 obtain ⟨k,Ue⟩:∃ k,k=a.2.1:=⟨_,rfl⟩;rw [←Ue];rcases Nx k A with ab | ⟨L,b,R,ab,ae,aF⟩
 ·exact absurd Ue (ab a cu)
 ·subst ab ae;refine ⟨_,Oh rfl aF,?_⟩;obtain ⟨aJ,aN⟩:=Uu al;have e1:(L++b::R).filter (fun x=>decide (b.2.1≠x.2.1))=L++R:=by
   rw [tX,uy (by simp),tE.2 fun x aj=>decide_eq_true (aJ x aj),tE.2 fun x aj=>decide_eq_true (aN x aj)]
  rw [e1,sy];simp only [q2,sT,sD];rw [List.eraseIdx_append_of_length_le (by simp)];simp
end Go.Proofs.Ytkoioidpbbbaiaa.Ab


namespace Go.Proofs.Ytkoioidpbbbaiaa.Ab
open Go
noncomputable def RA:gE :=
 .ov false [p3 44 1,p3 45 7,p3 46 6,p3 47 0,p0 48 [.Bs 47] .z4,qv 49 48 0,qv 50 49 1,qv 51 50 0,qf 52 51,qs 53 46 52 .mul,qs 54 45 53 .add,qs 55 44 54 .mul,p0 56 [.Bs 55,.cv (.int .i64 0)] (.build [.int .i64 0,.int .i64 0] [(0,1),(1,1)]),⟨none,[.nc 8,.jq 56],none,none,.st 2⟩]
noncomputable def OT:gE :=
 p2 [p3 57 5,p0 58 [.Bs 8] (.zE (.str 2)),p3 59 7,p3 60 6,p0 61 [.Bs 59,.Bs 60] (.build [.int .i64 0,.int .i64 0] [(0,1),(1,1)]),⟨none,[.Bs 57,.Bs 58,.Bs 61],none,none,.zR (.str 2)⟩] (p2 [p3 62 1,qu 63 62 0 .eql] (.cond (.nc 63) (.exit 0) .skip))
noncomputable def RE:gE :=
 .seq (.seq (qT [p3 31 0,p0 32 [.Bs 31] .z4,qv 33 32 0,qv 34 33 1,qv 35 34 0,qf 36 35,p3 37 0,p0 38 [.Bs 37] .z4,qv 39 38 0,qv 40 39 1,qv 41 40 1,qf 42 41,qs 43 36 42 .eql]) (.cond (.nc 43) RA .skip)) OT
noncomputable def OU:gE :=
 .block 3 (p2 [p3 24 1,p3 25 7,qs 26 24 25 .mul,p3 27 1,p3 28 6,qs 29 27 28 .mul,p0 30 [.Bs 26,.Bs 29] (.build [.int .i64 0,.int .i64 0] [(0,1),(1,1)]),p0 8 [] (.alloc [.int .i64 0,.int .i64 0]),⟨none,[.nc 8,.jq 30],none,none,.st 2⟩] RE)
noncomputable def Wh:gE :=
 .seq (p2 [p3 20 7,qu 21 20 100 .leq] (.cond (.nc 21) .skip (.exit 2))) (.seq OU (qM [p1 22 7,qU 23 22 1,p1 7 23]))
noncomputable def OV:gE :=
 .loop (some (p_ false [0,2,3,3,115])) Wh
noncomputable def Wi:gE :=
 .block 1 (p2 [p' 7 0] (.block 2 OV))
noncomputable def Wj:gE :=
 .seq (p2 [p3 16 6,qu 17 16 10 .leq] (.cond (.nc 17) .skip (.exit 0))) (.seq Wi (qM [p1 18 6,qU 19 18 1,p1 6 19]))
noncomputable def RF:gE :=
 .ov false [p1 95 10,p3 96 9,qv 97 12 0,qf 98 97,p3 99 13,p1 100 13,p0 101 [.Bs 100] (.un .neg),p0 102 [.jq 98,.jq 99,.jq 101] .max,qs 103 96 102 .mul,qs 104 95 103 .add,p1 10 104]
noncomputable def RG:gE :=
 .seq (qT [p0 83 [.nc 12] (.yM 0),qf 84 83,p0 85 [.nc 12] (.yM 1),qf 86 85,p3 87 0,p0 88 [.Bs 87] .z4,qv 89 88 0,qv 90 89 1,qv 91 90 0,qf 92 91,qs 93 86 92 .mul,qs 94 84 93 .add,p1 13 94]) RF
noncomputable def Wf:gE :=
 .block 5 (p2 [p0 81 [.nc 77,.nc 79] (.kY 2),p0 82 [.Bs 81] (.zE (.str 2)),p0 12 [] (.alloc [.int .i64 0,.int .i64 0]),⟨none,[.nc 12,.jq 82],none,none,.st 2⟩] RG)
noncomputable def RB:gE :=
 p2 [p3 112 10,p0 113 [.Bs 112] (.un .neg),p3 114 10,p0 115 [.nc 14] (.yM 0),qf 116 115,p0 117 [.Bs 116] (.yB 1 1 [.int .i64 0] [0]),p0 118 [.cv (.func 37 [] []),.nc 113,.nc 114,.nc 117] (.call 3),p0 119 [.Bs 118] (.un .not)] (.cond (.nc 119) (qM [p3 120 5,p0 121 [.Bs 14] (.zE (.str 2)),⟨none,[.jq 120,.jq 121],none,none,.zP (.str 2)⟩]) .skip)
noncomputable def RC:gE :=
 .block 7 (p2 [p0 110 [.nc 107] .yH,p0 111 [.Bs 110] (.ext 0),p0 14 [] (.alloc [.int .i64 0,.int .i64 0]),⟨none,[.nc 14,.jq 111],none,none,.st 2⟩] RB)
noncomputable def Wk:gE :=
 .loop (some (p_ false [5,1,4,1,96,1,15])) (.seq (.z6 107 (some 108) [p0 109 [.Bs 108] (.ext 0)]) (.seq (.cond (.nc 109) .skip (.exit 6)) RC))
noncomputable def OS:gE :=
 .seq (p2 [p3 106 5,p0 107 [.Bs 106] .AN] (.block 6 Wk)) (p2 [p1 122 5,p1 4 122] .ret)
noncomputable def OW:gE :=
 .loop (some (p_ false [0,1,4,1,3,2,66,3,43])) (p2 [p0 80 [.nc 79,.nc 78] (.bin .lss)] (.seq (.cond (.nc 80) .skip (.exit 4)) (.seq Wf (qM [qU 105 79 1,p1 79 105]))))
noncomputable def Wg:gE :=
 .seq (p2 [p3 73 0,p0 74 [.Bs 73] .z4,qv 75 74 0,qv 76 75 0,qf 77 76,p0 78 [.nc 77] .zJ,p' 79 0] (.block 4 OW)) OS
noncomputable def RD:gE :=
 p2 [p3 64 0,p3 65 0,p0 66 [.Bs 65] .z4,qv 67 66 0,qv 68 67 0,qf 69 68,qW 70 69,qu 71 70 1 .sub,p0 72 [.cv (.func 68 [] []),.nc 64,.nc 71] (.call 3),p1 9 72] (p2 [p' 10 0] Wg)
noncomputable def OX:gE :=
 .loop (some (p_ false [0,2,3,2,116])) Wj
noncomputable def We:gE :=
 p2 [p0 4 [.cv .a0] .mU] (p2 [p0 15 [] .zZ,p1 5 15] (.seq .skip (.seq (p2 [p' 6 (-10)] (.block 0 OX)) RD)))
theorem ab0:qj Go.Proofs.Try.prog KB 71=some (We,123,[.tmp 4]):=by kernel_rfl
end Go.Proofs.Ytkoioidpbbbaiaa.Ab


namespace Go.Proofs.Ytkoioidpbbbaiaa.Ab
open Go
set_option maxRecDepth 20000
set_option maxHeartbeats 4000000
def Iv (f:Int→Bool) (A:qY) (seen:List Nat):qY:=A.filter fun a=>!(decide (a.1∈seen)) || f a.2.1.1
theorem abD (f:Int→Bool) (A:qY):Iv f A []=A:=by
 unfold Iv;exact tE.2 fun a _=>by simp
theorem abz {f:Int→Bool} {A:qY} {seen:List Nat} (h:∀ a∈Iv f A seen,a.1∈seen):Iv f A seen=A.filter fun a=>f a.2.1.1:=by
 unfold Iv;refine ud fun a cu=>?_;by_cases ah:a.1∈seen
 ·simp [ah]
 ·cases aP:f a.2.1.1 with
  | true=>simp
  | false =>
    exfalso;exact ah (h a (td.2 ⟨cu,by simp [ah]⟩))
theorem M9 {α β:Type} {g:α→β}:∀ {l:List α},(l.map g).Nodup→∀ {x y:α},x∈l→y∈l→g x=g y→x=y
 | [],_,x,y,aj,_,_=>absurd aj (by simp)
 | a::l,h,x,y,aj,aY,e=>by
   obtain ⟨ab,ae⟩:=tQ.1 h;rcases sx.1 aj with aF | aF
   ·rcases sx.1 aY with ba | ba
    ·rw [aF,ba]
    ·exact absurd (by rw [←aF,e];exact ta ba) ab
   ·rcases sx.1 aY with ba | ba
    ·exact absurd (by rw [←ba,←e];exact ta aF) ab
    ·exact M9 ae aF ba e
theorem abB {f:Int→Bool} {A:qY} {c:Nat} {seen:List Nat} {a:Nat×qQ×qQ} (aL:Jt (A,c)) (cu:a∈A) (aP:f a.2.1.1=true):Iv f A (seen++[a.1])=Iv f A seen:=by
 unfold Iv;refine ud fun x aj=>?_;by_cases e:x.1=a.1
 ·have:=M9 aL.ids aj cu e;subst this;simp [aP]
 ·simp [e]
theorem abA {f:Int→Bool} {A:qY} {c:Nat} {seen:List Nat} {a:Nat×qQ×qQ} (aL:Jt (A,c)) (cu:a∈A) (aP:f a.2.1.1=false):Iv f A (seen++[a.1])=(Iv f A seen).filter fun x=>decide (a.2.1≠x.2.1):=by
 unfold Iv;rw [uL];refine ud fun x aj=>?_;by_cases e:x.1=a.1
 ·have:=M9 aL.ids aj cu e;subst this;simp [aP]
 ·have:a.2.1≠x.2.1:=fun b'=>e (by rw [M9 aL.keys aj cu b'.symm])
  simp [e,this]
theorem abC {f:Int→Bool} {A:qY} {c:Nat} {seen:List Nat} (aL:Jt (A,c)):((Iv f A seen).map (·.2.1)).Nodup:=aL.keys.sublist (List.filter_sublist.map _)
theorem TD:∀ {A:qY} {a:Nat×qQ×qQ},(A.map (·.1)).Nodup→a∈A→(q2 A).find? (fun e=>e.1 == a.1)=some (a.1,.agg (p7 a.2.1),.agg (p7 a.2.2))
 | [],a,_,h=>absurd h (by simp)
 | b::A,a,aI,h=>by
   obtain ⟨ab,ae⟩:=tQ.1 aI;simp only [q2,sD,List.find?_cons];by_cases e:b.1=a.1
   ·rw [M9 aI (by simp) h e];simp
   ·have:(b.1 == a.1)=false:=by simpa using e
    rw [this];rcases sx.1 h with aF | aF
    ·exact absurd (by rw [aF]) e
    ·exact TD ae aF
theorem Tx:∀ {A:qY} {seen:List Nat} {a:Nat×qQ×qQ},(A.map (·.1)).Nodup→a∈A→a.1 ∉ seen→(A.filter fun x=>!(decide (x.1∈seen++[a.1]))).length+1=(A.filter fun x=>!(decide (x.1∈seen))).length
 | [],_,_,_,h,_=>absurd h (by simp)
 | b::A,seen,a,aI,cu,ah=>by
   obtain ⟨ab,ae⟩:=tQ.1 aI;by_cases e:b.1=a.1
   ·have b':A.filter (fun x=>!(decide (x.1∈seen++[a.1])))=A.filter fun x=>!(decide (x.1∈seen)):=ud fun x aj=>by
     have:x.1≠a.1:=fun h=>ab (show b.1∈A.map (·.1) by rw [e,←h];exact ta aj)
     simp [this]
    rw [uy (by simp [e]),uT (by simp [e,ah]),b',sJ]
   ·have aaI:a∈A:=by
     rcases sx.1 cu with h | h
     ·exact absurd (by rw [h]) e
     ·exact h
    have a8:=Tx ae aaI ah;by_cases af:b.1∈seen
    ·rw [uy (by simp [af]),uy (by simp [af])];exact a8
    ·rw [uT (by simp [af,e]),uT (by simp [af]),sJ,sJ];omega
theorem aeF {A:qY} {c:Nat} (aL:Jt (A,c)) {f:Int→Bool} {most:Int} (aP:∀ a∈A,IB (w (-most)) most [a.2.1.1]=some (f a.2.1.1)) {Y:List ar} {v0 v1 O' afh O9 afi O_:I} {Q:cQ→List I→List ar→Prop}
  (bp:∀ T qy,qy.length=Y.length+1+A.length→df T 4=.map 0→Q .ret T (.map (q2 (A.filter fun a=>f a.2.1.1)) c::qy)):dQ Try.prog KB 71 0 none OS (qb 123 [(0,v0),(1,v1),(5,.map 0),(9,O'),(10,h0 most),(77,afh),(78,O9),(79,afi),(80,O_)]) (.map (q2 A) c::Y) Q:=by
 unfold OS Wk;obtain ⟨agM,TS⟩:∃ c,RC=c:=⟨_,rfl⟩;rw [TS];conv=>whnf
 refine ⟨_,_,rfl,?_⟩;conv=>whnf
 refine .intro (fun m T H=>∃ (seen:List Nat) (Z:List ar),Z.length+(A.filter fun a=>!(decide (a.1∈seen))).length=A.length∧m=(A.filter fun a=>!(decide (a.1∈seen))).length∧T=qb 123 [(5,.map 0),(10,h0 most),(107,.ptr (Y.length+1) 0)]∧H=(.map (q2 (Iv f A seen)) c::Y)++(.iter 0 c seen c::Z)) _ ⟨[],[],by simp [tE.2],rfl,rfl,by rw [abD]⟩ ?_;rintro m T H ⟨seen,Z,J9,rfl,rfl,rfl⟩;conv=>whnf
 have ai:∀ (e:ar) (s:List Nat) (Z:List ar),((e::Y)++(.iter 0 c s c::Z))[Y.length+1]?=some (.iter 0 c s c):=fun e s Z=>by
  rw [sr (by simp)];simp
 refine ⟨0,c,seen,c,_,ai _ _ _,rfl,sb _,?_,?_,?_⟩
 ·intro e he;obtain ⟨a,cu,rfl⟩:=sA.1 he;exact aL.low a (td.1 cu).1
 ·intro c1;conv=>whnf
  rw [abz fun a cu=>c1 _ (ta cu)];refine bp _ (Y++(.iter 0 c seen c::Z)) ?_ rfl
  have gb:(A.filter fun a=>!(decide (a.1∈seen))).length=0:=sO.2 (List.filter_eq_nil_iff.2 fun a cu ah=>by
   have hl:a.1 ∉ seen:=by simpa using ah
   exact hl (c1 _ (ta (f:=fun a:Nat×qQ×qQ=>(a.1,I.agg (p7 a.2.1),I.agg (p7 a.2.2))) (td.2 ⟨cu,by simp [hl]⟩))))
  simp;omega
 ·intro e he aa7;obtain ⟨a,cu,rfl⟩:=sA.1 he;have hg:a∈A:=(td.1 cu).1;have eH:∀ (e:ar) (x y:ar),((e::Y)++(x::Z)).set (Y.length+1) y=(e::Y)++(y::Z):=fun e x y=>by
   rw [uP _ _ (by simp)];simp
  conv=>whnf
  rw [eH];subst TS;unfold RC;obtain ⟨agL,TR⟩:∃ c,RB=c:=⟨_,rfl⟩;rw [TR];conv=>whnf
  have aaS:(q2 (Iv f A seen)).find? (fun e=>e.1 == a.1)=some (a.1,.agg (p7 a.2.1),.agg (p7 a.2.2)):=TD (aL.ids.sublist (List.filter_sublist.map _)) cu;refine ⟨0,c,seen++[a.1],c,a.1,_,_,ai _ _ _,by simp,rfl,aaS,?_⟩;conv=>whnf
  refine Ew (x:=ar.cells [h0 0,h0 0]) (by first | exact qN.h | rfl | (simp [sm,I.settle];done)) ?_
  conv=>whnf
  rw [HO];subst TR;unfold RB;conv=>whnf
  refine Ew (x:=ar.cells [h0 a.2.1.1,h0 a.2.1.2]) (by first | exact qN.h | rfl | (simp [sm,I.settle];done)) ?_
  conv=>whnf
  refine ⟨p4 rfl (p4 rfl (p4 rfl rfl)),_,Kr (aP a hg),?_⟩;conv=>whnf
  have ag5:(A.filter fun x=>!(decide (x.1∈seen++[a.1]))).length+1=(A.filter fun x=>!(decide (x.1∈seen))).length:=Tx aL.ids hg aa7;have GM:(A.filter fun x=>!(decide (x.1∈seen++[a.1]))).length<(A.filter fun x=>!(decide (x.1∈seen))).length:=by omega
  have T9:∀ o,(Z++[o]).length+(A.filter fun x=>!(decide (x.1∈seen++[a.1]))).length=A.length:=fun o=>by rw [sB,List.length_singleton];omega
  cases Ua:f a.2.1.1 with
  | true =>
    (conv=>whnf);exact ⟨_,GM,seen++[a.1],Z++[.cells [h0 a.2.1.1,h0 a.2.1.2]],T9 _,rfl,rfl,by rw [abB aL hg Ua];simp;exact ⟨rfl,rfl⟩⟩
  | false =>
    (conv=>whnf);refine Ew (x:=ar.cells [h0 a.2.1.1,h0 a.2.1.2]) (by first | exact qN.h | rfl | (simp [sm,I.settle];done)) ?_
    (conv=>whnf);obtain ⟨aab,Oo,Oq⟩:=aaa (abC (f:=f) (seen:=seen) aL) cu;refine ⟨rfl,_,_,rfl,some aab,Oo,?_⟩;(conv=>whnf);rw [Oq];exact ⟨_,GM,seen++[a.1],Z++[.cells [h0 a.2.1.1,h0 a.2.1.2]],T9 _,rfl,rfl,by rw [abA aL hg Ua];simp;exact ⟨rfl,rfl⟩⟩
def I1 (far lo:Int):List qQ→Int→Int
 | [],n=>n
 | s::r,n=>I1 far lo r (w (n+w (far*max (max s.1 (w (s.1+w (s.2*lo)))) (w (-(w (s.1+w (s.2*lo))))))))
theorem ac7 {b:((List (Int×Int))×(Int×Int))×Unit} (af:b.1.1.length≤1000) {rH:ar} {far:Int} {Y:List ar} {T:List I} {Q:cQ→List I→List ar→Prop}
  (b0:eZ [true,false,false,false,false,true,false,false,false,true,true,false,false,false,false,false,false,false,false,false,false,false,false,false,false,false,false,false,false,false,false,false,false,false,false,false,false,false,false,false,false,false,false,false,false,false,false,false,false,false,false,false,false,false,false,false,false,false,false,false,false,false,false,false,false,false,false,false,false,false,false,false,false,false,false,false,false,true,true,true,false,false,false,false,false,false,false,false,false,false,false,false,false,false,false,false,false,false,false,false,false,false,false,false,false,false,false,false,false,false,false,false,false,false,false,false,false,false,false,false,false,false,false] T=qb 123 [(0,lp b),(5,.map 0),(9,h0 far),(10,h0 0),(77,.av (b.1.1.flatMap p7) b.1.1.length .shared),(78,h0 b.1.1.length),(79,h0 0)])
  (bp:∀ qy O_,qy.length=Y.length+b.1.1.length→Q (.exit 4) (qb 123 [(0,lp b),(5,.map 0),(9,h0 far),(10,h0 (I1 far b.1.2.1 b.1.1 0)),(77,.av (b.1.1.flatMap p7) b.1.1.length .shared),(78,h0 b.1.1.length),(79,h0 b.1.1.length),(80,O_)]) (rH::qy)):dQ Try.prog KB 71 0 none OW T (rH::Y) Q:=by
 unfold OW;refine wp_loop b0 ?_;refine .intro (fun m T H=>∃ (i:Nat) (n:Int) (qy:List ar),i≤b.1.1.length∧qy.length=Y.length+i∧m=b.1.1.length-i∧I1 far b.1.2.1 (b.1.1.drop i) n=I1 far b.1.2.1 b.1.1 0∧T=qb 123 [(0,lp b),(5,.map 0),(9,h0 far),(10,h0 n),(77,.av (b.1.1.flatMap p7) b.1.1.length .shared),(78,h0 b.1.1.length),(79,h0 i)]∧H=rH::qy) _ ⟨0,0,Y,sC _,rfl,rfl,rfl,rfl,rfl⟩ ?_;clear b0;rintro m T H ⟨i,n,Sq,hi,aaG,rfl,hm,rfl,rfl⟩;conv=>whnf
 refine HB (fun aR=>?_) (fun aR=>?_)
 ·have HC:i<b.1.1.length:=by omega
  have Ij:0≤(i:Int)∧(i:Int)<(b.1.1.length:Int):=by omega
  rw [s7 HC] at hm;unfold Wf;obtain ⟨B9,KF⟩:∃ c,RG=c:=⟨_,rfl⟩;rw [KF];conv=>whnf
  refine ⟨Ij,?_⟩;rw [IY p7 2 LY b.1.1 (i:Int) Ij,rK HC];obtain ⟨s,ah⟩:∃ s,s=b.1.1[i]:=⟨_,rfl⟩;rw [←ah] at hm ⊢;conv=>whnf
  refine Ew (x:=ar.cells [h0 0,h0 0]) (by first | exact qN.h | rfl | (simp [sm,I.settle];done)) ?_
  conv=>whnf
  rw [HO];subst KF;unfold RG;obtain ⟨nv,I_⟩:∃ c,RF=c:=⟨_,rfl⟩;rw [I_];conv=>whnf
  refine Ew (x:=ar.cells [h0 s.1,h0 s.2]) (by first | exact qN.h | rfl | (simp [sm,I.settle];done)) ?_
  conv=>whnf
  refine Ew (x:=ar.cells [h0 s.1,h0 s.2]) (by first | exact qN.h | rfl | (simp [sm,I.settle];done)) ?_
  conv=>whnf
  subst I_;unfold RF;conv=>whnf
  refine Ew (x:=ar.cells [h0 s.1,h0 s.2]) (by first | exact qN.h | rfl | (simp [sm,I.settle];done)) ?_
  conv=>whnf
  have rr:IntKind.i64.wrap ((i:Int)+1)=((i+1:Nat):Int):=by rw [HK _ (by omega) (by omega)];omega
  exact ⟨b.1.1.length-(i+1),by omega,i+1,_,_,by omega,by simp;omega,rfl,hm,by rw [rr];rfl,rfl⟩
 ·obtain rfl:i=b.1.1.length:=by omega
  rw [uU] at hm;obtain rfl:n=I1 far b.1.2.1 b.1.1 0:=hm;conv=>whnf
  exact bp _ _ (by omega)

def HR (lo hi x m p:Int):qQ:=if lo=hi then (w (x*w (p+w (m*lo))),0) else (w (x*p),w (x*m))
def rY (lo hi x:Int):Nat→qY×Nat
 | 0=>([],0)
 | t+1=>HM (rY lo hi x t) (HR lo hi x ((t / 101:Nat)-10) ((t % 101:Nat))) ((t % 101:Nat),(t / 101:Nat)-10)
theorem RR (lo hi x:Int):∀ t,Jt (rY lo hi x t)
 | 0=>⟨by simp [rY],by simp [rY],by simp [rY]⟩
 | t+1=>(RR lo hi x t).put _ _
abbrev Kb (s:qY×Nat):ar:=.map (q2 s.1) s.2
theorem Zt {b:((List (Int×Int))×(Int×Int))×Unit} {x m p:Int} {s:qY×Nat} (ah:Jt s) {Y:List ar} {Jm:I} {Q:cQ→List I→List ar→Prop}
  (bp:∀ qy Ki Kj,qy.length=Y.length+1→Q (if x=0 then .exit 0 else .normal) (qb 123 [(0,lp b),(1,h0 x),(5,.map 0),(6,h0 m),(7,h0 p),(21,Jm),(43,Ki),(63,Kj)]) (Kb (HM s (HR b.1.2.1 b.1.2.2 x m p) (p,m))::qy)) :
  dQ Try.prog KB 71 0 none OU (qb 123 [(0,lp b),(1,h0 x),(5,.map 0),(6,h0 m),(7,h0 p),(21,Jm)]) (Kb s::Y) Q:=by
 unfold OU;obtain ⟨bt,eS⟩:∃ c,RE=c:=⟨_,rfl⟩;rw [eS];conv=>whnf
 refine Ew (x:=ar.cells [h0 0,h0 0]) (by first | exact qN.h | rfl | (simp [sm,I.settle];done)) ?_
 conv=>whnf
 rw [HO];subst eS;unfold RE;obtain ⟨a7,cf⟩:∃ c,RA=c:=⟨_,rfl⟩;obtain ⟨a9,ca⟩:∃ c,OT=c:=⟨_,rfl⟩;rw [cf,ca];conv=>whnf
 by_cases a1:b.1.2.1=b.1.2.2
 ·rw [decide_eq_true a1];conv=>whnf
  subst cf;unfold RA;conv=>whnf
  refine Ew (x:=ar.cells [h0 (w (x*p)),h0 (w (x*m))]) (by first | exact qN.h | rfl | (simp [sm,I.settle];done)) ?_
  conv=>whnf
  rw [HO];conv=>whnf
  subst ca;unfold OT;conv=>whnf
  refine Ew (x:=ar.cells [h0 (w (x*w (p+w (m*b.1.2.1)))),h0 0]) (by first | exact qN.h | rfl | (simp [sm,I.settle];done)) ?_
  conv=>whnf
  have hP:HR b.1.2.1 b.1.2.2 x m p=((w (x*w (p+w (m*b.1.2.1)))),0):=by unfold HR;rw [if_pos a1]
  rw [hP] at bp;rcases Vx (k:=((w (x*w (p+w (m*b.1.2.1)))),0)) (v:=(p,m)) ah with ⟨i,ab,ae,aF⟩ | ⟨ab,ae,aF⟩
  ·refine ⟨rfl,_,_,rfl,some i,ab,?_⟩;(conv=>whnf);erw [ae,aF];by_cases aj:x=0
   ·rw [if_pos aj] at bp;rw [decide_eq_true aj];(conv=>whnf);exact bp _ _ _ (by simp)
   ·rw [if_neg aj] at bp;rw [decide_eq_false aj];(conv=>whnf);exact bp _ _ _ (by simp)
  ·refine ⟨rfl,_,_,rfl,none,ab,?_⟩;(conv=>whnf);erw [ae,aF];by_cases aj:x=0
   ·rw [if_pos aj] at bp;rw [decide_eq_true aj];(conv=>whnf);exact bp _ _ _ (by simp)
   ·rw [if_neg aj] at bp;rw [decide_eq_false aj];(conv=>whnf);exact bp _ _ _ (by simp)
 ·rw [decide_eq_false a1];conv=>whnf
  subst ca;unfold OT;conv=>whnf
  refine Ew (x:=ar.cells [h0 (w (x*p)),h0 (w (x*m))]) (by first | exact qN.h | rfl | (simp [sm,I.settle];done)) ?_
  conv=>whnf
  have hP:HR b.1.2.1 b.1.2.2 x m p=((w (x*p)),(w (x*m))):=by unfold HR;rw [if_neg a1]
  rw [hP] at bp;rcases Vx (k:=((w (x*p)),(w (x*m)))) (v:=(p,m)) ah with ⟨i,ab,ae,aF⟩ | ⟨ab,ae,aF⟩
  ·refine ⟨rfl,_,_,rfl,some i,ab,?_⟩;(conv=>whnf);erw [ae,aF];by_cases aj:x=0
   ·rw [if_pos aj] at bp;rw [decide_eq_true aj];(conv=>whnf);exact bp _ _ _ (by simp)
   ·rw [if_neg aj] at bp;rw [decide_eq_false aj];(conv=>whnf);exact bp _ _ _ (by simp)
  ·refine ⟨rfl,_,_,rfl,none,ab,?_⟩;(conv=>whnf);erw [ae,aF];by_cases aj:x=0
   ·rw [if_pos aj] at bp;rw [decide_eq_true aj];(conv=>whnf);exact bp _ _ _ (by simp)
   ·rw [if_neg aj] at bp;rw [decide_eq_false aj];(conv=>whnf);exact bp _ _ _ (by simp)
theorem abb {b:((List (Int×Int))×(Int×Int))×Unit} {x:Int} {a:Nat} (cu:a≤20) (aa_:x=0→a=0) {Y:List ar} {T:List I} {Q:cQ→List I→List ar→Prop}
  (b0:eZ [true,true,false,false,false,true,true,true,false,false,false,false,false,false,false,false,false,false,false,false,false,false,false,false,false,false,false,false,false,false,false,false,false,false,false,false,false,false,false,false,false,false,false,false,false,false,false,false,false,false,false,false,false,false,false,false,false,false,false,false,false,false,false,false,false,false,false,false,false,false,false,false,false,false,false,false,false,false,false,false,false,false,false,false,false,false,false,false,false,false,false,false,false,false,false,false,false,false,false,false,false,false,false,false,false,false,false,false,false,false,false,false,false,false,false,false,false,false,false,false,false,false,false] T=qb 123 [(0,lp b),(1,h0 x),(5,.map 0),(6,h0 ((a:Nat)-10)),(7,h0 0)])
  (aay:x=0→a=0→∀ qy Jn Jm Ki Kj,qy.length=Y.length+1→Q (.exit 0) (qb 123 [(0,lp b),(1,h0 x),(5,.map 0),(6,h0 ((a:Nat)-10)),(7,Jn),(21,Jm),(43,Ki),(63,Kj)]) (Kb (rY b.1.2.1 b.1.2.2 x 1)::qy))
  (bp:x≠0→∀ qy Jn Jm,qy.length=Y.length+101→Q (.exit 2) (qb 123 [(0,lp b),(1,h0 x),(5,.map 0),(6,h0 ((a:Nat)-10)),(7,Jn),(21,Jm)]) (Kb (rY b.1.2.1 b.1.2.2 x ((a+1)*101))::qy)) :
  dQ Try.prog KB 71 0 none OV T (Kb (rY b.1.2.1 b.1.2.2 x (a*101))::Y) Q:=by
 unfold OV;refine wp_loop b0 ?_;refine .intro (fun m T H=>∃ (q:Nat) (qy:List ar),q≤101∧qy.length=Y.length+q∧(x=0→q=0)∧m=101-q∧T=qb 123 [(0,lp b),(1,h0 x),(5,.map 0),(6,h0 ((a:Nat)-10)),(7,h0 q)]∧H=Kb (rY b.1.2.1 b.1.2.2 x (a*101+q))::qy) _ ⟨0,Y,sC _,rfl,fun _=>rfl,rfl,rfl,rfl⟩ ?_;clear b0;rintro m T H ⟨q,Sq,a_,aaG,Ov,rfl,rfl,rfl⟩;unfold Wh;obtain ⟨b6,iP⟩:∃ c,OU=c:=⟨_,rfl⟩;rw [iP];conv=>whnf
 refine HB (fun aR=>?_) (fun aR=>?_)
 ·conv=>whnf
  subst iP;have cJ:HM (rY b.1.2.1 b.1.2.2 x (a*101+q)) (HR b.1.2.1 b.1.2.2 x ((a:Nat)-10) (q:Nat)) ((q:Nat),(a:Nat)-10)=rY b.1.2.1 b.1.2.2 x (a*101+(q+1)):=by
   show _=HM (rY b.1.2.1 b.1.2.2 x (a*101+q)) (HR b.1.2.1 b.1.2.2 x (((a*101+q) / 101:Nat)-10) (((a*101+q) % 101:Nat))) ((((a*101+q) % 101:Nat):Int),(((a*101+q) / 101:Nat):Int)-10);rw [show (a*101+q) / 101=a by omega,show (a*101+q) % 101=q by omega]
  refine Zt (RR _ _ _ _) fun YC Ki Kj aaH=>?_;rw [cJ];by_cases aj:x=0
  ·rw [if_pos aj];have ab:=aa_ aj;have ae:=Ov aj;subst ab ae;(conv=>whnf);exact aay aj rfl _ _ _ _ _ (by omega)
  ·rw [if_neg aj];(conv=>whnf);(have rr:IntKind.i64.wrap ((q:Int)+1)=((q+1:Nat):Int):=by rw [HK _ (by omega) (by omega)];omega);exact ⟨101-(q+1),by omega,q+1,_,by omega,by omega,fun h=>absurd h aj,rfl,by rw [rr];rfl,rfl⟩
 ·have aa8:q=101:=by omega
  subst aa8;have aj:x≠0:=fun h=>absurd (Ov h) (by decide);conv=>whnf
  rw [show a*101+101=(a+1)*101 by omega];exact bp aj _ _ _ (by omega)
theorem adh {b:((List (Int×Int))×(Int×Int))×Unit} {x:Int} {T:List I} {Q:cQ→List I→List ar→Prop}
  (b0:eZ [true,true,false,false,false,true,true,false,false,false,false,false,false,false,false,false,false,false,false,false,false,false,false,false,false,false,false,false,false,false,false,false,false,false,false,false,false,false,false,false,false,false,false,false,false,false,false,false,false,false,false,false,false,false,false,false,false,false,false,false,false,false,false,false,false,false,false,false,false,false,false,false,false,false,false,false,false,false,false,false,false,false,false,false,false,false,false,false,false,false,false,false,false,false,false,false,false,false,false,false,false,false,false,false,false,false,false,false,false,false,false,false,false,false,false,false,false,false,false,false,false,false,false] T=qb 123 [(0,lp b),(1,h0 x),(5,.map 0),(6,h0 (-10))])
  (bp:∀ Y v6 Jn W8 Jm Ki Kj,Y.length=(if x=0 then 1 else 2121)→Q (.exit 0) (qb 123 [(0,lp b),(1,h0 x),(5,.map 0),(6,v6),(7,Jn),(17,W8),(21,Jm),(43,Ki),(63,Kj)]) (Kb (rY b.1.2.1 b.1.2.2 x (if x=0 then 1 else 2121))::Y)) :
  dQ Try.prog KB 71 0 none OX T [.map [] 0] Q:=by
 unfold OX;refine wp_loop b0 ?_;refine .intro (fun m T H=>∃ (a:Nat) (Y:List ar),a≤21∧Y.length=a*101∧(x=0→a=0)∧m=21-a∧T=qb 123 [(0,lp b),(1,h0 x),(5,.map 0),(6,h0 ((a:Nat)-10))]∧H=Kb (rY b.1.2.1 b.1.2.2 x (a*101))::Y) _ ⟨0,[],sC _,rfl,fun _=>rfl,rfl,rfl,rfl⟩ ?_;clear b0;rintro m T H ⟨a,Y,cu,aaE,T_,rfl,rfl,rfl⟩;unfold Wj Wi;obtain ⟨b6,iP⟩:∃ c,OV=c:=⟨_,rfl⟩;rw [iP];conv=>whnf
 refine HB (fun aR=>?_) (fun aR=>?_)
 ·conv=>whnf
  subst iP;refine abb (a:=a) (by omega) T_ (by exact rfl) (fun aj aQ Y Jn Jm Ki Kj aaF=>?_) (fun aj Y Jn Jm aaF=>?_)
  ·(conv=>whnf);have:=bp Y;rw [if_pos aj] at this;exact this _ _ _ _ _ _ (by subst aQ;omega)
  ·(conv=>whnf);(have rr:IntKind.i64.wrap (((a:Nat):Int)-10+1)=((a+1:Nat):Int)-10:=by rw [HK _ (by omega) (by omega)];omega);exact ⟨21-(a+1),by omega,a+1,_,by omega,by omega,fun h=>absurd h aj,rfl,by rw [rr];rfl,rfl⟩
 ·have aaJ:a=21:=by omega
  subst aaJ;have aj:x≠0:=fun h=>absurd (T_ h) (by decide);conv=>whnf
  have:=bp Y;rw [if_neg aj] at this;exact this _ _ _ _ _ _ (by omega)
theorem Qj:∃ m,qn=m+2:=⟨qn-2,rfl⟩
theorem My (lo hi n:Int):IB lo hi [n]=some (decide (lo≤n) && decide (n≤hi)):=by
 obtain ⟨m,hm⟩:=Qj;have aar:Lv n lo hi=some (!(decide (lo≤n) && decide (n≤hi))):=by
  unfold Lv;by_cases ab:n<lo
  ·rw [if_pos (decide_eq_true ab),decide_eq_false (show ¬ lo≤n by omega)];rfl
  ·rw [if_neg (by simpa using ab),decide_eq_true (show lo≤n by omega)];by_cases ae:hi<n
   ·rw [decide_eq_true ae,decide_eq_false (show ¬ n≤hi by omega)];rfl
   ·rw [decide_eq_false ae,decide_eq_true (show n≤hi by omega)];rfl
 unfold IB NZ N1;rw [hm,JD.eq_2,if_pos (show decide ((0:Int)<(([n]:List Int).length:Int))=true from rfl),qS ⟨sS _,show (0:Int)<(1:Int) by decide⟩,show ix [n] (0:Int)=n from rfl,aar,sa];cases ak:(decide (lo≤n) && decide (n≤hi))
 ·rfl
 ·rw [show w (0+1:Int)=1 from rfl,JD.eq_2];rfl
def MB (b:((List (Int×Int))×(Int×Int))×Unit) (x:Int):Option qY :=
 qI (b.1.1.length≤1000) <|
 (JZ b (w (b.1.1.length-1))).bind fun far =>
 some ((rY b.1.2.1 b.1.2.2 x (if x=0 then 1 else 2121)).1.filter fun a=>decide (w (-(I1 far b.1.2.1 b.1.1 0))≤a.2.1.1) && decide (a.2.1.1≤I1 far b.1.2.1 b.1.1 0))
theorem agr {b:((List (Int×Int))×(Int×Int))×Unit} {x:Int} {A:qY} (h:MB b x=some A):∃ (c:Nat) (D:List ar),Sem Try.prog (.fn 71) [lp b,h0 x] [] 0 (.map 0) (.map (q2 A) c::D):=by
 unfold MB at h;obtain ⟨aI,h⟩:=Hj h;obtain ⟨far,QJ,h⟩:=p8 h;obtain rfl:=Option.some.inj h;obtain ⟨N,CB⟩:∃ N,N=(if x=0 then 1 else 2121)+b.1.1.length+1+(rY b.1.2.1 b.1.2.2 x (if x=0 then 1 else 2121)).1.length:=⟨_,rfl⟩;refine ⟨(rY b.1.2.1 b.1.2.2 x (if x=0 then 1 else 2121)).2,List.replicate N .dead,?_⟩;refine re eG ab0 rfl (Iw (sC _)) fun Q bp=>?_;unfold We;obtain ⟨agO,TU⟩:∃ c,RD=c:=⟨_,rfl⟩;obtain ⟨b6,iP⟩:∃ c,OX=c:=⟨_,rfl⟩;rw [TU,iP];conv=>whnf
 subst iP;refine adh (b:=b) (x:=x) (by exact rfl) fun Y v6 Jn W8 Jm Ki Kj aaE=>?_;conv=>whnf
 subst TU;unfold RD Wg;obtain ⟨agN,TT⟩:∃ c,OS=c:=⟨_,rfl⟩;obtain ⟨bt,eS⟩:∃ c,OW=c:=⟨_,rfl⟩;rw [TT,eS];conv=>whnf
 refine ⟨p4 (H0 b) (p4 rfl rfl),_,Kw QJ,?_⟩;conv=>whnf
 subst eS;refine ac7 (b:=b) (far:=far) aI (by exact rfl) fun YC O_ aaH=>?_;conv=>whnf
 subst TT;refine aeF (f:=fun k=>decide (w (-(I1 far b.1.2.1 b.1.1 0))≤k) && decide (k≤I1 far b.1.2.1 b.1.1 0)) (RR _ _ _ _) (fun a _=>My _ _ _) fun T agG ag4 b0=>?_;refine bp _ _ _ ⟨.inr rfl,⟨by simp;omega,fun id o aq=>?_⟩,by simp only [rB,b0,jg,sd]⟩;cases id with
 | zero=>exact .inr aq
 | succ id =>
   refine .inl ?_
   have:(List.replicate N ar.dead)[id]?=some o:=aq
   rw [List.getElem?_replicate] at this;split at this
   ·exact (Option.some.inj this).symm
   ·cases this

noncomputable def Yi:gE :=
 p2 [p0 1 [.jq 0] .box,p0 2 [.cv (.bool false)] .mU] (p2 [p0 3 [.nc 1] (.yM 0),qf 4 3,qu 5 4 0 .geq,p1 6 5,cl 7 [.nc 1] 6 true (.yM 0),cl 8 [.Bs 7] 6 true (.zE .one),cl 9 [.Bs 8,.cv (.int .i64 100)] 6 true (.bin .leq),p0 10 [.Bs 6,.Bs 9,.cv (.bool false)] .pick,p1 11 10,cl 12 [.nc 1] 11 true (.yM 1),cl 13 [.Bs 12] 11 true (.zE .one),cl 14 [.Bs 13,.cv (.int .i64 (-10))] 11 true (.bin .geq),p0 15 [.Bs 11,.Bs 14,.cv (.bool false)] .pick,p1 16 15,cl 17 [.Bs 1] 16 true (.yM 1),cl 18 [.Bs 17] 16 true (.zE .one),cl 19 [.Bs 18,.cv (.int .i64 10)] 16 true (.bin .leq),p0 20 [.Bs 16,.Bs 19,.cv (.bool false)] .pick,p1 2 20] .ret)
theorem acJ:qj Try.prog SY 45=some (Yi,21,[.tmp 2]):=by kernel_rfl
def Lr (s:(Int×Int)):Option Bool :=
 if (decide ((0:Int)≤s.1))=true then
  if (decide (s.1≤(100:Int)))=true then
   if (decide ((-10:Int)≤s.2))=true then
    some (decide (s.2≤(10:Int)))
   else
    some false
  else
   some false
 else
  some false
theorem R7 {s:(Int×Int)} {v:Bool} (h:Lr s=some v):qt 45 [(.agg [(h0 s.1),(h0 s.2)])] (B v):=by
 refine qD eG acJ rfl rfl fun Q bp=>?_;have jJ:qC [.tmp 2] Q (fun v=>(B v)) v:=fun T H bE=>bp _ T H bE;unfold Lr at h;unfold Yi;conv=>whnf
 refine bs h (fun gM h=>?_) fun gM h=>?_
 ·rw [gM];conv=>whnf
  refine bs h (fun gN h=>?_) fun gN h=>?_
  ·rw [gN];(conv=>whnf);refine bs h (fun qp h=>?_) fun qp h=>?_
   ·rw [qp];(conv=>whnf);exact p9 h jJ rfl rfl
   ·rw [qp];(conv=>whnf);exact p9 h jJ rfl rfl
  ·rw [gN];(conv=>whnf);exact p9 h jJ rfl rfl
 ·rw [gM];conv=>whnf
  exact p9 h jJ rfl rfl

noncomputable def PA:gE :=
 .loop (some (p_ false [1,1,1,2,44])) (.seq (p2 [p3 18 4,p3 19 3,qs 20 18 19 .lss] (.cond (.nc 20) .skip (.exit 0))) (.seq (.block 1 (p2 [p0 23 [.nc 1] (.yM 0),qf 24 23,p3 25 4,rn 26 24 25 2,p0 27 [.Bs 26] (.zE (.str 2)),p0 28 [.cv (.func 45 [] []),.nc 27] (.call 3),p0 29 [.Bs 28] (.un .not)] (.cond (.nc 29) (p2 [p' 2 3] .ret) .skip))) (qM [p1 21 4,qU 22 21 1,p1 4 22])))
noncomputable def PB:gE :=
 .seq (p2 [p' 4 0] (.block 0 PA)) (.seq (p2 [p0 30 [.nc 1] (.yM 1),qv 31 30 0,qf 32 31,qu 33 32 0 .lss,p1 34 33,cl 35 [.nc 1] 34 false (.yM 1),cl 36 [.Bs 35] 34 false (.yM 0),cl 37 [.Bs 36] 34 false (.zE .one),cl 38 [.nc 1] 34 false (.yM 1),cl 39 [.Bs 38] 34 false (.yM 1),cl 40 [.Bs 39] 34 false (.zE .one),cl 41 [.Bs 37,.Bs 40] 34 false (.bin .gtr),p0 42 [.Bs 34,.cv (.bool true),.Bs 41] .pick,p1 43 42,cl 44 [.Bs 1] 43 false (.yM 1),cl 45 [.Bs 44] 43 false (.yM 1),cl 46 [.Bs 45] 43 false (.zE .one),cl 47 [.Bs 46,.cv (.int .i64 50)] 43 false (.bin .gtr),p0 48 [.Bs 43,.cv (.bool true),.Bs 47] .pick] (.cond (.nc 48) (p2 [p' 2 3] .ret) .skip)) (p2 [p' 2 0] .ret))
noncomputable def Ye:gE :=
 p2 [p0 1 [.jq 0] .box,p' 2 0] (p2 [p0 5 [.nc 1] (.yM 0),qf 6 5,qW 7 6,p1 3 7] (.seq (p2 [p3 8 3,qu 9 8 3 .neq,p1 10 9,cl 11 [.nc 3] 10 true .mU,cl 12 [.Bs 11,.cv (.int .i64 5)] 10 true (.bin .neq),p0 13 [.Bs 10,.Bs 12,.cv (.bool false)] .pick,p1 14 13,cl 15 [.nc 3] 14 true .mU,cl 16 [.Bs 15,.cv (.int .i64 7)] 14 true (.bin .neq),p0 17 [.Bs 14,.Bs 16,.cv (.bool false)] .pick] (.cond (.nc 17) (p2 [p' 2 6] .ret) .skip)) PB))
theorem acF:qj Try.prog N5 17=some (Ye,49,[.tmp 2]):=by kernel_rfl
def Lp (p:(qg×(Int×Int))) (Hq:Unit→Option Int):Nat→Int→Option Int
 | 0,_=>none
 | m+1,s1 =>
   if (decide (s1<(p.1.length:Int)))=true then
    qI (0≤s1∧s1<(p.1.length:Int)) <|
    (Lr (ix p.1 s1)).bind fun aS =>
    if aS=true then
     Lp p Hq m (w (s1+(1:Int)))
    else
     some (3:Int)
   else
    Hq ()
def Lo (p:(qg×(Int×Int)))  : Option Int :=
 Lp p (fun _ =>
   if (decide (p.2.1<(0:Int)))=true then
    some (3:Int)
   else
    if (decide (p.2.2<p.2.1))=true then
     some (3:Int)
    else
     if (decide ((50:Int)<p.2.2))=true then
      some (3:Int)
     else
      some (0:Int)) qn (0:Int)
def Ln (p:(qg×(Int×Int))):Option Int :=
 if (decide ((p.1.length:Int)≠(3:Int)))=true then
  if (decide ((p.1.length:Int)≠(5:Int)))=true then
   if (decide ((p.1.length:Int)≠(7:Int)))=true then
    some (6:Int)
   else
    Lo p
  else
   Lo p
 else
  Lo p
theorem agb {p:(qg×(Int×Int))} {Hq:Unit→Option Int} {s1:Int} {v:Int} {Q:H6}   (jJ:qC [.tmp 2] Q (fun v=>(h0 v)) v) (K0:∀ (qh:List I),Hq ()=some v→rO 49 [(1,(.ptr 0 0))] qh→Q (.exit 0) qh [ar.cells [(q9 p.1 .shared),(h0 p.2.1),(h0 p.2.2)]]) {T:List I} (b0:eZ (p_ false [1,1,1,2,44]) T=qb 49 [(1,(.ptr 0 0)),(3,(h0 (p.1.length:Int))),(4,(h0 s1))]) (h:Lp p Hq qn s1=some v) :
  dQ Try.prog N5 17 0 none PA T [ar.cells [(q9 p.1 .shared),(h0 p.2.1),(h0 p.2.2)]] Q:=by
 unfold PA;refine wp_loop b0 ?_;refine .intro (fun m T H=>∃ (s1:Int),T=qb 49 [(1,(.ptr 0 0)),(3,(h0 (p.1.length:Int))),(4,(h0 s1))]∧H=[ar.cells [(q9 p.1 .shared),(h0 p.2.1),(h0 p.2.2)]]∧Lp p Hq m s1=some v) qn ⟨s1,rfl,rfl,h⟩ ?_;clear h b0;rintro m T H ⟨s1,rfl,rfl,h⟩;cases m
 ·exact Hr h
 rename_i m;rw [Lp.eq_2] at h;conv=>whnf
 refine bs h (fun qE h=>?_) fun qE h=>?_
 ·rw [qE];conv=>whnf
  refine q8 h id fun qX h=>?_;rw [IY p7 2 LY p.1 s1 qX];conv=>whnf
  obtain ⟨aS,rG,h⟩:=p8 h;refine ⟨qd.pl,_,R7 rG,?_⟩;conv=>whnf
  cases aS
  ·(conv=>whnf);replace h:=Ho rfl h;exact p9 h jJ rfl rfl
  ·(conv=>whnf);replace h:=Hp rfl h;exact ⟨m,sG m,(w (s1+(1:Int))),rfl,rfl,h⟩
 ·rw [qE];conv=>whnf
  exact K0  _ h ⟨rfl,rfl⟩
theorem R4 {p:(qg×(Int×Int))} {v:Int} {Q:H6}  {qh:List I}  (jJ:qC [.tmp 2] Q (fun v=>(h0 v)) v) (qK:rO 49 [(1,(.ptr 0 0)),(3,(h0 (p.1.length:Int)))] qh) (h:Lo p  = some v) :
  dQ Try.prog N5 17 0 none PB qh [ar.cells [(q9 p.1 .shared),(h0 p.2.1),(h0 p.2.2)]] Q:=by
 obtain ⟨rT,rfl⟩:=qK.ex;unfold Lo at h;unfold PB;obtain ⟨H9,qG⟩:∃ c,PA=c:=⟨_,rfl⟩;rw [qG];conv=>whnf
 subst qG;refine agb ?_ ?_ (by exact rfl) h
 ·exact fun T H bE=>jJ T H bE
 ·intro  qh h qK;obtain ⟨rT,rfl⟩:=qK.ex;conv=>whnf
  refine bs h (fun qR h=>?_) fun qR h=>?_
  ·rw [qR];(conv=>whnf);exact p9 h jJ rfl rfl
  ·rw [qR];(conv=>whnf);refine bs h (fun rU h=>?_) fun rU h=>?_
   ·rw [rU];(conv=>whnf);exact p9 h jJ rfl rfl
   ·rw [rU];(conv=>whnf);refine bs h (fun rJ h=>?_) fun rJ h=>?_
    ·rw [rJ];(conv=>whnf);exact p9 h jJ rfl rfl
    ·rw [rJ];(conv=>whnf);exact p9 h jJ rfl rfl
theorem R5 {p:(qg×(Int×Int))} {v:Int} (h:Ln p=some v):qt 17 [(.agg [(.av (p.1.flatMap p7) p.1.length .shared),(h0 p.2.1),(h0 p.2.2)])] (h0 v):=by
 refine qD eG acF rfl rfl fun Q bp=>?_;have jJ:qC [.tmp 2] Q (fun v=>(h0 v)) v:=fun T H bE=>bp _ T H bE;unfold Ln at h;unfold Ye;obtain ⟨LH,Hi⟩:∃ c,PB=c:=⟨_,rfl⟩;rw [Hi];conv=>whnf
 refine bs h (fun gM h=>?_) fun gM h=>?_
 ·rw [gM];conv=>whnf
  refine bs h (fun gN h=>?_) fun gN h=>?_
  ·rw [gN];(conv=>whnf);refine bs h (fun qp h=>?_) fun qp h=>?_
   ·rw [qp];(conv=>whnf);exact p9 h jJ rfl rfl
   ·rw [qp];(conv=>whnf);subst Hi;refine R4 ?_ (by exact ⟨rfl,rfl⟩) h;exact fun T H bE=>jJ T H bE
  ·rw [gN];(conv=>whnf);subst Hi;refine R4 ?_ (by exact ⟨rfl,rfl⟩) h;exact fun T H bE=>jJ T H bE
 ·rw [gM];conv=>whnf
  subst Hi;refine R4 ?_ (by exact ⟨rfl,rfl⟩) h;exact fun T H bE=>jJ T H bE

noncomputable def PG:gE :=
 .loop (some (p_ false [0,2,3,1,12])) (.seq (p2 [p3 6 5,p3 7 0,qW 8 7,qs 9 6 8 .lss] (.cond (.nc 9) .skip (.exit 0))) (.seq (.block 1 (p2 [p3 12 0,p3 13 5,rn 14 12 13 1,qf 15 14,p3 16 1,qs 17 15 16 .eql] (.cond (.nc 17) (p2 [p0 4 [.cv (.bool true)] .mU] .ret) .skip))) (qM [p1 10 5,qU 11 10 1,p1 5 11])))
noncomputable def Yo:gE :=
 p2 [p0 4 [.cv (.bool false)] .mU] (.seq (p2 [p' 5 0] (.block 0 PG)) (p2 [p0 4 [.cv (.bool false)] .mU] .ret))
theorem acP:qj Try.prog PU 26=some (Yo,18,[.tmp 4]):=by kernel_rfl
def Lu (l:qk) (n:Int) (qe:Unit→Option Bool):Nat→Int→Option Bool
 | 0,_=>none
 | m+1,s1 =>
   if (decide (s1<(l.length:Int)))=true then
    qI (0≤s1∧s1<(l.length:Int)) <|
    if (decide ((ix l s1)=n))=true then
     some true
    else
     Lu l n qe m (w (s1+(1:Int)))
   else
    qe ()
def NY (l:qk) (n:Int):Option Bool :=
 Lu l n (fun _ =>
   some false) qn (0:Int)
theorem agl {l:qk} {n:Int} {qe:Unit→Option Bool} {s1:Int} {v:Bool} {Q:H6}   (jJ:qC [.tmp 4] Q (fun v=>(B v)) v) (ry:∀ (qh:List I),qe ()=some v→rO 18 [] qh→Q (.exit 0) qh []) {T:List I} (b0:eZ (p_ false [0,2,3,1,12]) T=qb 18 [(0,(q3 l .shared)),(1,(h0 n)),(5,(h0 s1))]) (h:Lu l n qe qn s1=some v) :
  dQ Try.prog PU 26 0 none PG T [] Q:=by
 unfold PG;refine wp_loop b0 ?_;refine .intro (fun m T H=>∃ (s1:Int),T=qb 18 [(0,(q3 l .shared)),(1,(h0 n)),(5,(h0 s1))]∧H=[]∧Lu l n qe m s1=some v) qn ⟨s1,rfl,rfl,h⟩ ?_;clear h b0;rintro m T H ⟨s1,rfl,rfl,h⟩;cases m
 ·exact Hr h
 rename_i m;rw [Lu.eq_2] at h;conv=>whnf
 refine bs h (fun gM h=>?_) fun gM h=>?_
 ·rw [gM];conv=>whnf
  refine q8 h id fun gN h=>?_;rw [rD h0 l s1 gN];conv=>whnf
  refine bs h (fun qp h=>?_) fun qp h=>?_
  ·rw [qp];(conv=>whnf);exact p9 h jJ rfl rfl
  ·rw [qp];(conv=>whnf);exact ⟨m,sG m,(w (s1+(1:Int))),rfl,rfl,h⟩
 ·rw [gM];conv=>whnf
  exact ry  _ h ⟨rfl,rfl⟩
theorem agm {l:qk} {n:Int} {v:Bool} (h:NY l n=some v):qt 26 [(.av (l.map h0) l.length .shared),(h0 n)] (B v):=by
 refine qD eG acP rfl rfl fun Q bp=>?_;have jJ:qC [.tmp 4] Q (fun v=>(B v)) v:=fun T H bE=>bp _ T H bE;unfold NY at h;unfold Yo;obtain ⟨H9,qG⟩:∃ c,PG=c:=⟨_,rfl⟩;rw [qG];conv=>whnf
 subst qG;refine agl ?_ ?_ (by exact rfl) h
 ·exact fun T H bE=>jJ T H bE
 ·intro  qh h qK;obtain ⟨rT,rfl⟩:=qK.ex;conv=>whnf
  exact p9 h jJ rfl rfl

noncomputable def PC:gE :=
 .loop (some (p_ false [1,2,2,1,42])) (.seq (p2 [p3 17 5,p3 18 1,qW 19 18,qs 20 17 19 .lss] (.cond (.nc 20) .skip (.exit 0))) (.seq (.block 1 (.seq (qT [p3 23 1,p3 24 5,rn 25 23 24 1,qf 26 25,qu 27 26 0 .lss,p1 28 27,cl 29 [.nc 1] 28 false .mU,cl 30 [.nc 5] 28 false .mU,cl 31 [.Bs 29,.Bs 30] 28 false (.kY 1),cl 32 [.Bs 31] 28 false (.zE .one),cl 33 [.nc 2] 28 false (.yM 0),cl 34 [.Bs 33] 28 false (.zE .one),cl 35 [.jq 34] 28 false .zJ,cl 36 [.Bs 32,.Bs 35] 28 false (.bin .geq),p0 37 [.nc 28,.cv (.bool true),.Bs 36] .pick,p1 38 37,cl 39 [.nc 1] 38 false .mU,cl 40 [.nc 5] 38 false .mU,⟨some 41,[.jq 39,.jq 40],some (38,false),none,.Bh 1 false true false⟩,cl 42 [.nc 1] 38 false .mU,cl 43 [.nc 5] 38 false .mU,cl 44 [.Bs 42,.Bs 43] 38 false (.kY 1),cl 45 [.Bs 44] 38 false (.zE .one),⟨some 46,[.cv (.func 26 [] []),.nc 41,.nc 45],some (38,false),none,.call 3⟩,p0 47 [.nc 38,.cv (.bool true),.Bs 46] .pick]) (.cond (.nc 47) (p2 [p' 4 16] .ret) .skip))) (qM [p1 21 5,qU 22 21 1,p1 5 22])))
noncomputable def Yh:gE :=
 p2 [p0 2 [.jq 0] .box,p' 4 0] (.seq (p2 [p0 6 [.nc 2] (.zE (.str 3)),p0 7 [.cv (.func 17 [] []),.nc 6] (.call 3),qu 8 7 0 .neq] (.cond (.nc 8) (p2 [p0 9 [.Bs 2] (.zE (.str 3)),p0 10 [.cv (.func 17 [] []),.nc 9] (.call 3),p1 4 10] .ret) .skip)) (.seq (p2 [p3 11 1,qW 12 11,p0 13 [.nc 2] (.yM 0),qf 14 13,qW 15 14,qs 16 12 15 .neq] (.cond (.nc 16) (p2 [p' 4 16] .ret) .skip)) (.seq (p2 [p' 5 0] (.block 0 PC)) (p2 [p' 4 0] .ret))))
theorem acI:qj Try.prog PW 39=some (Yh,48,[.tmp 4]):=by kernel_rfl
def Lq (p:(qg×(Int×Int))) (order:qk) (qe:Unit→Option Int):Nat→Int→Option Int
 | 0,_=>none
 | m+1,s1 =>
   if (decide (s1<(order.length:Int)))=true then
    qI (0≤s1∧s1<(order.length:Int)) <|
    if (decide ((ix order s1)<(0:Int)))=true then
     some (16:Int)
    else
     qI (0≤s1∧s1<(order.length:Int)) <|
     if (decide ((p.1.length:Int)≤(ix order s1)))=true then
      some (16:Int)
     else
      qI (0≤s1∧s1≤(order.length:Int)) <|
      qI (0≤s1∧s1<(order.length:Int)) <|
      (NY (order.take s1.toNat) (ix order s1)).bind fun eK =>
      if eK=true then
       some (16:Int)
      else
       Lq p order qe m (w (s1+(1:Int)))
   else
    qe ()
def JC (p:(qg×(Int×Int))) (order:qk):Option Int :=
 (Ln p).bind fun aS =>
 if (decide (aS≠(0:Int)))=true then
  (Ln p).bind fun bj =>
  some bj
 else
  if (decide ((order.length:Int)≠(p.1.length:Int)))=true then
   some (16:Int)
  else
   Lq p order (fun _ =>
     some (0:Int)) qn (0:Int)
theorem agd {p:(qg×(Int×Int))} {order:qk} {qe:Unit→Option Int} {s1:Int} {v:Int} {Q:H6}   (jJ:qC [.tmp 4] Q (fun v=>(h0 v)) v) (ry:∀ (bx:ar) (qh:List I),qe ()=some v→rO 48 [] qh→Q (.exit 0) qh [bx]) {T:List I} (b0:eZ (p_ false [1,2,2,1,42]) T=qb 48 [(1,(q3 order .shared)),(2,(.ptr 0 0)),(5,(h0 s1))]) (h:Lq p order qe qn s1=some v) :
  dQ Try.prog PW 39 0 none PC T [ar.cells [(q9 p.1 .shared),(h0 p.2.1),(h0 p.2.2)]] Q:=by
 unfold PC;refine wp_loop b0 ?_;refine .intro (fun m T H=>∃ (s1:Int),T=qb 48 [(1,(q3 order .shared)),(2,(.ptr 0 0)),(5,(h0 s1))]∧H=[ar.cells [(q9 p.1 .shared),(h0 p.2.1),(h0 p.2.2)]]∧Lq p order qe m s1=some v) qn ⟨s1,rfl,rfl,h⟩ ?_;clear h b0;rintro m T H ⟨s1,rfl,rfl,h⟩;cases m
 ·exact Hr h
 rename_i m;rw [Lq.eq_2] at h;conv=>whnf
 refine bs h (fun qX h=>?_) fun qX h=>?_
 ·rw [qX];conv=>whnf
  refine q8 h id fun rG h=>?_;rw [rD h0 order s1 rG];conv=>whnf
  refine bs h (fun qR h=>?_) fun qR h=>?_
  ·rw [qR];(conv=>whnf);exact p9 h jJ rfl rfl
  ·rw [qR];(conv=>whnf);refine q8 h id fun rU h=>?_;rw [rD h0 order s1 rU];(conv=>whnf);refine bs h (fun rJ h=>?_) fun rJ h=>?_
   ·rw [rJ];(conv=>whnf);exact p9 h jJ rfl rfl
   ·rw [rJ];(conv=>whnf);refine q8 h id fun rW h=>?_;erw [aeU h0 order s1 rW];(conv=>whnf);refine q8 h id fun Ja h=>?_;rw [rD h0 order s1 Ja];(conv=>whnf);obtain ⟨eK,Jb,h⟩:=p8 h;refine ⟨qd.pl,_,agm Jb,q',?_⟩;(conv=>whnf);cases eK
    ·(conv=>whnf);replace h:=Ho rfl h;exact ⟨m,sG m,(w (s1+(1:Int))),rfl,rfl,h⟩
    ·(conv=>whnf);replace h:=Hp rfl h;exact p9 h jJ rfl rfl
 ·rw [qX];conv=>whnf
  exact ry _ _ h ⟨rfl,rfl⟩
theorem Mz {p:(qg×(Int×Int))} {order:qk} {v:Int} (h:JC p order=some v):qt 39 [(.agg [(.av (p.1.flatMap p7) p.1.length .shared),(h0 p.2.1),(h0 p.2.2)]),(.av (order.map h0) order.length .shared)] (h0 v):=by
 refine qD eG acI rfl rfl fun Q bp=>?_;have jJ:qC [.tmp 4] Q (fun v=>(h0 v)) v:=fun T H bE=>bp _ T H bE;unfold JC at h;unfold Yh;obtain ⟨H9,qG⟩:∃ c,PC=c:=⟨_,rfl⟩;rw [qG];conv=>whnf
 obtain ⟨aS,gM,h⟩:=p8 h;refine ⟨qd.pl,_,R5 gM,?_⟩;conv=>whnf
 refine bs h (fun gN h=>?_) fun gN h=>?_
 ·rw [gN];conv=>whnf
  obtain ⟨bj,qp,h⟩:=p8 h;refine ⟨qd.pl,_,R5 qp,?_⟩;conv=>whnf
  exact p9 h jJ rfl rfl
 ·rw [gN];conv=>whnf
  refine bs h (fun qE h=>?_) fun qE h=>?_
  ·rw [qE];(conv=>whnf);exact p9 h jJ rfl rfl
  ·rw [qE];(conv=>whnf);subst qG;refine agd ?_ ?_ (by exact rfl) h
   ·exact fun T H bE=>jJ T H bE
   ·intro bx qh h qK;obtain ⟨rT,rfl⟩:=qK.ex;(conv=>whnf);exact p9 h jJ rfl rfl
end Go.Proofs.Ytkoioidpbbbaiaa.Ab


namespace Go.Proofs.Ytkoioidpbbbaiaa.Ab
open Go
set_option maxRecDepth 20000
set_option maxHeartbeats 1000000
def ri (p:qc):Int:=if p.1.length=3∨p.1.length=5∨p.1.length=7 then (if (∀ s∈p.1,qH s)∧0≤p.2.1∧p.2.1≤p.2.2∧p.2.2≤50 then 0 else 3) else 6
theorem XH (s:qw):Lr s=some (decide (qH s)):=by
 unfold Lr qH;by_cases ab:0≤s.1
 ·rw [if_pos (decide_eq_true ab)];by_cases ae:s.1≤100
  ·rw [if_pos (decide_eq_true ae)];by_cases aF:-10≤s.2
   ·rw [if_pos (decide_eq_true aF)];simp [ab,ae,aF]
   ·rw [if_neg (by simpa using aF)];simp [aF]
  ·rw [if_neg (by simpa using ae)];simp [ae]
 ·rw [if_neg (by simpa using ab)];simp [ab]
theorem UD {p:qc} (aB:p.1.length≤1000) {K:Option Int}:∀ (m i:Nat),i≤p.1.length→p.1.length-i<m→(∀ j,j<i→qH (ix p.1 (j:Int))) →
  Lp p (fun _=>K) m (i:Int)=if ∀ s∈p.1,qH s then K else some 3
 | 0,_,_,h,_=>absurd h (by omega)
 | m+1,i,hi,hm,aw=>by
   rw [Lp];by_cases aR:i<p.1.length
   ·rw [if_pos (decide_eq_true (by omega)),qS (by omega),XH,sa,Jo i (by omega)];by_cases al:qH (ix p.1 (i:Int))
    ·rw [if_pos (decide_eq_true al)];refine UD aB m (i+1) (by omega) (by omega) fun j gi=>?_;by_cases e:j=i
     ·rw [e];exact al
     ·exact aw j (by omega)
    ·rw [if_neg (by simpa using al),if_neg];exact fun c1=>al (c1 _ (J' (by omega)))
   ·rw [if_neg (by simpa using by omega),if_pos];intro s ah;obtain ⟨j,ef,rfl⟩:=uR ah;have:=aw j (by omega)
    rwa [rK ef] at this
theorem XE {p:qc} (aB:p.1.length≤1000):Ln p=some (ri p):=by
 have aw:Lo p=some (if (∀ s∈p.1,qH s)∧0≤p.2.1∧p.2.1≤p.2.2∧p.2.2≤50 then 0 else 3):=by
  unfold Lo;rw [show (0:Int)=((0:Nat):Int) from rfl,UD aB qn 0 (by omega) (I8 (by omega)) (fun j h=>absurd h (by omega))];by_cases h:∀ s∈p.1,qH s
  ·rw [if_pos h];by_cases ab:p.2.1<0
   ·rw [if_pos (decide_eq_true (by exact ab)),if_neg (by omega)]
   ·rw [if_neg (by simpa using by omega)];by_cases ae:p.2.2<p.2.1
    ·rw [if_pos (decide_eq_true ae),if_neg (by omega)]
    ·rw [if_neg (by simpa using by omega)];by_cases aF:50<p.2.2
     ·rw [if_pos (decide_eq_true aF),if_neg (by omega)]
     ·rw [if_neg (by simpa using by omega),if_pos ⟨h,by omega,by omega,by omega⟩]
  ·rw [if_neg h,if_neg (fun k=>h k.1)]
 unfold Ln ri;by_cases aF:p.1.length=3
 ·rw [if_neg (by simp [aF]),if_pos (.inl aF),aw]
 ·rw [if_pos (decide_eq_true (by omega))];by_cases bP:p.1.length=5
  ·rw [if_neg (by simp [bP]),if_pos (.inr (.inl bP)),aw]
  ·rw [if_pos (decide_eq_true (by omega))];by_cases cO:p.1.length=7
   ·rw [if_neg (by simp [cO]),if_pos (.inr (.inr cO)),aw]
   ·rw [if_pos (decide_eq_true (by omega)),if_neg (by omega)]
theorem XF (s:qw):Ks s=some (!decide (qH s)):=by
 unfold Ks;rw [My,sa];unfold qH;by_cases h:0≤s.1∧s.1≤100
 ·rw [if_pos (by simp [h.1,h.2]),My,sa];by_cases ae:-10≤s.2 <;> by_cases aF:s.2≤10 <;> simp [h.1,h.2,ae,aF]
 ·rw [if_neg (by simpa using h)];rw [decide_eq_false (show ¬ (0≤s.1∧s.1≤100∧-10≤s.2∧s.2≤10) from fun k=>h ⟨k.1,k.2.1⟩)];rfl
theorem Uv {S:List qw} (aB:S.length≤1000):∀ (m i:Nat),i≤S.length→S.length-i<m→(∀ j,j<i→qH (ix S (j:Int))) →
  ∃ r,Lh S (fun q4=>Ks q4) (fun _=>some (-1:Int)) m (i:Int)=some r∧decide (0≤r)=!decide (∀ s∈S,qH s)
 | 0,_,_,h,_=>absurd h (by omega)
 | m+1,i,hi,hm,aw=>by
   rw [Lh];by_cases aR:i<S.length
   ·rw [if_pos (decide_eq_true (by omega)),qS (by omega),XF,sa,Jo i (by omega)];by_cases al:qH (ix S (i:Int))
    ·rw [if_neg (by simpa using al)];refine Uv aB m (i+1) (by omega) (by omega) fun j gi=>?_;by_cases e:j=i
     ·rw [e];exact al
     ·exact aw j (by omega)
    ·rw [if_pos (by simpa using al)];refine ⟨_,rfl,?_⟩;rw [decide_eq_true (by omega),decide_eq_false fun c1=>al (c1 _ (J' (by omega)))];rfl
   ·rw [if_neg (by simpa using by omega)];refine ⟨-1,rfl,?_⟩;rw [decide_eq_false (by omega),decide_eq_true];rfl;intro s ah;obtain ⟨j,ef,rfl⟩:=uR ah;have:=aw j (by omega)
    rwa [rK ef] at this
theorem agt {S:List qw} (aB:S.length≤1000):N0 S (fun q4=>Ks q4)=some (!decide (∀ s∈S,qH s)):=by
 unfold N0 Pc;obtain ⟨r,ab,ae⟩:=Uv aB qn 0 (by omega) (I8 (by omega)) (fun j h=>absurd h (by omega));rw [show (0:Int)=((0:Nat):Int) from rfl,ab,sa];exact congrArg some ae
theorem XQ (n lo hi:Int):Lv n lo hi=some (!(decide (lo≤n) && decide (n≤hi))):=by
 unfold Lv;by_cases ab:n<lo
 ·rw [if_pos (decide_eq_true ab),decide_eq_false (show ¬ lo≤n by omega)];rfl
 ·rw [if_neg (by simpa using ab),decide_eq_true (show lo≤n by omega)];by_cases ae:hi<n
  ·rw [decide_eq_true ae,decide_eq_false (show ¬ n≤hi by omega)];rfl
  ·rw [decide_eq_false ae,decide_eq_true (show n≤hi by omega)];rfl
theorem agc (lo hi n k:Int):IB lo hi [n,k]=some ((decide (lo≤n) && decide (n≤hi)) && (decide (lo≤k) && decide (k≤hi))):=by
 obtain ⟨m,hm⟩:∃ m,qn=m+3:=⟨qn-3,rfl⟩;unfold IB NZ N1;rw [hm,JD.eq_2,if_pos (show decide ((0:Int)<(([n,k]:List Int).length:Int))=true from rfl),qS ⟨sS _,show (0:Int)<(2:Int) by decide⟩,show ix [n,k] (0:Int)=n from rfl,XQ,sa];cases ak:(decide (lo≤n) && decide (n≤hi))
 ·rfl
 ·rw [show w (0+1:Int)=1 from rfl,if_neg (by decide),JD.eq_2,if_pos (show decide ((1:Int)<(([n,k]:List Int).length:Int))=true from rfl),qS ⟨by decide,show (1:Int)<(2:Int) by decide⟩,show ix [n,k] (1:Int)=k from rfl,XQ,sa];cases ak:(decide (lo≤k) && decide (k≤hi))
  ·rfl
  ·rw [show w (1+1:Int)=2 from rfl,JD.eq_2];rfl
theorem Po {p:qc} (aB:p.1.length≤1000):Kv p=some (ri p):=by
 have aw:MA p (fun _=>some (0:Int)) false=some (if (∀ s∈p.1,qH s)∧0≤p.2.1∧p.2.1≤p.2.2∧p.2.2≤50 then 0 else 3):=by
  unfold MA;rw [if_neg (by decide),agt aB,sa];by_cases h:∀ s∈p.1,qH s
  ·rw [if_neg (by simpa using h),agc,sa];by_cases ab:(0≤p.2.1∧p.2.1≤50)∧(0≤p.2.2∧p.2.2≤50)
   ·rw [if_pos (by simp [ab])];by_cases ae:p.2.2<p.2.1
    ·rw [if_pos (decide_eq_true ae),if_neg (by omega)]
    ·rw [if_neg (by simpa using by omega),if_pos ⟨h,by omega,by omega,by omega⟩]
   ·rw [if_neg (by simpa [and_assoc] using fun a b c=>by omega),if_neg (by omega)]
  ·rw [if_pos (by simpa using h),if_neg (fun k=>h k.1)]
 unfold Kv ri;rw [My,sa];have iN:(p.1.length:Int).tmod 2=((p.1.length % 2:Nat):Int):=NA _;by_cases ai:3≤p.1.length∧p.1.length≤7
 ·rw [if_pos (by simp;omega),qS (by decide),iN];by_cases h:p.1.length=3∨p.1.length=5∨p.1.length=7
  ·rw [if_pos h,decide_eq_false (by omega),aw]
  ·rw [if_neg h,decide_eq_true (by omega)];rfl
 ·rw [if_neg (by simp;omega),if_neg (by omega)];rfl
def qx (n:Nat) (o:List Int):Prop:=o.length=n∧o.Nodup∧∀ x∈o,0≤x∧x<(n:Int)
instance (n:Nat) (o:List Int):Decidable (qx n o):=by unfold qx;exact inferInstance
def ru (p:qc) (o:List Int):Int:=if ri p≠0 then ri p else if qx p.1.length o then 0 else 16
theorem UG {l:List Int} (ao:l.length≤1000) {v:Int}:∀ (m i:Nat),i≤l.length→l.length-i<m→(∀ j,j<i→ix l (j:Int)≠v)→Lu l v (fun _=>some false) m (i:Int)=some (decide (v∈l))
 | 0,_,_,h,_=>absurd h (by omega)
 | m+1,i,hi,hm,aw=>by
   rw [Lu];by_cases aR:i<l.length
   ·rw [if_pos (decide_eq_true (by omega)),qS (by omega),Jo i (by omega)];by_cases al:ix l (i:Int)=v
    ·rw [if_pos (decide_eq_true al),decide_eq_true (by rw [←al];exact J' (by omega))]
    ·rw [if_neg (by simpa using al)];refine UG ao m (i+1) (by omega) (by omega) fun j gi=>?_;by_cases e:j=i
     ·rw [e];exact al
     ·exact aw j (by omega)
   ·rw [if_neg (by simpa using by omega),decide_eq_false];intro ah;obtain ⟨j,ef,e⟩:=uR ah;exact aw j (by omega) (by rw [rK ef];exact e)
theorem agk {l:List Int} (ao:l.length≤1000) (v:Int):NY l v=some (decide (v∈l)):=by
 unfold NY;exact UG ao qn 0 (by omega) (I8 (by omega)) (fun j h=>absurd h (by omega))
def M' (n:Nat) (o:List Int) (i:Nat):Prop:=(o.take i).Nodup∧∀ x∈o.take i,0≤x∧x<(n:Int)
theorem ado {n:Nat} {o:List Int} {i:Nat} (hi:i<o.length):M' n o (i+1)↔M' n o i∧(0≤ix o (i:Int)∧ix o (i:Int)<(n:Int))∧ix o (i:Int) ∉ o.take i:=by
 unfold M';rw [uV hi,rK hi,ue];constructor
 ·rintro ⟨⟨ab,_,aF⟩,ba⟩;exact ⟨⟨ab,fun x aj=>ba x (List.mem_append_left _ aj)⟩,ba _ (List.mem_append_right _ (sQ.2 rfl)),fun hm=>aF _ hm _ (sQ.2 rfl) rfl⟩
 ·rintro ⟨⟨ab,ae⟩,aF,ba⟩;refine ⟨⟨ab,by simp,?_⟩,?_⟩
  ·intro a cu b af e;rw [sQ] at af;subst af;subst e;exact ba cu
  ·intro x aj;rcases tc.1 aj with aj | aj
   ·exact ae x aj
   ·rw [sQ] at aj;subst aj;exact aF
theorem UE {p:qc} {o:List Int} (ao:o.length≤1000) (aI:o.length=p.1.length):∀ (m i:Nat),i≤o.length→o.length-i<m→M' p.1.length o i→Lq p o (fun _=>some 0) m (i:Int)=some (if qx p.1.length o then 0 else 16)
 | 0,_,_,h,_=>absurd h (by omega)
 | m+1,i,hi,hm,aw=>by
   rw [Lq];by_cases aR:i<o.length
   ·rw [if_pos (decide_eq_true (by omega)),qS (by omega),Jo i (by omega)];have ft:(¬ (0≤ix o (i:Int)∧ix o (i:Int)<(p.1.length:Int))∨ix o (i:Int)∈o.take i)→¬ qx p.1.length o:=fun af al=>by
     rcases af with af | af
     ·exact af (al.2.2 _ (J' (by omega)))
     ·have:(o.take (i+1)).Nodup:=al.2.1.sublist (List.take_sublist _ _)
      rw [uV aR,ue] at this;exact this.2.2 _ af _ (by rw [rK aR];simp) rfl
    by_cases ab:ix o (i:Int)<0
    ·rw [if_pos (decide_eq_true ab),if_neg (ft (.inl (by omega)))]
    ·rw [if_neg (by simpa using by omega),qS (by omega)];by_cases ae:(p.1.length:Int)≤ix o (i:Int)
     ·rw [if_pos (decide_eq_true ae),if_neg (ft (.inl (by omega)))]
     ·rw [if_neg (by simpa using by omega),qS (by omega),qS (by omega),tH,agk (by rw [s9];omega),sa];by_cases aF:ix o (i:Int)∈o.take i
      ·rw [if_pos (decide_eq_true aF),if_neg (ft (.inr aF))]
      ·rw [if_neg (by simpa using aF)];exact UE ao aI m (i+1) (by omega) (by omega) ((ado aR).2 ⟨aw,by omega,aF⟩)
   ·(obtain rfl:i=o.length:=by omega);rw [if_neg (by simp),if_pos];unfold M' at aw;rw [uS] at aw;exact ⟨aI,aw.1,aw.2⟩
theorem R6 {p:qc} (aB:p.1.length≤1000) {o:List Int} (ao:o.length≤1000):JC p o=some (ru p o):=by
 unfold JC ru;rw [XE aB,sa,sa];by_cases h:ri p=0
 ·rw [if_neg (show ¬ decide (ri p≠0)=true by simpa using h),if_neg (show ¬ ri p≠0 by simpa using h)];by_cases aI:o.length=p.1.length
  ·rw [if_neg (show ¬ decide ((o.length:Int)≠(p.1.length:Int))=true by simp [aI])];exact UE ao aI qn 0 (by omega) (I8 (by omega)) ⟨by simp,by simp⟩
  ·rw [if_pos (show decide ((o.length:Int)≠(p.1.length:Int))=true from decide_eq_true (by omega)),if_neg (fun k=>aI k.1)]
 ·rw [if_pos (decide_eq_true h),if_pos h]
theorem ae_:Sort.SWO Sort.ltInt:=by
 constructor <;> intros <;> simp_all [Sort.ltInt] <;> omega
theorem WQ (l:List Int):(IP l).Perm l∧(IP l).Pairwise (·≤·):=by
 obtain ⟨⟨ab,_,aF⟩,ba⟩:=Sort.insertionSort_holds (lt:=Sort.ltInt) ae_ l.toArray 0 l.length (sC _) (by simp);unfold IP;generalize Sort.insertionSort Sort.ltInt l.toArray 0 l.length=d at ab aF ba;have ab:d.size=l.length:=by simpa using ab
 have e1:(d.extract 0 l.length).toList=d.toList:=by rw [←ab];simp
 have b':(l.toArray.extract 0 l.length).toList=l:=by simp
 rw [e1,b'] at aF;refine ⟨aF,List.pairwise_iff_getElem.2 fun i j hi aw h_=>?_⟩;have hi':i<d.size:=by simpa using hi
 have ef:j<d.size:=by simpa using aw
 have:=ba i j (sC _) h_ (by omega);rw [getElem!_pos d i hi',getElem!_pos d j ef] at this;simp only [Sort.ltInt,decide_eq_false_iff_not] at this;simp only [Array.getElem_toList];omega
theorem QX {n:Nat} {x:Int}:x∈qi n↔0≤x∧x<(n:Int):=by
 simp only [qi,sA,sE];exact ⟨by rintro ⟨i,hi,rfl⟩;omega,fun h=>⟨x.toNat,by omega,by omega⟩⟩
theorem W6 (n:Nat):(qi n).Pairwise (·<·):=by
 unfold qi;rw [List.pairwise_map];exact List.pairwise_lt_range.imp fun h=>by omega
theorem afg (n:Nat):(qi n).Nodup:=aeC (W6 n)
theorem Vd:∀ {a b:List Int},a.Nodup→(∀ x∈a,x∈b)→b.length≤a.length→a.Perm b
 | [],b,_,_,h=>by
   rw [sO.1 (show b.length=0 by simpa using h)]
 | x::a,b,aI,ah,h=>by
   have aj:x∈b:=ah x (by simp);obtain ⟨ab,ae⟩:=tQ.1 aI;refine (List.Perm.cons x (Vd (b:=b.erase x) ae (fun y aY=>?_) ?_)).trans (List.perm_cons_erase aj).symm
   ·exact (List.mem_erase_of_ne (fun e=>ab (by rw [←e];exact aY))).2 (ah y (by simp [aY]))
   ·rw [tP aj];simp at h;omega
theorem M_ {n:Nat} {o:List Int}:qx n o↔o.Perm (qi n):=by
 constructor
 ·rintro ⟨ab,ae,aF⟩;exact Vd ae (fun x aj=>QX.2 (aF x aj)) (by simp [qi,ab])
 ·intro h;exact ⟨by rw [h.length_eq];simp [qi],h.nodup_iff.2 (afg n),fun x aj=>QX.1 (h.mem_iff.1 aj)⟩
theorem adb {n:Nat} {o:List Int}:qx n o↔o∈qV n (qi n):=by
 rw [M_,OB n _ _ (by simp [qi])]
theorem WR {l:List Int}:(∀ j:Nat,j<(IP l).length→ix (IP l) (j:Int)=(j:Int))↔qx l.length l:=by
 obtain ⟨ab,ae⟩:=WQ l;have ao:=ab.length_eq;constructor
 ·intro h;have e:IP l=qi l.length:=by
   refine List.ext_getElem (by simp [qi,ao]) fun j a b=>?_;have:=h j a;rw [rK a] at this;rw [this];simp [qi]
  rw [M_,←e];exact ab.symm
 ·intro h;have e:IP l=qi l.length:=by
   refine List.Perm.eq_of_pairwise (le:=fun (a b:Int)=>a≤b) (fun a b _ _ x y=>by omega) ae ((W6 _).imp fun h=>by omega) (ab.trans (M_.1 h))
  intro j aw;rw [rK aw];simp only [e];simp [qi]
theorem UC {eK:List Int} (ai:eK.length≤1000) {K:Option (Option (qc×Unit)×Int)}:∀ (m i:Nat),i≤eK.length→eK.length-i<m→(∀ j,j<i→ix eK (j:Int)=(j:Int)) →
  Io eK (fun _=>K) m (i:Int)=if ∀ j:Nat,j<eK.length→ix eK (j:Int)=(j:Int) then K else some (none,16)
 | 0,_,_,h,_=>absurd h (by omega)
 | m+1,i,hi,hm,aw=>by
   rw [Io];by_cases aR:i<eK.length
   ·rw [if_pos (decide_eq_true (by omega)),qS (by omega),Jo i (by omega)];by_cases al:ix eK (i:Int)=(i:Int)
    ·rw [if_neg (by simpa using al)];refine UC ai m (i+1) (by omega) (by omega) fun j gi=>?_;by_cases e:j=i
     ·rw [e];exact al
     ·exact aw j (by omega)
    ·rw [if_pos (decide_eq_true al),if_neg (fun h=>al (h i aR))]
   ·rw [if_neg (by simpa using by omega),if_pos fun j ao=>aw j (by omega)]
theorem Pl {p:qc} (aB:p.1.length≤1000) {o:List Int} (ao:o.length≤12):rz p [o]=some (if ru p o=0 then (some (p,()),0) else (none,ru p o)):=by
 unfold rz ru;rw [Po aB,sa];by_cases h:ri p=0
 ·rw [if_neg (show ¬ decide (ri p≠0)=true by simpa using h)];rw [if_neg (show ¬ ri p≠0 by simpa using h)];obtain ⟨m,hm⟩:=Qj;rw [show Hx p [o] (fun _=>some (some (p,()),0)) qn 0=Hx p [o] (fun _=>some (some (p,()),0)) (m+2) 0 by rw [hm],Hx.eq_2,if_pos (show decide ((0:Int)<(([o]:List (List Int)).length:Int))=true from rfl),qS ⟨sS _,show (0:Int)<(1:Int) by decide⟩,show ix [o] (0:Int)=o from rfl];rw [show Pq o=some () from rfl,sa,show Pp o=some (IP o) from if_pos ao,sa];have ah:=WQ o;have DG:=ah.1.length_eq;rw [show (0:Int)=((0:Nat):Int) from rfl,UC (by omega) qn 0 (by omega) (I8 (by omega)) (fun j h=>absurd h (by omega))];by_cases ab:qx o.length o
  ·rw [if_pos (WR.2 ab)];by_cases aI:o.length=p.1.length
   ·rw [if_neg (show ¬ decide ((o.length:Int)≠(p.1.length:Int))=true by simp [aI]),if_pos (by rw [←aI,if_pos ab]),show w (((0:Nat):Int)+1)=1 from rfl,Hx.eq_2];rfl
   ·have ft:¬ qx p.1.length o:=fun k=>aI k.1;rw [if_pos (show decide ((o.length:Int)≠(p.1.length:Int))=true from decide_eq_true (by omega)),if_neg ft];rfl
  ·have ft:¬ qx p.1.length o:=fun k=>ab (by rw [k.1];exact k);rw [if_neg (fun k=>ab (WR.1 k)),if_neg ft];rfl
 ·rw [if_pos (decide_eq_true h),if_pos h,if_neg h]
theorem R2 {p:qc} (aB:p.1.length≤1000):rz p []=some (if ri p=0 then (some (p,()),0) else (none,ri p)):=by
 unfold rz;rw [Po aB,sa];by_cases h:ri p=0
 ·rw [if_neg (show ¬ decide (ri p≠0)=true by simpa using h),if_pos h];obtain ⟨m,hm⟩:=Qj;rw [show Hx p [] (fun _=>some (some (p,()),0)) qn 0=Hx p [] (fun _=>some (some (p,()),0)) (m+2) 0 by rw [hm],Hx.eq_2];rfl
 ·rw [if_pos (decide_eq_true h),if_neg h]
structure rv (p:qc):Prop where
 n:p.1.length=3∨p.1.length=5∨p.1.length=7
 s:∀ s∈p.1,qH s
 lo:0≤p.2.1
 le:p.2.1≤p.2.2
 hi:p.2.2≤50
theorem LJ {p:qc}:ri p=0↔rv p:=by
 unfold ri;constructor
 ·intro h;split at h
  ·rename_i ab;split at h
   ·rename_i ae;exact ⟨ab,ae.1,ae.2.1,ae.2.2.1,ae.2.2.2⟩
   ·omega
  ·omega
 ·intro h;rw [if_pos h.n,if_pos ⟨h.s,h.lo,h.le,h.hi⟩]
theorem Kd {p:qc} {o:List Int}:ru p o=0↔rv p∧qx p.1.length o:=by
 unfold ru;by_cases h:ri p=0
 ·rw [if_neg (by simpa using h)];by_cases ab:qx p.1.length o
  ·rw [if_pos ab];exact ⟨fun _=>⟨LJ.1 h,ab⟩,fun _=>rfl⟩
  ·rw [if_neg ab];exact ⟨fun k=>by omega,fun k=>absurd k.2 ab⟩
 ·rw [if_pos h];exact ⟨fun k=>absurd k h,fun k=>LJ.2 k.1⟩
theorem HD {S:List qw} {o:List Int} (h:qx S.length o):JF S o:=fun i hi=>h.2.2 _ (J' (by omega))
end Go.Proofs.Ytkoioidpbbbaiaa.Ab
