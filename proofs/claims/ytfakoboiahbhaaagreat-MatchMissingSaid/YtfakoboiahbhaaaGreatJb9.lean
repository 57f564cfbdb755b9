
import Derived.Test.YtfakoboiahbhaaaGreatJb6
import Derived.KernelRfl
import Derived.Test.YtfakoboiahbhaaaGreatJb7
import Derived.Test.YtfakoboiahbhaaaGreatJb8
import Derived.Test.YtfakoboiahbhaaaGreatJb5
set_option linter.unusedSimpArgs false
set_option linter.unusedVariables false
set_option linter.unusedSectionVars false

open Bool renaming false_or→vV,or_eq_true→uc,true_or→wJ
open Decidable renaming not_not→vF
open Int renaming le_trans→vM,lt_or_le→u7,toNat_natCast→tV,toNat_of_nonneg→uI
open List renaming any_cons→vp,any_eq_false→uQ,any_eq_true→vG,append_assoc→sH,drop_eq_getElem_cons→tn,drop_eq_nil_of_le→tB,drop_zero→th,filter_cons→tx,flatten_cons→tO,getD_eq_getElem?_getD→sY,getElem?_append→sy,getElem?_eq_getElem→sK,getElem?_set_ne→sJ,getElem_append_left→v9,getElem_append_right→v_,getElem_mem→sU,getElem_of_mem→uH,getElem_replicate→wL,length_append→sC,length_cons→sV,length_pos_of_mem→wK,map_cons→sG,mem_append→ti,mem_append_left→vE,mem_cons→sL,mem_filter→tc,mem_flatten→uG,mem_map→sM,mem_range→sX,mem_singleton→ta,nil_append→t_,nodup_append→u6,nodup_cons→uz,pairwise_append→vz,pairwise_cons→tK,pairwise_iff_getElem→tG,pairwise_map→vl,take_zero→tD
open Nat renaming lt_succ_self→sA,zero_le→sP
open Option renaming bind_some→sx
namespace Go.Proofs.YtfakoboiahbhaaaGreat.Ab
open Go
def aJ:qL:=.pure 18 [.agg [.int .i64 4,.ax [.int .i64 0,.int .i64 1,.int .i64 1,.int .i64 2,.int .i64 2,.int .i64 0,.int .i64 2,.int .i64 3] 4 .shared],.ax [.int .i64 1,.int .i64 1,.int .i64 0,.int .i64 1,.int .i64 2,.int .i64 1,.int .i64 3,.int .i64 0] 4 .shared] (.tuple [.int .i64 2,.int .i64 3,.int .i64 0])
def aQ:qL:=.pure 22 [.agg [.int .i64 4,.ax [.int .i64 0,.int .i64 1,.int .i64 1,.int .i64 2,.int .i64 2,.int .i64 0,.int .i64 2,.int .i64 3] 4 .shared],.ax [.int .i64 1,.int .i64 1,.int .i64 0,.int .i64 1,.int .i64 2,.int .i64 1,.int .i64 3,.int .i64 0] 4 .shared] (.int .i64 27)
def cp:qL:=.pure 27 [.agg [.int .i64 5,.ax [.int .i64 0,.int .i64 1,.int .i64 2,.int .i64 3,.int .i64 4,.int .i64 4] 3 .shared]] (.tuple [.ax [.int .i64 0,.int .i64 1,.int .i64 2,.int .i64 3] 4 .full,.int .i64 0])
def mF:qL:=.pure 29 [.agg [.int .i64 4,.ax [.int .i64 0,.int .i64 1,.int .i64 1,.int .i64 2,.int .i64 2,.int .i64 0,.int .i64 2,.int .i64 3] 4 .shared]] (.tuple [.ax [.ax [.int .i64 0,.int .i64 1,.int .i64 2,.int .i64 3] 4 .shared] 1 .shared,.int .i64 0])
def DN:qL:=.pure 35 [.agg [.int .i64 4,.ax [.int .i64 0,.int .i64 1,.int .i64 1,.int .i64 2,.int .i64 2,.int .i64 0,.int .i64 2,.int .i64 3] 4 .shared]] (.tuple [.int .i64 1,.int .i64 0])
def Mp:qL:=.pure 35 [.agg [.int .i64 2,.ax [.int .i64 0,.int .i64 1,.int .i64 1,.int .i64 0] 2 .shared]] (.tuple [.int .i64 1,.int .i64 0])
end Go.Proofs.YtfakoboiahbhaaaGreat.Ab


namespace Go.Proofs.YtfakoboiahbhaaaGreat.Ab
open Go
def aaF:List qL:=[bH,bY,Hh,Kj,NW,aaz,aaA,aaB,aaC,aal,aam,aan,aao,aap,aaq,aar,aas,aat,aau,aav,aaw,aax,aay]
theorem akb:∀ e∈aaF,q2 Go.Proofs.Tryz.prog e:=by
 simp only [aaF,List.forall_mem_cons];exact ⟨ajY,aj3,aj4,aj5,aj6,aj7,aj8,aj9,aj_,ajO,ajP,ajQ,ajR,ajS,ajT,ajU,ajV,ajW,ajX,ajZ,aj0,aj1,aj2,by simp⟩
abbrev acq:Prop:=qB 17 [] (B true)
theorem akc:acq:=Hp akb (by kernel_rfl)
end Go.Proofs.YtfakoboiahbhaaaGreat.Ab


namespace Go.Proofs.YtfakoboiahbhaaaGreat.Ab
open Go
def Kk:Option Bool:=some true
theorem Ph {v:Bool} (h:Kk=some v):qB 17 [] (B v):=by
 obtain rfl:=Option.some.inj h;exact akc
end Go.Proofs.YtfakoboiahbhaaaGreat.Ab


namespace Go.Proofs.YtfakoboiahbhaaaGreat.Ab
open Go
set_option maxRecDepth 20000
set_option maxHeartbeats 4000000
noncomputable def abM:fW :=
 pZ [GC 1 [.jh 0] .box,GC 2 [.lT (.bool false)] .mP] (pZ [qW 3 1 1,qo 4 3,qI 5 4,qA 6 5 14 .gtr,pY 2 6] .ret)
theorem agv:zE Tryz.prog Wm 16=some (abM,7,[.tmp 2]):=by kernel_rfl
def Pg (b:qn):Option Bool :=
 some (decide ((14:Int)<(b.2.length:Int)))
theorem aky {b:qn} {v:Bool} (h:Pg b=some v):qB 16 [(.agg [(hW b.1),(.ax (b.2.flatMap p0) b.2.length .shared)])] (B v):=by
 refine q5 et agv rfl rfl fun Q bp=>?_;have jD:qR [.tmp 2] Q (fun v=>(B v)) v:=fun T H bI=>bp _ T H bI;unfold Pg at h;unfold abM;conv=>whnf
 exact qi h jD rfl rfl

noncomputable def ach:fW :=
 pZ [GC 4 [.lT (.bool false)] .mP] (pZ [p1 5 0,qo 6 1,qT 7 5 6 .lss,pY 8 7,cS 9 [.jh 0] 8 false .mP,cS 10 [.Bt 2] 8 false (.zy .one),cS 11 [.Bt 9,.Bt 10] 8 false (.bin .gtr),GC 12 [.Bt 8,.lT (.bool true),.Bt 11] .pick,pY 4 12] .ret)
theorem ag0:zE Tryz.prog WL 93=some (ach,13,[.tmp 4]):=by kernel_rfl
def Pt (n c0 a':Int):Option Bool :=
 if (decide (n<c0))=true then
  some true
 else
  some (decide (a'<n))
theorem alC {n:Int} {c0:Int} {a':Int} {v:Bool} (h:Pt n c0 a'=some v):qB 93 [(hW n),(.bU [(hW c0)]),(.bU [(hW a')])] (B v):=by
 refine q5 et ag0 rfl rfl fun Q bp=>?_;have jD:qR [.tmp 4] Q (fun v=>(B v)) v:=fun T H bI=>bp _ T H bI;unfold Pt at h;unfold ach;conv=>whnf
 refine bs h (fun gG h=>?_) fun gG h=>?_
 ·rw [gG];conv=>whnf
  exact qi h jD rfl rfl
 ·rw [gG];conv=>whnf
  exact qi h jD rfl rfl

noncomputable def ab5:fW :=
 pZ [GC 3 [.jh 0] .box,GC 4 [.jh 1] .box,GC 6 [.lT (.bool false)] .mP] (pZ [pY 7 2,GC 8 [.Bt 3,.Bt 4] (.zS 93 0 2),GC 9 [.lT (.func 92 [] []),.sl 7,.sl 8] (.call 6),GC 10 [.Bt 9] (.un .not),pY 6 10] .ret)
theorem agO:zE Tryz.prog WA 66=some (ab5,11,[.tmp 6]):=by kernel_rfl
def LS (lo hi:Int) (l:qt):Option Bool :=
 (Ld l (fun qV=>Pt qV lo hi)).bind fun aT =>
 some (!aT)
theorem Q' {lo:Int} {hi:Int} {l:qt} {v:Bool} (h:LS lo hi l=some v):qB 66 [(hW lo),(hW hi),(.ax (l.map hW) l.length .shared)] (B v):=by
 refine q5 et agO rfl rfl fun Q bp=>?_;have jD:qR [.tmp 6] Q (fun v=>(B v)) v:=fun T H bI=>bp _ T H bI;unfold LS at h;unfold ab5;conv=>whnf
 obtain ⟨aT,gG,h⟩:=qm h;refine ⟨_,_,Ja (cs:=[(qJ l .shared),(.func 93 [] [(.bU [(hW lo)]),(.bU [(hW hi)])])]) (bs:=[(qJ l .shared),(.func 93 [] [(.bU [(hW lo)]),(.bU [(hW hi)])])]) (rA rfl (rA (KQ rY (rA (Jk (cs:=[(hW lo)]) (by first | exact qy.h | rfl | (simp [sy,I.settle];done)) rfl) (rA (Jk (cs:=[(hW hi)]) (by first | exact qy.h | rfl | (simp [sy,I.settle];done)) rfl) rY))) rY)) (by rfl) (by exact (p2 (r7 (fun _=>rfl) _ _ _) (p2 (Kg rfl (p2 (re (p2 rfl rfl)) (p2 (re (p2 rfl rfl)) rfl))) rfl))) (Ri ⟨(p2 (re (p2 rfl rfl)) (p2 (re (p2 rfl rfl)) rfl)),by simp⟩ (fun _ _ aZ=>alC aZ) gG) rfl,?_⟩
 conv=>whnf
 exact qi h jD rfl rfl

noncomputable def ab_:fW :=
 pZ [GC 2 [.jh 0] .box,GC 3 [.lT (.bool false)] .mP] (pZ [qW 4 1 0,qo 5 4,qA 6 5 1 .sub,GC 7 [.sl 2] (.yH 0),qo 8 7,qW 9 2 1,qo 10 9,GC 11 [.Bt 8,.Bt 10] (.yv 2 1 [.int .i64 0] [0,1]),GC 12 [.lT (.func 66 [] []),.lT (.int .i64 0),.sl 6,.sl 11] (.call 3),GC 13 [.Bt 12] (.un .not),pY 3 13] .ret)
theorem agT:zE Tryz.prog WE 71=some (ab_,14,[.tmp 3]):=by kernel_rfl
def Ra (s:(Int×Int)) (c0:qn):Option Bool :=
 (LS (0:Int) (w (c0.1-(1:Int))) [s.1,s.2]).bind fun aT =>
 some (!aT)
theorem ali {s:(Int×Int)} {c0:qn} {v:Bool} (h:Ra s c0=some v):qB 71 [(.agg [(hW s.1),(hW s.2)]),(.bU [(hW c0.1),(.ax (c0.2.flatMap p0) c0.2.length .shared)])] (B v):=by
 refine q5 et agT rfl rfl fun Q bp=>?_;have jD:qR [.tmp 3] Q (fun v=>(B v)) v:=fun T H bI=>bp _ T H bI;unfold Ra at h;unfold ab_;conv=>whnf
 obtain ⟨aT,gG,h⟩:=qm h;refine ⟨(p2 rfl (p2 rfl (p2 rfl rfl))),_,Q' gG,?_⟩;conv=>whnf
 exact qi h jD rfl rfl

noncomputable def RK:fW :=
 .loop (some (qb false [0,2,5,2,10])) (pZ [GC 9 [.sl 8,.sl 7] (.bin .lss)] (.seq (.cond (.sl 9) .skip (.exit 0)) (.seq (.block 1 (pZ [p1 10 8,pY 5 10] (pZ [p1 11 1,p1 12 0,p1 13 5,qZ 14 12 13 2,GC 15 [.Bt 14] (.zy (.str 2)),GC 16 [.sl 11,.sl 15] (.call 6)] (.cond (.sl 16) (pZ [pY 17 5,pY 4 17] .ret) .skip)))) (qK [qU 18 8 1,pY 8 18]))))
noncomputable def acj:fW :=
 pZ [qd 4 0] (.seq (pZ [p1 6 0,qI 7 6,qd 8 0] (.block 0 RK)) (pZ [qd 4 (-1)] .ret))
theorem ag2:zE Tryz.prog R_ 95=some (acj,19,[.tmp 4]):=by kernel_rfl
def MT (s:p8) (f:((Int×Int)→Option Bool)) (qq:Unit→Option Int):Nat→Int→Option Int
 | 0,_=>none
 | m+1,s1 =>
   if (decide (s1<(s.length:Int)))=true then
    qg (0≤s1∧s1<(s.length:Int)) <|
    (f (ix s s1)).bind fun aT =>
    if aT=true then
     some s1
    else
     MT s f qq m (w (s1+(1:Int)))
   else
    qq ()
def Rk (s:p8) (f:((Int×Int)→Option Bool)):Option Int :=
 MT s f (fun _ =>
   some (-1:Int)) qc (0:Int)
theorem alF {s:p8} {f:((Int×Int)→Option Bool)} {qq:Unit→Option Int} {s1:Int} {rX:FuncId} {rh:List I} (r8:sk rh) (Iz:∀ (qV:(Int×Int)) (r:Bool),f qV=some r→qB rX ((.agg [(hW qV.1),(hW qV.2)])::rh) (B r)) {v:Int} {Q:rf}   (jD:qR [.tmp 4] Q (fun v=>(hW v)) v) (r9:∀ (p7:List I),qq ()=some v→qQ 19 [] p7→Q (.exit 0) p7 []) {T:List I} (bX:e0 (qb false [0,2,5,2,10]) T=Hc 19 [(0,(p4 s .shared)),(1,(.func rX [] rh)),(7,(hW (s.length:Int))),(8,(hW s1))]) (h:MT s f qq qc s1=some v) :
  dR Tryz.prog R_ 95 0 none RK T [] Q:=by
 unfold RK;refine wp_loop bX ?_;refine .intro (fun m T H=>∃ (s1:Int),T=Hc 19 [(0,(p4 s .shared)),(1,(.func rX [] rh)),(7,(hW (s.length:Int))),(8,(hW s1))]∧H=[]∧MT s f qq m s1=some v) qc ⟨s1,rfl,rfl,h⟩ ?_;clear h bX;rintro m T H ⟨s1,rfl,rfl,h⟩;cases m
 ·exact rj h
 rename_i m;rw [MT.eq_2] at h;conv=>whnf
 refine bs h (fun gG h=>?_) fun gG h=>?_
 ·rw [gG];conv=>whnf
  refine qx h id fun gH h=>?_;rw [qX p0 2 qv s s1 gH];conv=>whnf
  obtain ⟨aT,qs,h⟩:=qm h;refine ⟨_,_,call6 (bs:=((.agg [(hW (ix s s1).1),(hW (ix s s1).2)])::rh)) (by simp only [sG,r8.ir,r8.cr];rfl) (by simp only [sG,r8.ir];exact (p2 (Kf (p2 rfl (p2 rfl rfl))) r8.M5)) (Iz _ _ qs) rfl,?_⟩;conv=>whnf
  cases aT
  ·(conv=>whnf);replace h:=Hl rfl h;exact ⟨m,sA m,(w (s1+(1:Int))),rfl,rfl,h⟩
  ·(conv=>whnf);replace h:=Hm rfl h;exact qi h jD rfl rfl
 ·rw [gG];conv=>whnf
  exact r9  _ h ⟨rfl,rfl⟩
theorem alG {s:p8} {f:((Int×Int)→Option Bool)} {rX:FuncId} {rh:List I} (r8:sk rh) (Iz:∀ (qV:(Int×Int)) (r:Bool),f qV=some r→qB rX ((.agg [(hW qV.1),(hW qV.2)])::rh) (B r)) {v:Int} (h:Rk s f=some v):qB 95 [(.ax (s.flatMap p0) s.length .shared),(.func rX [] rh)] (hW v):=by
 refine q5 et ag2 rfl rfl fun Q bp=>?_;have jD:qR [.tmp 4] Q (fun v=>(hW v)) v:=fun T H bI=>bp _ T H bI;unfold Rk at h;unfold acj;obtain ⟨II,q'⟩:∃ c,RK=c:=⟨_,rfl⟩;rw [q'];conv=>whnf
 subst q';refine alF r8 Iz ?_ ?_ (by exact rfl) h
 ·exact fun T H bI=>jD T H bI
 ·intro  p7 h qe;obtain ⟨qG,rfl⟩:=qe.ex;conv=>whnf
  exact qi h jD rfl rfl

noncomputable def aca:fW :=
 pZ [GC 4 [.lT (.bool false)] .mP] (pZ [pY 5 0,pY 6 1,GC 7 [.lT (.func 95 [] []),.sl 5,.sl 6] (.call 6),qA 8 7 0 .geq,pY 4 8] .ret)
theorem agU:zE Tryz.prog WG 72=some (aca,9,[.tmp 4]):=by kernel_rfl
def Pr (s:p8) (f:((Int×Int)→Option Bool)):Option Bool :=
 (Rk s f).bind fun aT =>
 some (decide ((0:Int)≤aT))
theorem alk {s:p8} {f:((Int×Int)→Option Bool)} {rX:FuncId} {rh:List I} (r8:sk rh) (Iz:∀ (qV:(Int×Int)) (r:Bool),f qV=some r→qB rX ((.agg [(hW qV.1),(hW qV.2)])::rh) (B r)) {v:Bool} (h:Pr s f=some v):qB 72 [(.ax (s.flatMap p0) s.length .shared),(.func rX [] rh)] (B v):=by
 refine q5 et agU rfl rfl fun Q bp=>?_;have jD:qR [.tmp 4] Q (fun v=>(B v)) v:=fun T H bI=>bp _ T H bI;unfold Pr at h;unfold aca;conv=>whnf
 obtain ⟨aT,gG,h⟩:=qm h;refine ⟨_,_,Ja (cs:=[(p4 s .shared),(.func rX [] rh)]) (bs:=[(p4 s .shared),(.func rX [] rh)]) (rA rfl (rA (r8.fn _ _) rY)) (by rfl) (by exact (p2 (q4 (fun _=>(p2 rfl (p2 rfl rfl))) _ _ _) (p2 (r8.OV _) rfl))) (alG r8 Iz gG) rfl,?_⟩;conv=>whnf
 exact qi h jD rfl rfl

noncomputable def abP:fW :=
 pZ [GC 1 [.jh 0] .box,qd 2 0] (pZ [GC 4 [.sl 1] (.zS 71 0 1),pY 3 4] (.seq (.block 0 (pZ [GC 6 [.sl 1] (.yH 0),qo 7 6,GC 8 [.Bt 7] (.yv 1 1 [.int .i64 0] [0]),GC 9 [.lT (.func 66 [] []),.lT (.int .i64 1),.lT (.int .i64 6),.sl 8] (.call 3),GC 10 [.Bt 9] (.un .not),pY 11 10,cS 12 [.sl 1] 11 false (.yH 1),cS 13 [.Bt 12] 11 false (.zy .one),cS 14 [.jh 13] 11 false .zD,cS 15 [.Bt 14,.lT (.int .i64 10)] 11 false (.bin .gtr),GC 16 [.Bt 11,.lT (.bool true),.Bt 15] .pick,pY 5 16] (.cond (.sl 5) (pZ [qd 2 6] .ret) (pZ [qW 18 1 1,qo 19 18,pY 20 3,GC 21 [.lT (.func 72 [] []),.sl 19,.sl 20] (.call 6),pY 17 21] (.cond (.sl 17) (pZ [qd 2 3] .ret) .skip))))) (pZ [qd 2 0] .ret)))
theorem agy:zE Tryz.prog Wn 20=some (abP,22,[.tmp 2]):=by kernel_rfl
def N2 (b:qn):Option Int :=
 (LS (1:Int) (6:Int) [b.1]).bind fun aT =>
 if aT=true then
  if (decide ((10:Int)<(b.2.length:Int)))=true then
   some (6:Int)
  else
   (Pr b.2 (fun qV=>Ra qV b)).bind fun r2 =>
   if r2=true then
    some (3:Int)
   else
    some (0:Int)
 else
  some (6:Int)
theorem aaU {b:qn} {v:Int} (h:N2 b=some v):qB 20 [(.agg [(hW b.1),(.ax (b.2.flatMap p0) b.2.length .shared)])] (hW v):=by
 refine q5 et agy rfl rfl fun Q bp=>?_;have jD:qR [.tmp 2] Q (fun v=>(hW v)) v:=fun T H bI=>bp _ T H bI;unfold N2 at h;unfold abP;conv=>whnf
 obtain ⟨aT,gG,h⟩:=qm h;refine ⟨(p2 rfl (p2 rfl (p2 rfl rfl))),_,Q' gG,?_⟩;conv=>whnf
 cases aT
 ·conv=>whnf
  replace h:=Hl rfl h;exact qi h jD rfl rfl
 ·conv=>whnf
  replace h:=Hm rfl h;refine bs h (fun gH h=>?_) fun gH h=>?_
  ·rw [gH];(conv=>whnf);exact qi h jD rfl rfl
  ·rw [gH];(conv=>whnf);obtain ⟨r2,qs,h⟩:=qm h;refine ⟨_,_,Ja (cs:=[(p4 b.2 .shared),(.func 71 [] [(.bU [(hW b.1),(p4 b.2 .shared)])])]) (bs:=[(p4 b.2 .shared),(.func 71 [] [(.bU [(hW b.1),(p4 b.2 .shared)])])]) (rA rfl (rA (KQ rY (rA (Jk (cs:=[(hW b.1),(p4 b.2 .shared)]) (by first | exact qy.h | rfl | (simp [sy,I.settle];done)) rfl) rY)) rY)) (by rfl) (by exact (p2 (q4 (fun _=>(p2 rfl (p2 rfl rfl))) _ _ _) (p2 (Kg rfl (p2 (re (p2 rfl (p2 (q4 (fun _=>(p2 rfl (p2 rfl rfl))) _ _ _) rfl))) rfl)) rfl))) (alk ⟨(p2 (re (p2 rfl (p2 (q4 (fun _=>(p2 rfl (p2 rfl rfl))) _ _ _) rfl))) rfl),by simp⟩ (fun _ _ aZ=>ali aZ) qs) rfl,?_⟩
   (conv=>whnf);cases r2
   ·(conv=>whnf);replace h:=Hl rfl h;exact qi h jD rfl rfl
   ·(conv=>whnf);replace h:=Hm rfl h;exact qi h jD rfl rfl

def RN (x:qn):List I:=[(hW x.1),(p4 x.2 .shared)]
instance {d:Nat} {x:qn}:qw (d+2) (RN x):=⟨(inferInstance:qw (d+2) [(hW x.1),(p4 x.2 .shared)]).pl⟩
noncomputable def ab3:fW :=
 pZ [GC 1 [.jh 0] .box,GC 2 [.lT .eJ] .mP,qd 3 0] (.seq (pZ [GC 5 [.sl 1] (.zy (.str 2)),GC 6 [.lT (.func 20 [] []),.sl 5] (.call 3),pY 4 6] (pZ [p1 7 4,qA 8 7 0 .neq] (.cond (.sl 8) (pZ [pY 9 4,GC 2 [.lT .eJ] .mP,pY 3 9] .ret) .skip))) (pZ [GC 10 [.Bt 1] (.zy (.str 2)),GC 11 [.Bt 10] (.build [.int .i64 0,.ax [] 0 .full] [(0,2)]),GC 12 [.jh 11] .yr,pY 2 12,qd 3 0] .ret))
theorem agM:zE Tryz.prog Wy 64=some (ab3,13,[.tmp 2,.tmp 3]):=by kernel_rfl
def Kl (b:qn):Option ((Option qn)×Int) :=
 (N2 b).bind fun aT =>
 if (decide (aT≠(0:Int)))=true then
  some (none,aT)
 else
  some ((some b),(0:Int))
theorem LR {b:qn} {v:((Option qn)×Int)} (h:Kl b=some v):qB 64 [(.agg [(hW b.1),(.ax (b.2.flatMap p0) b.2.length .shared)])] (.tuple [(Qn RN v.1),(hW v.2)]):=by
 refine q5 et agM rfl (JZ (p2 (YM (fun _=>(p2 rfl (p2 (q4 (fun _=>(p2 rfl (p2 rfl rfl))) _ _ _) rfl))) _) (p2 rfl rfl))) fun Q bp=>?_;have jD:qR [.tmp 2,.tmp 3] Q (fun v=>(.tuple [(Qn RN v.1),(hW v.2)])) v:=fun T H bI=>bp _ T H bI;unfold Kl at h;unfold ab3;conv=>whnf
 obtain ⟨aT,gG,h⟩:=qm h;refine ⟨qw.pl,_,aaU gG,?_⟩;conv=>whnf
 refine bs h (fun gH h=>?_) fun gH h=>?_
 ·rw [gH];conv=>whnf
  exact qi h jD rfl rfl
 ·rw [gH];conv=>whnf
  refine ⟨rfl,?_⟩;conv=>whnf
  exact qi h jD rfl rfl

noncomputable def ab4:fW :=
 pZ [GC 2 [.jh 0] .box,GC 3 [.lT (.bool false)] .mP] (pZ [qW 4 1 1,qo 5 4,qI 6 5,qA 7 6 1 .sub,GC 8 [.sl 2] (.yH 0),qo 9 8,GC 10 [.Bt 9] (.yv 1 1 [.int .i64 0] [0]),GC 11 [.lT (.func 66 [] []),.lT (.int .i64 0),.sl 7,.sl 10] (.call 3),GC 12 [.Bt 11] (.un .not),pY 13 12,cS 14 [.Bt 2] 13 false (.yH 1),cS 15 [.Bt 14] 13 false (.zy .one),⟨some 16,[.Bt 15],some (13,false),none,.yv 1 1 [.int .i64 0] [0]⟩,⟨some 17,[.lT (.func 66 [] []),.lT (.int .i64 0),.lT (.int .i64 1),.sl 16],some (13,false),none,.call 3⟩,cS 18 [.Bt 17] 13 false (.un .not),GC 19 [.Bt 13,.lT (.bool true),.Bt 18] .pick,pY 3 19] .ret)
theorem agN:zE Tryz.prog Wz 65=some (ab4,20,[.tmp 3]):=by kernel_rfl
def N5 (p:(Int×Int)) (c0:qn):Option Bool :=
 (LS (0:Int) (w ((c0.2.length:Int)-(1:Int))) [p.1]).bind fun aT =>
 if aT=true then
  (LS (0:Int) (1:Int) [p.2]).bind fun r2 =>
  some (!r2)
 else
  some true
theorem abf {p:(Int×Int)} {c0:qn} {v:Bool} (h:N5 p c0=some v):qB 65 [(.agg [(hW p.1),(hW p.2)]),(.bU [(hW c0.1),(.ax (c0.2.flatMap p0) c0.2.length .shared)])] (B v):=by
 refine q5 et agN rfl rfl fun Q bp=>?_;have jD:qR [.tmp 3] Q (fun v=>(B v)) v:=fun T H bI=>bp _ T H bI;unfold N5 at h;unfold ab4;conv=>whnf
 obtain ⟨aT,gG,h⟩:=qm h;refine ⟨(p2 rfl (p2 rfl (p2 rfl rfl))),_,Q' gG,?_⟩;conv=>whnf
 cases aT
 ·conv=>whnf
  replace h:=Hl rfl h;exact qi h jD rfl rfl
 ·conv=>whnf
  replace h:=Hm rfl h;obtain ⟨r2,gH,h⟩:=qm h;refine ⟨(p2 rfl (p2 rfl (p2 rfl rfl))),_,Q' gH,?_⟩;conv=>whnf
  exact qi h jD rfl rfl

noncomputable def RJ:fW :=
 .loop (some (qb false [0,2,5,2,10])) (pZ [GC 9 [.sl 8,.sl 7] (.bin .lss)] (.seq (.cond (.sl 9) .skip (.exit 0)) (.seq (.block 1 (pZ [p1 10 8,pY 5 10] (pZ [p1 11 1,p1 12 0,p1 13 5,qZ 14 12 13 2,GC 15 [.Bt 14] (.zy (.str 2)),GC 16 [.sl 11,.sl 15] (.call 6)] (.cond (.sl 16) (pZ [pY 17 5,pY 4 17] .ret) .skip)))) (qK [qU 18 8 1,pY 8 18]))))
noncomputable def aci:fW :=
 pZ [qd 4 0] (.seq (pZ [p1 6 0,qI 7 6,qd 8 0] (.block 0 RJ)) (pZ [qd 4 (-1)] .ret))
theorem ag1:zE Tryz.prog R9 94=some (aci,19,[.tmp 4]):=by kernel_rfl
def MS (s:p8) (f:((Int×Int)→Option Bool)) (qq:Unit→Option Int):Nat→Int→Option Int
 | 0,_=>none
 | m+1,s1 =>
   if (decide (s1<(s.length:Int)))=true then
    qg (0≤s1∧s1<(s.length:Int)) <|
    (f (ix s s1)).bind fun aT =>
    if aT=true then
     some s1
    else
     MS s f qq m (w (s1+(1:Int)))
   else
    qq ()
def LY (s:p8) (f:((Int×Int)→Option Bool)):Option Int :=
 MS s f (fun _ =>
   some (-1:Int)) qc (0:Int)
theorem alE {s:p8} {f:((Int×Int)→Option Bool)} {qq:Unit→Option Int} {s1:Int} {rX:FuncId} {rh:List I} (r8:sk rh) (Iz:∀ (qV:(Int×Int)) (r:Bool),f qV=some r→qB rX ((.agg [(hW qV.1),(hW qV.2)])::rh) (B r)) {v:Int} {Q:rf}   (jD:qR [.tmp 4] Q (fun v=>(hW v)) v) (r9:∀ (p7:List I),qq ()=some v→qQ 19 [] p7→Q (.exit 0) p7 []) {T:List I} (bX:e0 (qb false [0,2,5,2,10]) T=Hc 19 [(0,(p4 s .shared)),(1,(.func rX [] rh)),(7,(hW (s.length:Int))),(8,(hW s1))]) (h:MS s f qq qc s1=some v) :
  dR Tryz.prog R9 94 0 none RJ T [] Q:=by
 unfold RJ;refine wp_loop bX ?_;refine .intro (fun m T H=>∃ (s1:Int),T=Hc 19 [(0,(p4 s .shared)),(1,(.func rX [] rh)),(7,(hW (s.length:Int))),(8,(hW s1))]∧H=[]∧MS s f qq m s1=some v) qc ⟨s1,rfl,rfl,h⟩ ?_;clear h bX;rintro m T H ⟨s1,rfl,rfl,h⟩;cases m
 ·exact rj h
 rename_i m;rw [MS.eq_2] at h;conv=>whnf
 refine bs h (fun gG h=>?_) fun gG h=>?_
 ·rw [gG];conv=>whnf
  refine qx h id fun gH h=>?_;rw [qX p0 2 qv s s1 gH];conv=>whnf
  obtain ⟨aT,qs,h⟩:=qm h;refine ⟨_,_,call6 (bs:=((.agg [(hW (ix s s1).1),(hW (ix s s1).2)])::rh)) (by simp only [sG,r8.ir,r8.cr];rfl) (by simp only [sG,r8.ir];exact (p2 (Kf (p2 rfl (p2 rfl rfl))) r8.M5)) (Iz _ _ qs) rfl,?_⟩;conv=>whnf
  cases aT
  ·(conv=>whnf);replace h:=Hl rfl h;exact ⟨m,sA m,(w (s1+(1:Int))),rfl,rfl,h⟩
  ·(conv=>whnf);replace h:=Hm rfl h;exact qi h jD rfl rfl
 ·rw [gG];conv=>whnf
  exact r9  _ h ⟨rfl,rfl⟩
theorem Rj {s:p8} {f:((Int×Int)→Option Bool)} {rX:FuncId} {rh:List I} (r8:sk rh) (Iz:∀ (qV:(Int×Int)) (r:Bool),f qV=some r→qB rX ((.agg [(hW qV.1),(hW qV.2)])::rh) (B r)) {v:Int} (h:LY s f=some v):qB 94 [(.ax (s.flatMap p0) s.length .shared),(.func rX [] rh)] (hW v):=by
 refine q5 et ag1 rfl rfl fun Q bp=>?_;have jD:qR [.tmp 4] Q (fun v=>(hW v)) v:=fun T H bI=>bp _ T H bI;unfold LY at h;unfold aci;obtain ⟨II,q'⟩:∃ c,RJ=c:=⟨_,rfl⟩;rw [q'];conv=>whnf
 subst q';refine alE r8 Iz ?_ ?_ (by exact rfl) h
 ·exact fun T H bI=>jD T H bI
 ·intro  p7 h qe;obtain ⟨qG,rfl⟩:=qe.ex;conv=>whnf
  exact qi h jD rfl rfl

noncomputable def ab6:fW :=
 pZ [GC 4 [.lT (.bool false)] .mP] (pZ [pY 5 0,pY 6 1,GC 7 [.lT (.func 94 [] []),.sl 5,.sl 6] (.call 6),qA 8 7 0 .geq,pY 4 8] .ret)
theorem agP:zE Tryz.prog WB 67=some (ab6,9,[.tmp 4]):=by kernel_rfl
def N6 (s:p8) (f:((Int×Int)→Option Bool)):Option Bool :=
 (LY s f).bind fun aT =>
 some (decide ((0:Int)≤aT))
theorem abg {s:p8} {f:((Int×Int)→Option Bool)} {rX:FuncId} {rh:List I} (r8:sk rh) (Iz:∀ (qV:(Int×Int)) (r:Bool),f qV=some r→qB rX ((.agg [(hW qV.1),(hW qV.2)])::rh) (B r)) {v:Bool} (h:N6 s f=some v):qB 67 [(.ax (s.flatMap p0) s.length .shared),(.func rX [] rh)] (B v):=by
 refine q5 et agP rfl rfl fun Q bp=>?_;have jD:qR [.tmp 4] Q (fun v=>(B v)) v:=fun T H bI=>bp _ T H bI;unfold N6 at h;unfold ab6;conv=>whnf
 obtain ⟨aT,gG,h⟩:=qm h;refine ⟨_,_,Ja (cs:=[(p4 s .shared),(.func rX [] rh)]) (bs:=[(p4 s .shared),(.func rX [] rh)]) (rA rfl (rA (r8.fn _ _) rY)) (by rfl) (by exact (p2 (q4 (fun _=>(p2 rfl (p2 rfl rfl))) _ _ _) (p2 (r8.OV _) rfl))) (Rj r8 Iz gG) rfl,?_⟩;conv=>whnf
 exact qi h jD rfl rfl

noncomputable def N8:fW :=
 .loop (some (qb false [1,1,5,1,2,1,28,3,40])) (pZ [GC 42 [.sl 41,.sl 40] (.bin .lss)] (.seq (.cond (.sl 42) .skip (.exit 1)) (.seq (.block 2 (pZ [GC 43 [.sl 39,.sl 41] (.kR 2),GC 44 [.Bt 43] (.zy (.str 2)),GC 12 [] (.alloc [.int .i64 0,.int .i64 0]),⟨none,[.sl 12,.jh 44],none,none,.st 2⟩] (.seq (pZ [GC 45 [.sl 12] (.yH 0),qo 46 45,GC 47 [.sl 10,.Bt 46] (.zo 10 1),qo 48 47,qA 49 48 0 .gtr] (.cond (.sl 49) (pZ [qd 4 0,qd 5 0,qd 6 11] .ret) .skip)) (qK [qW 50 12 0,qo 51 50,GC 52 [.sl 10,.Bt 51] (.zo 10 1),⟨none,[.jh 52,.lT (.int .i64 1)],none,none,.st 1⟩])))) (qK [qU 53 41 1,pY 41 53]))))
noncomputable def Rs:fW :=
 .loop (some (qb false [7,1,5,1,1,1,47,3,16])) (pZ [GC 66 [.sl 65,.sl 64] (.bin .lss)] (.seq (.cond (.sl 66) .skip (.exit 3)) (.seq (.block 4 (pZ [GC 67 [.sl 63,.sl 65] (.kR 2),GC 68 [.Bt 67] (.zy (.str 2)),GC 17 [] (.alloc [.int .i64 0,.int .i64 0]),⟨none,[.sl 17,.jh 68],none,none,.st 2⟩] (pZ [p1 70 7,GC 71 [.Bt 17] (.zy (.str 2)),GC 72 [.lT (.func 68 [] []),.sl 70,.sl 71] (.call 3),pY 69 72,rI 73 69 0,GC 74 [.Bt 69] (.ext 1),pY 18 73,pY 19 74] (.seq (pZ [pY 75 18,pY 76 15,qT 77 75 76 .neq] (.cond (.sl 77) (pZ [qd 4 0,qd 5 0,qd 6 27] .ret) .skip)) (qK [pY 78 19,pY 15 78]))))) (qK [qU 79 65 1,pY 65 79]))))
noncomputable def abN:fW :=
 pZ [GC 2 [.jh 0] .box, qd 4 0, qd 5 0, qd 6 0] (pZ [GC 21 [.sl 2] (.zy (.str 2)), GC 22 [.lT (.func 64 [] []), .sl 21] (.call 3), pY 20 22, rI 23 20 0, GC 24 [.Bt 20] (.ext 1), pY 7 23, pY 8 24] (pZ [GC 25 [.Bt 2] (.zS 65 0 1), pY 9 25] (.seq (.block 0 (pZ [p1 27 8, qA 28 27 0 .neq, pY 26 28] (.cond (.sl 26) (pZ [pY 29 8, qd 4 0, qd 5 0, pY 6 29] .ret) (pZ [p1 31 1, qI 32 31, qA 33 32 0 .eql, pY 30 33] (.cond (.sl 30) (pZ [qd 4 0, qd 5 0, qd 6 6] .ret) (pZ [p1 35 1, pY 36 9, GC 37 [.lT (.func 67 [] []), .sl 35, .sl 36] (.call 6), pY 34 37] (.cond (.sl 34) (pZ [qd 4 0, qd 5 0, qd 6 3] .ret) .skip))))))) (pZ [GC 10 [] (.alloc [.int .i64 0, .int .i64 0, .int .i64 0, .int .i64 0, .int .i64 0, .int .i64 0, .int .i64 0, .int .i64 0, .int .i64 0, .int .i64 0])] (pZ [GC 38 [.sl 10] (.other (Oper.mk (some 38) (Op.slice 89 (Operand.tmp 10) none none none) 38 "match.go:50" (Array.mk []) none) 0), ⟨none, [.jh 38], none, none, .other (Oper.mk none (Op.call (Call.mk (Callee.builtin Builtin.clear) (Array.mk [Operand.tmp 38]) (Array.mk [38]))) 0 "match.go:50" (Array.mk [Edge.mk 0 Ground.data]) none) 0⟩] (.seq (pZ [p1 39 1, GC 40 [.sl 39] .zD, qd 41 0] (.block 1 N8)) (pZ [p1 55 7, p1 56 1, GC 57 [.Bt 56, .lT (.int .i64 0)] (.kR 2), GC 58 [.Bt 57] (.zy (.str 2)), GC 59 [.lT (.func 68 [] []), .sl 55, .sl 58] (.call 3), pY 54 59, rI 60 54 0, GC 61 [.Bt 54] (.ext 1), pY 13 60, pY 14 61] (pZ [p1 62 13, pY 15 62] (.seq (pZ [pY 63 1, GC 64 [.sl 63] .zD, qd 65 0] (.block 3 Rs)) (pZ [pY 80 13, pY 81 15, pY 4 80, pY 5 81, qd 6 0] .ret))))))))))
theorem agw:zE Tryz.prog Od 18=some (abN,82,[.tmp 4,.tmp 5,.tmp 6]):=by kernel_rfl
def Pk (row:p8) (qq:Unit→Option (Int×Int×Int)):Nat→Int→qt→Option (Int×Int×Int)
 | 0,_,_=>none
 | m+1,s1,s2 =>
   if (decide (s1<(row.length:Int)))=true then
    qg (0≤s1∧s1<(row.length:Int)) <|
    qg (0≤(ix row s1).1∧(ix row s1).1<(10:Int)∧10=s2.length) <|
    if (decide ((0:Int)<(ix s2 ((ix row s1).1))))=true then
     some ((0:Int),(0:Int),(11:Int))
    else
     qg (0≤(ix row s1).1∧(ix row s1).1<(10:Int)∧10=s2.length) <|
     Pk row qq m (w (s1+(1:Int))) (s2.set ((ix row s1).1).toNat (1:Int))
   else
    qq ()
def MA (row:p8) (qM:Unit→Option (Int×Int×Int)):Nat→Int→qt→Option (Int×Int×Int)
 | 0,_,_=>none
 | m+1,di,G' =>
   if (decide (di<(row.length:Int)))=true then
    qg (0≤di∧di<(row.length:Int)) <|
    qg (0≤(ix row di).1∧(ix row di).1<(10:Int)∧10=G'.length) <|
    if (decide ((0:Int)<(ix G' ((ix row di).1))))=true then
     some ((0:Int),(0:Int),(11:Int))
    else
     qg (0≤(ix row di).1∧(ix row di).1<(10:Int)∧10=G'.length) <|
     MA row qM m (w (di+(1:Int))) (G'.set ((ix row di).1).toNat (1:Int))
   else
    qM ()
def MB (row:p8) (bS:qn) (rk:Int→Option (Int×Int×Int)):Nat→Int→Int→Option (Int×Int×Int)
 | 0,_,_=>none
 | m+1,qu,p' =>
   if (decide (p'<(row.length:Int)))=true then
    qg (0≤p'∧p'<(row.length:Int)) <|
    (LU bS (ix row p')).bind fun r5 =>
    if (decide (r5.1≠qu))=true then
     some ((0:Int),(0:Int),(27:Int))
    else
     MB row bS rk m r5.2 (w (p'+(1:Int)))
   else
    rk qu
def LO (b:qn) (row:p8):Option (Int×Int×Int) :=
 (Kl b).bind fun aT =>
 match aT with
 | (none,q1) =>
   if (decide (q1≠(0:Int)))=true then
    some ((0:Int),(0:Int),q1)
   else
    if (decide ((row.length:Int)=(0:Int)))=true then
     some ((0:Int),(0:Int),(6:Int))
    else
     (N6 row (fun qV=>N5 qV b)).bind fun r2 =>
     if r2=true then
      some ((0:Int),(0:Int),(3:Int))
     else
      qg ((List.replicate 10 (0:Int)).length=10) <|
      Pk row (fun _ =>
        qg (0≤(0:Int)∧(0:Int)<(row.length:Int)) <|
        none) qc (0:Int) (List.replicate 10 (0:Int))
 | (some bS,q1) =>
   if (decide (q1≠(0:Int)))=true then
    some ((0:Int),(0:Int),q1)
   else
    if (decide ((row.length:Int)=(0:Int)))=true then
     some ((0:Int),(0:Int),(6:Int))
    else
     (N6 row (fun qV=>N5 qV b)).bind fun eL =>
     if eL=true then
      some ((0:Int),(0:Int),(3:Int))
     else
      qg ((List.replicate 10 (0:Int)).length=10) <|
      MA row (fun _ =>
        qg (0≤(0:Int)∧(0:Int)<(row.length:Int)) <|
        (LU bS (ix row (0:Int))).bind fun q6 =>
        MB row bS (fun yh =>
          some (q6.1,yh,(0:Int))) qc q6.1 (0:Int)) qc (0:Int) (List.replicate 10 (0:Int))
theorem akz {row:p8} {qq:Unit→Option (Int×Int×Int)} {s1:Int} {s2:qt} {v:(Int×Int×Int)} {Q:rf} {bE:ar}  (jD:qR [.tmp 4,.tmp 5,.tmp 6] Q (fun v=>(.tuple [(hW v.1),(hW v.2.1),(hW v.2.2)])) v) (r9:∀ (bR:ar) (ql:List ar) (p7:List I),qq ()=some v→qQ 82 [(1,(p4 row .shared)),(7,.eJ)] p7→Q (.exit 1) p7 (bE::bR::ql)) {T:List I} (bX:e0 (qb false [1,1,5,1,2,1,28,3,40]) T=Hc 82 [(1,(p4 row .shared)),(7,.eJ),(10,(.ptr 1 0)),(39,(p4 row .shared)),(40,(hW (row.length:Int))),(41,(hW s1))]) (h:Pk row qq qc s1 s2=some v) :
  dR Tryz.prog Od 18 0 none N8 T [bE,ar.cells (s2.map hW)] Q:=by
 unfold N8;refine wp_loop bX ?_;refine .intro (fun m T H=>∃ (s1:Int) (s2:qt) (Ob:List ar),T=Hc 82 [(1,(p4 row .shared)),(7,.eJ),(10,(.ptr 1 0)),(39,(p4 row .shared)),(40,(hW (row.length:Int))),(41,(hW s1))]∧H=(bE::ar.cells (s2.map hW)::Ob)∧Pk row qq m s1 s2=some v) qc ⟨s1,s2,[],rfl,rfl,h⟩ ?_;clear h bX;rintro m T H ⟨s1,s2,Ob,rfl,rfl,h⟩;cases m
 ·exact rj h
 rename_i m;rw [Pk.eq_2] at h;conv=>whnf
 refine bs h (fun ra h=>?_) fun ra h=>?_
 ·rw [ra];conv=>whnf
  refine qx h id fun q7 h=>?_;rw [qX p0 2 qv row s1 q7];conv=>whnf
  refine Es (x:=ar.cells [(hW (0:Int)),(hW (0:Int))]) (by first | exact qy.h | rfl | (simp [sy,I.settle];done)) ?_
  conv=>whnf
  rw [rB];refine Es (x:=ar.cells [(hW (ix row s1).1),(hW (ix row s1).2)]) (by first | exact qy.h | rfl | (simp [sy,I.settle];done)) ?_
  conv=>whnf
  obtain ⟨q8,h⟩:=qC h;refine ⟨⟨q8.1,q8.2.1⟩,?_⟩;replace q8:0≤(ix row s1).1∧(ix row s1).1<(s2.length:Int):=⟨q8.1,by have:=q8.2;omega⟩;conv=>whnf
  refine QI hW s2 ((ix row s1).1) q8 ?_;conv=>whnf
  refine bs h (fun rp h=>?_) fun rp h=>?_
  ·rw [rp];(conv=>whnf);exact qi h jD rfl rfl
  ·rw [rp];(conv=>whnf);refine Es (x:=ar.cells [(hW (ix row s1).1),(hW (ix row s1).2)]) (by first | exact qy.h | rfl | (simp [sy,I.settle];done)) ?_
   (conv=>whnf);obtain ⟨qP,h⟩:=qC h;refine ⟨⟨qP.1,qP.2.1⟩,?_⟩;replace qP:0≤(ix row s1).1∧(ix row s1).1<(s2.length:Int):=⟨qP.1,by have:=qP.2;omega⟩;(conv=>whnf);refine Q2 hW s2 ((ix row s1).1) (1:Int) qP ?_;(conv=>whnf);exact ⟨m,sA m,(w (s1+(1:Int))),(s2.set ((ix row s1).1).toNat (1:Int)),_,rfl,rfl,h⟩
 ·rw [ra];conv=>whnf
  exact r9 _ _ _ h ⟨rfl,rfl⟩
theorem akA {row:p8} {qM:Unit→Option (Int×Int×Int)} {di:Int} {G':qt} {bS:qn} {v:(Int×Int×Int)} {Q:rf} {bE:ar}  (jD:qR [.tmp 4,.tmp 5,.tmp 6] Q (fun v=>(.tuple [(hW v.1),(hW v.2.1),(hW v.2.2)])) v) (Ie:∀ (ie:ar) (ql:List ar) (p7:List I),qM ()=some v→qQ 82 [(1,(p4 row .shared)),(7,(.bU [(hW bS.1),(p4 bS.2 .shared)]))] p7→Q (.exit 1) p7 (bE::ie::ql)) {T:List I} (bX:e0 (qb false [1,1,5,1,2,1,28,3,40]) T=Hc 82 [(1,(p4 row .shared)),(7,(.bU [(hW bS.1),(p4 bS.2 .shared)])),(10,(.ptr 1 0)),(39,(p4 row .shared)),(40,(hW (row.length:Int))),(41,(hW di))]) (h:MA row qM qc di G'=some v) :
  dR Tryz.prog Od 18 0 none N8 T [bE,ar.cells (G'.map hW)] Q:=by
 unfold N8;refine wp_loop bX ?_;refine .intro (fun m T H=>∃ (di:Int) (G':qt) (Ob:List ar),T=Hc 82 [(1,(p4 row .shared)),(7,(.bU [(hW bS.1),(p4 bS.2 .shared)])),(10,(.ptr 1 0)),(39,(p4 row .shared)),(40,(hW (row.length:Int))),(41,(hW di))]∧H=(bE::ar.cells (G'.map hW)::Ob)∧MA row qM m di G'=some v) qc ⟨di,G',[],rfl,rfl,h⟩ ?_;clear h bX;rintro m T H ⟨di,G',Ob,rfl,rfl,h⟩;cases m
 ·exact rj h
 rename_i m;rw [MA.eq_2] at h;conv=>whnf
 refine bs h (fun HV h=>?_) fun HV h=>?_
 ·rw [HV];conv=>whnf
  refine qx h id fun Ix h=>?_;rw [qX p0 2 qv row di Ix];conv=>whnf
  refine Es (x:=ar.cells [(hW (0:Int)),(hW (0:Int))]) (by first | exact qy.h | rfl | (simp [sy,I.settle];done)) ?_
  conv=>whnf
  rw [rB];refine Es (x:=ar.cells [(hW (ix row di).1),(hW (ix row di).2)]) (by first | exact qy.h | rfl | (simp [sy,I.settle];done)) ?_
  conv=>whnf
  obtain ⟨sg,h⟩:=qC h;refine ⟨⟨sg.1,sg.2.1⟩,?_⟩;replace sg:0≤(ix row di).1∧(ix row di).1<(G'.length:Int):=⟨sg.1,by have:=sg.2;omega⟩;conv=>whnf
  refine QI hW G' ((ix row di).1) sg ?_;conv=>whnf
  refine bs h (fun H7 h=>?_) fun H7 h=>?_
  ·rw [H7];(conv=>whnf);exact qi h jD rfl rfl
  ·rw [H7];(conv=>whnf);refine Es (x:=ar.cells [(hW (ix row di).1),(hW (ix row di).2)]) (by first | exact qy.h | rfl | (simp [sy,I.settle];done)) ?_
   (conv=>whnf);obtain ⟨Hn,h⟩:=qC h;refine ⟨⟨Hn.1,Hn.2.1⟩,?_⟩;replace Hn:0≤(ix row di).1∧(ix row di).1<(G'.length:Int):=⟨Hn.1,by have:=Hn.2;omega⟩;(conv=>whnf);refine Q2 hW G' ((ix row di).1) (1:Int) Hn ?_;(conv=>whnf);exact ⟨m,sA m,(w (di+(1:Int))),(G'.set ((ix row di).1).toNat (1:Int)),_,rfl,rfl,h⟩
 ·rw [HV];conv=>whnf
  exact Ie _ _ _ h ⟨rfl,rfl⟩
theorem akB {row:p8} {bS:qn} {rk:Int→Option (Int×Int×Int)} {qu:Int} {p':Int} {q6:(Int×Int)} {v:(Int×Int×Int)} {Q:rf} {bE:ar} {ie:ar} {ql:List ar} (jD:qR [.tmp 4,.tmp 5,.tmp 6] Q (fun v=>(.tuple [(hW v.1),(hW v.2.1),(hW v.2.2)])) v) (I3:∀ (yh:Int) (ql:List ar) (p7:List I),rk yh=some v→qQ 82 [(13,(hW q6.1)),(15,(hW yh))] p7→Q (.exit 3) p7 (bE::ie::ql)) {T:List I} (bX:e0 (qb false [7,1,5,1,1,1,47,3,16]) T=Hc 82 [(7,(.bU [(hW bS.1),(p4 bS.2 .shared)])),(13,(hW q6.1)),(15,(hW qu)),(63,(p4 row .shared)),(64,(hW (row.length:Int))),(65,(hW p'))]) (h:MB row bS rk qc qu p'=some v) :
  dR Tryz.prog Od 18 0 none Rs T (bE::ie::ql) Q:=by
 unfold Rs;refine wp_loop bX ?_;refine .intro (fun m T H=>∃ (qu p':Int) (VY:List ar),T=Hc 82 [(7,(.bU [(hW bS.1),(p4 bS.2 .shared)])),(13,(hW q6.1)),(15,(hW qu)),(63,(p4 row .shared)),(64,(hW (row.length:Int))),(65,(hW p'))]∧H=(bE::ie::VY)∧MB row bS rk m qu p'=some v) qc ⟨qu,p',ql,rfl,rfl,h⟩ ?_;clear h bX;rintro m T H ⟨qu,p',VY,rfl,rfl,h⟩;cases m
 ·exact rj h
 rename_i m;rw [MB.eq_2] at h;conv=>whnf
 refine bs h (fun Jz h=>?_) fun Jz h=>?_
 ·rw [Jz];conv=>whnf
  refine qx h id fun JV h=>?_;rw [qX p0 2 qv row p' JV];conv=>whnf
  refine Es (x:=ar.cells [(hW (0:Int)),(hW (0:Int))]) (by first | exact qy.h | rfl | (simp [sy,I.settle];done)) ?_
  conv=>whnf
  rw [rB];refine Es (x:=ar.cells [(hW (ix row p').1),(hW (ix row p').2)]) (by first | exact qy.h | rfl | (simp [sy,I.settle];done)) ?_
  conv=>whnf
  obtain ⟨r5,JW,h⟩:=qm h;refine ⟨qw.pl,_,KT JW,?_⟩;conv=>whnf
  refine bs h (fun Iy h=>?_) fun Iy h=>?_
  ·rw [Iy];(conv=>whnf);exact qi h jD rfl rfl
  ·rw [Iy];(conv=>whnf);exact ⟨m,sA m,r5.2,(w (p'+(1:Int))),_,rfl,rfl,h⟩
 ·rw [Jz];conv=>whnf
  exact I3 _ _ _ h ⟨rfl,rfl⟩
theorem Q7 {b:qn} {row:p8} {v:(Int×Int×Int)} (h:LO b row=some v):qB 18 [(.agg [(hW b.1),(.ax (b.2.flatMap p0) b.2.length .shared)]),(.ax (row.flatMap p0) row.length .shared)] (.tuple [(hW v.1),(hW v.2.1),(hW v.2.2)]):=by
 refine q5 et agw rfl (JZ (p2 rfl (p2 rfl (p2 rfl rfl)))) fun Q bp=>?_;have jD:qR [.tmp 4,.tmp 5,.tmp 6] Q (fun v=>(.tuple [(hW v.1),(hW v.2.1),(hW v.2.2)])) v:=fun T H bI=>bp _ T H bI;unfold LO at h;unfold abN;obtain ⟨II,q'⟩:∃ c,N8=c:=⟨_,rfl⟩;rw [q'];obtain ⟨L7,Hj⟩:∃ c,Rs=c:=⟨_,rfl⟩;rw [Hj];conv=>whnf
 obtain ⟨aT,gG,h⟩:=qm h;rcases aT with ⟨_ | bS,q1⟩
 ·refine ⟨qw.pl,_,LR gG,?_⟩;conv=>whnf
  refine bs h (fun gH h=>?_) fun gH h=>?_
  ·rw [gH];(conv=>whnf);exact qi h jD rfl rfl
  ·rw [gH];(conv=>whnf);refine bs h (fun qs h=>?_) fun qs h=>?_
   ·rw [qs];(conv=>whnf);exact qi h jD rfl rfl
   ·rw [qs];(conv=>whnf);obtain ⟨r2,qF,h⟩:=qm h;refine ⟨_,_,Ja (cs:=[(p4 row .shared),(.func 65 [] [(.bU [(hW b.1),(p4 b.2 .shared)])])]) (bs:=[(p4 row .shared),(.func 65 [] [(.bU [(hW b.1),(p4 b.2 .shared)])])]) (rA rfl (rA (KQ rY (rA (Jk (cs:=[(hW b.1),(p4 b.2 .shared)]) (by first | exact qy.h | rfl | (simp [sy,I.settle];done)) rfl) rY)) rY)) (by rfl) (by exact (p2 (q4 (fun _=>(p2 rfl (p2 rfl rfl))) _ _ _) (p2 (Kg rfl (p2 (re (p2 rfl (p2 (q4 (fun _=>(p2 rfl (p2 rfl rfl))) _ _ _) rfl))) rfl)) rfl))) (abg ⟨(p2 (re (p2 rfl (p2 (q4 (fun _=>(p2 rfl (p2 rfl rfl))) _ _ _) rfl))) rfl),by simp⟩ (fun _ _ aZ=>abf aZ) qF) rfl,?_⟩
    (conv=>whnf);cases r2
    ·(conv=>whnf);replace h:=Hl rfl h;refine ⟨_,_,fun C=>YC rfl (e:=3) (len:=10) (by kernel_rfl) (by kernel_rfl) (by decide),?_⟩;(conv=>whnf);obtain ⟨qH,h⟩:=qC h;refine ⟨_,_,fun C=>(OT rfl).trans (W4 (e:=3) (l:=(List.replicate 10 (0:Int))) (by kernel_rfl) (by kernel_rfl) (by kernel_rfl) (sP _) (by first | exact qy.h | rfl | (simp [sy,I.settle];done)) qH),?_⟩
     (conv=>whnf);subst q';refine akz ?_ ?_ (by exact rfl) h
     ·exact fun T H bI=>jD T H bI
     ·intro bR ql p7 h qe;obtain ⟨qG,rfl⟩:=qe.ex;(conv=>whnf);refine qx h id fun rq h=>?_;rw [qX p0 2 qv row (0:Int) rq];(conv=>whnf);exact rj h
    ·(conv=>whnf);replace h:=Hm rfl h;exact qi h jD rfl rfl
 ·refine ⟨qw.pl,_,LR gG,?_⟩;conv=>whnf
  refine bs h (fun rV h=>?_) fun rV h=>?_
  ·rw [rV];(conv=>whnf);exact qi h jD rfl rfl
  ·rw [rV];(conv=>whnf);refine bs h (fun rD h=>?_) fun rD h=>?_
   ·rw [rD];(conv=>whnf);exact qi h jD rfl rfl
   ·rw [rD];(conv=>whnf);obtain ⟨eL,HF,h⟩:=qm h;refine ⟨_,_,Ja (cs:=[(p4 row .shared),(.func 65 [] [(.bU [(hW b.1),(p4 b.2 .shared)])])]) (bs:=[(p4 row .shared),(.func 65 [] [(.bU [(hW b.1),(p4 b.2 .shared)])])]) (rA rfl (rA (KQ rY (rA (Jk (cs:=[(hW b.1),(p4 b.2 .shared)]) (by first | exact qy.h | rfl | (simp [sy,I.settle];done)) rfl) rY)) rY)) (by rfl) (by exact (p2 (q4 (fun _=>(p2 rfl (p2 rfl rfl))) _ _ _) (p2 (Kg rfl (p2 (re (p2 rfl (p2 (q4 (fun _=>(p2 rfl (p2 rfl rfl))) _ _ _) rfl))) rfl)) rfl))) (abg ⟨(p2 (re (p2 rfl (p2 (q4 (fun _=>(p2 rfl (p2 rfl rfl))) _ _ _) rfl))) rfl),by simp⟩ (fun _ _ aZ=>abf aZ) HF) rfl,?_⟩
    (conv=>whnf);cases eL
    ·(conv=>whnf);replace h:=Hl rfl h;refine ⟨_,_,fun C=>YC rfl (e:=3) (len:=10) (by kernel_rfl) (by kernel_rfl) (by decide),?_⟩;(conv=>whnf);obtain ⟨IK,h⟩:=qC h;refine ⟨_,_,fun C=>(OT rfl).trans (W4 (e:=3) (l:=(List.replicate 10 (0:Int))) (by kernel_rfl) (by kernel_rfl) (by kernel_rfl) (sP _) (by first | exact qy.h | rfl | (simp [sy,I.settle];done)) IK),?_⟩
     (conv=>whnf);subst q';refine akA ?_ ?_ (by exact rfl) h
     ·exact fun T H bI=>jD T H bI
     ·intro ie ql p7 h qe;obtain ⟨qG,rfl⟩:=qe.ex;(conv=>whnf);refine qx h id fun HW h=>?_;rw [qX p0 2 qv row (0:Int) HW];(conv=>whnf);obtain ⟨q6,HO,h⟩:=qm h;refine ⟨qw.pl,_,KT HO,?_⟩;(conv=>whnf);subst Hj;refine akB ?_ ?_ (by exact rfl) h
      ·exact fun T H bI=>jD T H bI
      ·intro yh ql p7 h qe;obtain ⟨qG,rfl⟩:=qe.ex;(conv=>whnf);exact qi h jD rfl rfl
    ·(conv=>whnf);replace h:=Hm rfl h;exact qi h jD rfl rfl

noncomputable def Rw:fW :=
 .loop (some (qb false [1,1,1,1,49])) (.seq (pZ [p1 19 3,GC 20 [.sl 1] (.yH 1),qo 21 20,qI 22 21,qT 23 19 22 .lss] (.cond (.sl 23) .skip (.exit 0))) (.seq (.block 1 (pZ [GC 26 [.sl 1] (.yH 1),qo 27 26,p1 28 3,qZ 29 27 28 2,GC 30 [.Bt 29] (.zy (.str 2)),GC 4 [] (.alloc [.int .i64 0,.int .i64 0]),⟨none,[.sl 4,.jh 30],none,none,.st 2⟩] (pZ [GC 31 [.sl 4] (.yH 0),qo 32 31,qA 33 32 0 .lss,pY 34 33,cS 35 [.sl 4] 34 false (.yH 0),cS 36 [.Bt 35] 34 false (.zy .one),cS 37 [.sl 1] 34 false (.yH 0),cS 38 [.Bt 37] 34 false (.zy .one),cS 39 [.Bt 36,.Bt 38] 34 false (.bin .geq),GC 40 [.Bt 34,.lT (.bool true),.Bt 39] .pick,pY 41 40,cS 42 [.sl 4] 41 false (.yH 1),cS 43 [.Bt 42] 41 false (.zy .one),cS 44 [.Bt 43,.lT (.int .i64 0)] 41 false (.bin .lss),GC 45 [.Bt 41,.lT (.bool true),.Bt 44] .pick,pY 46 45,cS 47 [.Bt 4] 46 false (.yH 1),cS 48 [.Bt 47] 46 false (.zy .one),cS 49 [.sl 1] 46 false (.yH 0),cS 50 [.Bt 49] 46 false (.zy .one),cS 51 [.Bt 48,.Bt 50] 46 false (.bin .geq),GC 52 [.Bt 46,.lT (.bool true),.Bt 51] .pick] (.cond (.sl 52) (pZ [qd 2 3] .ret) .skip)))) (qK [pY 24 3,qU 25 24 1,pY 3 25])))
noncomputable def abQ:fW :=
 pZ [GC 1 [.jh 0] .box,qd 2 0] (.seq (pZ [GC 5 [.sl 1] (.yH 0),qo 6 5,qA 7 6 1 .lss,pY 8 7,cS 9 [.sl 1] 8 false (.yH 0),cS 10 [.Bt 9] 8 false (.zy .one),cS 11 [.Bt 10,.lT (.int .i64 6)] 8 false (.bin .gtr),GC 12 [.Bt 8,.lT (.bool true),.Bt 11] .pick,pY 13 12,cS 14 [.sl 1] 13 false (.yH 1),cS 15 [.Bt 14] 13 false (.zy .one),cS 16 [.jh 15] 13 false .zD,cS 17 [.Bt 16,.lT (.int .i64 10)] 13 false (.bin .gtr),GC 18 [.Bt 13,.lT (.bool true),.Bt 17] .pick] (.cond (.sl 18) (pZ [qd 2 6] .ret) .skip)) (.seq (pZ [qd 3 0] (.block 0 Rw)) (pZ [qd 2 0] .ret)))
theorem agz:zE Tryz.prog R3 21=some (abQ,53,[.tmp 2]):=by kernel_rfl
def MG (b:qn) (qq:Unit→Option Int):Nat→Int→Option Int
 | 0,_=>none
 | m+1,s1 =>
   if (decide (s1<(b.2.length:Int)))=true then
    qg (0≤s1∧s1<(b.2.length:Int)) <|
    if (decide ((ix b.2 s1).1<(0:Int)))=true then
     some (3:Int)
    else
     if (decide (b.1≤(ix b.2 s1).1))=true then
      some (3:Int)
     else
      if (decide ((ix b.2 s1).2<(0:Int)))=true then
       some (3:Int)
      else
       if (decide (b.1≤(ix b.2 s1).2))=true then
        some (3:Int)
       else
        MG b qq m (w (s1+(1:Int)))
   else
    qq ()
def KR (b:qn):Option Int :=
 if (decide (b.1<(1:Int)))=true then
  some (6:Int)
 else
  if (decide ((6:Int)<b.1))=true then
   some (6:Int)
  else
   if (decide ((10:Int)<(b.2.length:Int)))=true then
    some (6:Int)
   else
    MG b (fun _ =>
      some (0:Int)) qc (0:Int)
theorem akH {b:qn} {qq:Unit→Option Int} {s1:Int} {v:Int} {Q:rf}   (jD:qR [.tmp 2] Q (fun v=>(hW v)) v) (r9:∀ (bE:ar) (ql:List ar) (p7:List I),qq ()=some v→qQ 53 [] p7→Q (.exit 0) p7 (bE::ql)) {T:List I} (bX:e0 (qb false [1,1,1,1,49]) T=Hc 53 [(1,(.ptr 0 0)),(3,(hW s1))]) (h:MG b qq qc s1=some v) :
  dR Tryz.prog R3 21 0 none Rw T [qD b] Q:=by
 unfold Rw;refine wp_loop bX ?_;refine .intro (fun m T H=>∃ (s1:Int) (VZ:List ar),T=Hc 53 [(1,(.ptr 0 0)),(3,(hW s1))]∧H=(qD b::VZ)∧MG b qq m s1=some v) qc ⟨s1,[],rfl,rfl,h⟩ ?_;clear h bX;rintro m T H ⟨s1,VZ,rfl,rfl,h⟩;cases m
 ·exact rj h
 rename_i m;rw [MG.eq_2] at h;conv=>whnf
 refine bs h (fun qF h=>?_) fun qF h=>?_
 ·rw [qF];conv=>whnf
  refine qx h id fun qH h=>?_;rw [qX p0 2 qv b.2 s1 qH];conv=>whnf
  refine Es (x:=ar.cells [(hW (0:Int)),(hW (0:Int))]) (by first | exact qy.h | rfl | (simp [sy,I.settle];done)) ?_
  conv=>whnf
  rw [rB];refine Es (x:=ar.cells [(hW (ix b.2 s1).1),(hW (ix b.2 s1).2)]) (by first | exact qy.h | rfl | (simp [sy,I.settle];done)) ?_
  conv=>whnf
  refine bs h (fun ra h=>?_) fun ra h=>?_
  ·rw [ra];(conv=>whnf);exact qi h jD rfl rfl
  ·rw [ra];(conv=>whnf);refine Es (x:=ar.cells [(hW (ix b.2 s1).1),(hW (ix b.2 s1).2)]) (by first | exact qy.h | rfl | (simp [sy,I.settle];done)) ?_
   (conv=>whnf);refine bs h (fun q7 h=>?_) fun q7 h=>?_
   ·rw [q7];(conv=>whnf);exact qi h jD rfl rfl
   ·rw [q7];(conv=>whnf);refine Es (x:=ar.cells [(hW (ix b.2 s1).1),(hW (ix b.2 s1).2)]) (by first | exact qy.h | rfl | (simp [sy,I.settle];done)) ?_
    (conv=>whnf);refine bs h (fun q8 h=>?_) fun q8 h=>?_
    ·rw [q8];(conv=>whnf);exact qi h jD rfl rfl
    ·rw [q8];(conv=>whnf);refine Es (x:=ar.cells [(hW (ix b.2 s1).1),(hW (ix b.2 s1).2)]) (by first | exact qy.h | rfl | (simp [sy,I.settle];done)) ?_
     (conv=>whnf);refine bs h (fun rp h=>?_) fun rp h=>?_
     ·rw [rp];(conv=>whnf);exact qi h jD rfl rfl
     ·rw [rp];(conv=>whnf);exact ⟨m,sA m,(w (s1+(1:Int))),_,rfl,rfl,h⟩
 ·rw [qF];conv=>whnf
  exact r9 _ _ _ h ⟨rfl,rfl⟩
theorem Pl {b:qn} {v:Int} (h:KR b=some v):qB 21 [(.agg [(hW b.1),(.ax (b.2.flatMap p0) b.2.length .shared)])] (hW v):=by
 refine q5 et agz rfl rfl fun Q bp=>?_;have jD:qR [.tmp 2] Q (fun v=>(hW v)) v:=fun T H bI=>bp _ T H bI;unfold KR at h;unfold abQ;obtain ⟨II,q'⟩:∃ c,Rw=c:=⟨_,rfl⟩;rw [q'];conv=>whnf
 refine bs h (fun gG h=>?_) fun gG h=>?_
 ·rw [gG];conv=>whnf
  exact qi h jD rfl rfl
 ·rw [gG];conv=>whnf
  refine bs h (fun gH h=>?_) fun gH h=>?_
  ·rw [gH];(conv=>whnf);exact qi h jD rfl rfl
  ·rw [gH];(conv=>whnf);refine bs h (fun qs h=>?_) fun qs h=>?_
   ·rw [qs];(conv=>whnf);exact qi h jD rfl rfl
   ·rw [qs];(conv=>whnf);subst q';refine akH ?_ ?_ (by exact rfl) h
    ·exact fun T H bI=>jD T H bI
    ·intro bE ql p7 h qe;obtain ⟨qG,rfl⟩:=qe.ex;(conv=>whnf);exact qi h jD rfl rfl

noncomputable def ab2:fW :=
 pZ [GC 2 [.jh 0] .box,GC 3 [.jh 1] .box,qd 4 0] (.seq (pZ [GC 5 [.sl 3] (.yH 1),qo 6 5,qA 7 6 1 .eql] (.cond (.sl 7) (pZ [qW 8 2 1,qo 9 8,qW 10 3 0,qo 11 10,qZ 12 9 11 2,qW 13 12 1,qo 14 13,pY 4 14] .ret) .skip)) (pZ [qW 15 2 1,qo 16 15,qW 17 3 0,qo 18 17,qZ 19 16 18 2,qW 20 19 0,qo 21 20,pY 4 21] .ret))
theorem agL:zE Tryz.prog Wx 57=some (ab2,22,[.tmp 4]):=by kernel_rfl
def MK (b:qn) (p:(Int×Int)):Option Int :=
 if (decide (p.2=(1:Int)))=true then
  qg (0≤p.1∧p.1<(b.2.length:Int)) <|
  some ((ix b.2 p.1).2)
 else
  qg (0≤p.1∧p.1<(b.2.length:Int)) <|
  some ((ix b.2 p.1).1)
theorem KS {b:qn} {p:(Int×Int)} {v:Int} (h:MK b p=some v):qB 57 [(.agg [(hW b.1),(.ax (b.2.flatMap p0) b.2.length .shared)]),(.agg [(hW p.1),(hW p.2)])] (hW v):=by
 refine q5 et agL rfl rfl fun Q bp=>?_;have jD:qR [.tmp 4] Q (fun v=>(hW v)) v:=fun T H bI=>bp _ T H bI;unfold MK at h;unfold ab2;conv=>whnf
 refine bs h (fun gG h=>?_) fun gG h=>?_
 ·rw [gG];conv=>whnf
  refine qx h id fun gH h=>?_;rw [qX p0 2 qv b.2 p.1 gH];conv=>whnf
  exact qi h jD rfl rfl
 ·rw [gG];conv=>whnf
  refine qx h id fun qs h=>?_;rw [qX p0 2 qv b.2 p.1 qs];conv=>whnf
  exact qi h jD rfl rfl

noncomputable def RC:fW :=
 .loop (some (qb false [0,2,3,1,13])) (.seq (pZ [p1 6 5,p1 7 0,qI 8 7,qT 9 6 8 .lss] (.cond (.sl 9) .skip (.exit 0))) (.seq (.block 1 (pZ [p1 12 0,p1 13 5,qZ 14 12 13 2,qW 15 14 0,qo 16 15,p1 17 1,qT 18 16 17 .eql] (.cond (.sl 18) (pZ [GC 4 [.lT (.bool true)] .mP] .ret) .skip))) (qK [pY 10 5,qU 11 10 1,pY 5 11])))
noncomputable def ab8:fW :=
 pZ [GC 4 [.lT (.bool false)] .mP] (.seq (pZ [qd 5 0] (.block 0 RC)) (pZ [GC 4 [.lT (.bool false)] .mP] .ret))
theorem agR:zE Tryz.prog R5 69=some (ab8,19,[.tmp 4]):=by kernel_rfl
def MM (row:p8) (Jj:Int) (qq:Unit→Option Bool):Nat→Int→Option Bool
 | 0,_=>none
 | m+1,s1 =>
   if (decide (s1<(row.length:Int)))=true then
    qg (0≤s1∧s1<(row.length:Int)) <|
    if (decide ((ix row s1).1=Jj))=true then
     some true
    else
     MM row Jj qq m (w (s1+(1:Int)))
   else
    qq ()
def ML (row:p8) (Jj:Int):Option Bool :=
 MM row Jj (fun _ =>
   some false) qc (0:Int)
theorem alh {row:p8} {Jj:Int} {qq:Unit→Option Bool} {s1:Int} {v:Bool} {Q:rf}   (jD:qR [.tmp 4] Q (fun v=>(B v)) v) (r9:∀ (p7:List I),qq ()=some v→qQ 19 [] p7→Q (.exit 0) p7 []) {T:List I} (bX:e0 (qb false [0,2,3,1,13]) T=Hc 19 [(0,(p4 row .shared)),(1,(hW Jj)),(5,(hW s1))]) (h:MM row Jj qq qc s1=some v) :
  dR Tryz.prog R5 69 0 none RC T [] Q:=by
 unfold RC;refine wp_loop bX ?_;refine .intro (fun m T H=>∃ (s1:Int),T=Hc 19 [(0,(p4 row .shared)),(1,(hW Jj)),(5,(hW s1))]∧H=[]∧MM row Jj qq m s1=some v) qc ⟨s1,rfl,rfl,h⟩ ?_;clear h bX;rintro m T H ⟨s1,rfl,rfl,h⟩;cases m
 ·exact rj h
 rename_i m;rw [MM.eq_2] at h;conv=>whnf
 refine bs h (fun gG h=>?_) fun gG h=>?_
 ·rw [gG];conv=>whnf
  refine qx h id fun gH h=>?_;rw [qX p0 2 qv row s1 gH];conv=>whnf
  refine bs h (fun qs h=>?_) fun qs h=>?_
  ·rw [qs];(conv=>whnf);exact qi h jD rfl rfl
  ·rw [qs];(conv=>whnf);exact ⟨m,sA m,(w (s1+(1:Int))),rfl,rfl,h⟩
 ·rw [gG];conv=>whnf
  exact r9  _ h ⟨rfl,rfl⟩
theorem Kn {row:p8} {Jj:Int} {v:Bool} (h:ML row Jj=some v):qB 69 [(.ax (row.flatMap p0) row.length .shared),(hW Jj)] (B v):=by
 refine q5 et agR rfl rfl fun Q bp=>?_;have jD:qR [.tmp 4] Q (fun v=>(B v)) v:=fun T H bI=>bp _ T H bI;unfold ML at h;unfold ab8;obtain ⟨II,q'⟩:∃ c,RC=c:=⟨_,rfl⟩;rw [q'];conv=>whnf
 subst q';refine alh ?_ ?_ (by exact rfl) h
 ·exact fun T H bI=>jD T H bI
 ·intro  p7 h qe;obtain ⟨qG,rfl⟩:=qe.ex;conv=>whnf
  exact qi h jD rfl rfl

noncomputable def ab9:fW :=
 pZ [GC 2 [.jh 0] .box,GC 3 [.jh 1] .box,qd 4 0] (.seq (pZ [GC 5 [.sl 3] (.yH 1),qo 6 5,qA 7 6 1 .eql] (.cond (.sl 7) (pZ [qW 8 2 1,qo 9 8,qW 10 3 0,qo 11 10,qZ 12 9 11 2,qW 13 12 0,qo 14 13,pY 4 14] .ret) .skip)) (pZ [qW 15 2 1,qo 16 15,qW 17 3 0,qo 18 17,qZ 19 16 18 2,qW 20 19 1,qo 21 20,pY 4 21] .ret))
theorem agS:zE Tryz.prog WD 70=some (ab9,22,[.tmp 4]):=by kernel_rfl
def MN (b:qn) (p:(Int×Int)):Option Int :=
 if (decide (p.2=(1:Int)))=true then
  qg (0≤p.1∧p.1<(b.2.length:Int)) <|
  some ((ix b.2 p.1).1)
 else
  qg (0≤p.1∧p.1<(b.2.length:Int)) <|
  some ((ix b.2 p.1).2)
theorem KU {b:qn} {p:(Int×Int)} {v:Int} (h:MN b p=some v):qB 70 [(.agg [(hW b.1),(.ax (b.2.flatMap p0) b.2.length .shared)]),(.agg [(hW p.1),(hW p.2)])] (hW v):=by
 refine q5 et agS rfl rfl fun Q bp=>?_;have jD:qR [.tmp 4] Q (fun v=>(hW v)) v:=fun T H bI=>bp _ T H bI;unfold MN at h;unfold ab9;conv=>whnf
 refine bs h (fun gG h=>?_) fun gG h=>?_
 ·rw [gG];conv=>whnf
  refine qx h id fun gH h=>?_;rw [qX p0 2 qv b.2 p.1 gH];conv=>whnf
  exact qi h jD rfl rfl
 ·rw [gG];conv=>whnf
  refine qx h id fun qs h=>?_;rw [qX p0 2 qv b.2 p.1 qs];conv=>whnf
  exact qi h jD rfl rfl

noncomputable def Rt:fW :=
 .loop (some (qb false [1,2,4,2,94])) (.seq (pZ [p1 20 8,p1 21 7,qT 22 20 21 .lss] (.cond (.sl 22) .skip (.exit 0))) (.seq (.block 1 (.seq (sj [p1 25 1,p1 26 8,qZ 27 25 26 2,qW 28 27 0,qo 29 28,qA 30 29 0 .lss,pY 31 30,cS 32 [.sl 1] 31 false .mP,cS 33 [.sl 8] 31 false .mP,cS 34 [.Bt 32,.Bt 33] 31 false (.kR 2),cS 35 [.Bt 34] 31 false (.yH 0),cS 36 [.Bt 35] 31 false (.zy .one),cS 37 [.sl 2] 31 false (.yH 1),cS 38 [.Bt 37] 31 false (.zy .one),cS 39 [.jh 38] 31 false .zD,cS 40 [.Bt 36,.Bt 39] 31 false (.bin .geq),GC 41 [.sl 31,.lT (.bool true),.Bt 40] .pick,pY 42 41,cS 43 [.sl 1] 42 false .mP,cS 44 [.sl 8] 42 false .mP,cS 45 [.Bt 43,.Bt 44] 42 false (.kR 2),cS 46 [.Bt 45] 42 false (.yH 1),cS 47 [.Bt 46] 42 false (.zy .one),cS 48 [.Bt 47,.lT (.int .i64 0)] 42 false (.bin .lss),GC 49 [.sl 42,.lT (.bool true),.Bt 48] .pick,pY 50 49,cS 51 [.sl 1] 50 false .mP,cS 52 [.sl 8] 50 false .mP,cS 53 [.Bt 51,.Bt 52] 50 false (.kR 2),cS 54 [.Bt 53] 50 false (.yH 1),cS 55 [.Bt 54] 50 false (.zy .one),cS 56 [.Bt 55,.lT (.int .i64 1)] 50 false (.bin .gtr),GC 57 [.sl 50,.lT (.bool true),.Bt 56] .pick]) (.cond (.sl 57) (pZ [qd 4 0,qd 5 0,qd 6 3] .ret) .skip))) (qK [pY 23 8,qU 24 23 1,pY 8 24])))
noncomputable def Ru:fW :=
 .loop (some (qb false [1,2,4,1,1,1,93])) (.seq (pZ [p1 58 9,p1 59 7,qT 60 58 59 .lss] (.cond (.sl 60) .skip (.exit 2))) (.seq (.block 3 (.seq (sj [p1 63 1,p1 64 9,GC 65 [.jh 63,.jh 64] (.Bh 2 false true false),p1 66 1,p1 67 9,qZ 68 66 67 2,qW 69 68 0,qo 70 69,GC 71 [.lT (.func 69 [] []),.sl 65,.sl 70] (.call 3)]) (.cond (.sl 71) (pZ [qd 4 0,qd 5 0,qd 6 11] .ret) .skip))) (qK [pY 61 9,qU 62 61 1,pY 9 62])))
noncomputable def Rv:fW :=
 .loop (some (qb false [1,2,4,1,2,1,92])) (.seq (pZ [p1 72 10,p1 73 7,qT 74 72 73 .lss] (.cond (.sl 74) .skip (.exit 4))) (.seq (.block 5 (.seq (sj [GC 77 [.sl 2] (.zy (.str 2)),p1 78 1,p1 79 10,qA 80 79 1 .sub,qZ 81 78 80 2,GC 82 [.Bt 81] (.zy (.str 2)),GC 83 [.lT (.func 70 [] []),.sl 77,.sl 82] (.call 3),GC 84 [.sl 2] (.zy (.str 2)),p1 85 1,p1 86 10,qZ 87 85 86 2,GC 88 [.Bt 87] (.zy (.str 2)),GC 89 [.lT (.func 57 [] []),.sl 84,.sl 88] (.call 3),qT 90 83 89 .neq]) (.cond (.sl 90) (pZ [qd 4 0,qd 5 0,qd 6 27] .ret) .skip))) (qK [pY 75 10,qU 76 75 1,pY 10 76])))
noncomputable def abO:fW :=
 pZ [GC 2 [.jh 0] .box,qd 4 0,qd 5 0,qd 6 0] (.seq (pZ [GC 11 [.sl 2] (.zy (.str 2)),GC 12 [.lT (.func 21 [] []),.sl 11] (.call 3),qA 13 12 0 .neq] (.cond (.sl 13) (pZ [GC 14 [.Bt 2] (.zy (.str 2)),GC 15 [.lT (.func 21 [] []),.sl 14] (.call 3),qd 4 0,qd 5 0,pY 6 15] .ret) .skip)) (pZ [p1 16 1,qI 17 16,pY 7 17] (.seq (pZ [p1 18 7,qA 19 18 0 .eql] (.cond (.sl 19) (pZ [qd 4 0,qd 5 0,qd 6 6] .ret) .skip)) (.seq (pZ [qd 8 0] (.block 0 Rt)) (.seq (pZ [qd 9 0] (.block 2 Ru)) (.seq (pZ [qd 10 1] (.block 4 Rv)) (.seq (sj [GC 91 [.sl 2] (.zy (.str 2)),p1 92 1,GC 93 [.Bt 92,.lT (.int .i64 0)] (.kR 2),GC 94 [.Bt 93] (.zy (.str 2)),GC 95 [.lT (.func 57 [] []),.sl 91,.sl 94] (.call 3),GC 96 [.sl 2] (.zy (.str 2)),p1 97 1,pY 98 7,qA 99 98 1 .sub,qZ 100 97 99 2,GC 101 [.Bt 100] (.zy (.str 2)),GC 102 [.lT (.func 70 [] []),.sl 96,.sl 101] (.call 3),pY 4 95,pY 5 102,qd 6 0]) .ret)))))))
theorem agx:zE Tryz.prog Oe 19=some (abO,103,[.tmp 4,.tmp 5,.tmp 6]):=by kernel_rfl
def MD (b:qn) (row:p8) (qq:Unit→Option (Int×Int×Int)):Nat→Int→Option (Int×Int×Int)
 | 0,_=>none
 | m+1,s1 =>
   if (decide (s1<(row.length:Int)))=true then
    qg (0≤s1∧s1<(row.length:Int)) <|
    if (decide ((ix row s1).1<(0:Int)))=true then
     some ((0:Int),(0:Int),(3:Int))
    else
     qg (0≤s1∧s1<(row.length:Int)) <|
     if (decide ((b.2.length:Int)≤(ix row s1).1))=true then
      some ((0:Int),(0:Int),(3:Int))
     else
      qg (0≤s1∧s1<(row.length:Int)) <|
      if (decide ((ix row s1).2<(0:Int)))=true then
       some ((0:Int),(0:Int),(3:Int))
      else
       qg (0≤s1∧s1<(row.length:Int)) <|
       if (decide ((1:Int)<(ix row s1).2))=true then
        some ((0:Int),(0:Int),(3:Int))
       else
        MD b row qq m (w (s1+(1:Int)))
   else
    qq ()
def ME (row:p8) (qM:Unit→Option (Int×Int×Int)):Nat→Int→Option (Int×Int×Int)
 | 0,_=>none
 | m+1,s2 =>
   if (decide (s2<(row.length:Int)))=true then
    qg (0≤s2∧s2≤(row.length:Int)) <|
    qg (0≤s2∧s2<(row.length:Int)) <|
    (ML (row.take s2.toNat) ((ix row s2).1)).bind fun eL =>
    if eL=true then
     some ((0:Int),(0:Int),(11:Int))
    else
     ME row qM m (w (s2+(1:Int)))
   else
    qM ()
def MF (b:qn) (row:p8) (rk:Unit→Option (Int×Int×Int)):Nat→Int→Option (Int×Int×Int)
 | 0,_=>none
 | m+1,di =>
   if (decide (di<(row.length:Int)))=true then
    qg (0≤(w (di-(1:Int)))∧(w (di-(1:Int)))<(row.length:Int)) <|
    (MN b (ix row (w (di-(1:Int))))).bind fun q6 =>
    qg (0≤di∧di<(row.length:Int)) <|
    (MK b (ix row di)).bind fun r5 =>
    if (decide (q6≠r5))=true then
     some ((0:Int),(0:Int),(27:Int))
    else
     MF b row rk m (w (di+(1:Int)))
   else
    rk ()
def MC (b:qn) (row:p8):Option (Int×Int×Int) :=
 (KR b).bind fun aT =>
 if (decide (aT≠(0:Int)))=true then
  (KR b).bind fun r2 =>
  some ((0:Int),(0:Int),r2)
 else
  if (decide ((row.length:Int)=(0:Int)))=true then
   some ((0:Int),(0:Int),(6:Int))
  else
   MD b row (fun _ =>
     ME row (fun _ =>
       MF b row (fun _ =>
         qg (0≤(0:Int)∧(0:Int)<(row.length:Int)) <|
         (MK b (ix row (0:Int))).bind fun IC =>
         qg (0≤(w ((row.length:Int)-(1:Int)))∧(w ((row.length:Int)-(1:Int)))<(row.length:Int)) <|
         (MN b (ix row (w ((row.length:Int)-(1:Int))))).bind fun rr =>
         some (IC,rr,(0:Int))) qc (1:Int)) qc (0:Int)) qc (0:Int)
theorem akD {b:qn} {row:p8} {qq:Unit→Option (Int×Int×Int)} {s1:Int} {v:(Int×Int×Int)} {Q:rf}   (jD:qR [.tmp 4,.tmp 5,.tmp 6] Q (fun v=>(.tuple [(hW v.1),(hW v.2.1),(hW v.2.2)])) v) (r9:∀ (p7:List I),qq ()=some v→qQ 103 [(1,(p4 row .shared)),(2,(.ptr 0 0)),(7,(hW (row.length:Int)))] p7→Q (.exit 0) p7 [qD b]) {T:List I} (bX:e0 (qb false [1,2,4,2,94]) T=Hc 103 [(1,(p4 row .shared)),(2,(.ptr 0 0)),(7,(hW (row.length:Int))),(8,(hW s1))]) (h:MD b row qq qc s1=some v) :
  dR Tryz.prog Oe 19 0 none Rt T [qD b] Q:=by
 unfold Rt;refine wp_loop bX ?_;refine .intro (fun m T H=>∃ (s1:Int),T=Hc 103 [(1,(p4 row .shared)),(2,(.ptr 0 0)),(7,(hW (row.length:Int))),(8,(hW s1))]∧H=[qD b]∧MD b row qq m s1=some v) qc ⟨s1,rfl,rfl,h⟩ ?_;clear h bX;rintro m T H ⟨s1,rfl,rfl,h⟩;cases m
 ·exact rj h
 rename_i m;rw [MD.eq_2] at h;conv=>whnf
 refine bs h (fun qH h=>?_) fun qH h=>?_
 ·rw [qH];conv=>whnf
  refine qx h id fun ra h=>?_;rw [qX p0 2 qv row s1 ra];conv=>whnf
  refine bs h (fun q7 h=>?_) fun q7 h=>?_
  ·rw [q7];(conv=>whnf);exact qi h jD rfl rfl
  ·rw [q7];(conv=>whnf);refine qx h id fun q8 h=>?_;rw [qX p0 2 qv row s1 q8];(conv=>whnf);refine bs h (fun rp h=>?_) fun rp h=>?_
   ·rw [rp];(conv=>whnf);exact qi h jD rfl rfl
   ·rw [rp];(conv=>whnf);refine qx h id fun qP h=>?_;rw [qX p0 2 qv row s1 qP];(conv=>whnf);refine bs h (fun rq h=>?_) fun rq h=>?_
    ·rw [rq];(conv=>whnf);exact qi h jD rfl rfl
    ·rw [rq];(conv=>whnf);refine qx h id fun rV h=>?_;rw [qX p0 2 qv row s1 rV];(conv=>whnf);refine bs h (fun rD h=>?_) fun rD h=>?_
     ·rw [rD];(conv=>whnf);exact qi h jD rfl rfl
     ·rw [rD];(conv=>whnf);exact ⟨m,sA m,(w (s1+(1:Int))),rfl,rfl,h⟩
 ·rw [qH];conv=>whnf
  exact r9  _ h ⟨rfl,rfl⟩
theorem akE {row:p8} {qM:Unit→Option (Int×Int×Int)} {s2:Int} {b:qn} {v:(Int×Int×Int)} {Q:rf}   (jD:qR [.tmp 4,.tmp 5,.tmp 6] Q (fun v=>(.tuple [(hW v.1),(hW v.2.1),(hW v.2.2)])) v) (Ie:∀ (p7:List I),qM ()=some v→qQ 103 [(1,(p4 row .shared)),(2,(.ptr 0 0)),(7,(hW (row.length:Int)))] p7→Q (.exit 2) p7 [qD b]) {T:List I} (bX:e0 (qb false [1,2,4,1,1,1,93]) T=Hc 103 [(1,(p4 row .shared)),(2,(.ptr 0 0)),(7,(hW (row.length:Int))),(9,(hW s2))]) (h:ME row qM qc s2=some v) :
  dR Tryz.prog Oe 19 0 none Ru T [qD b] Q:=by
 unfold Ru;refine wp_loop bX ?_;refine .intro (fun m T H=>∃ (s2:Int),T=Hc 103 [(1,(p4 row .shared)),(2,(.ptr 0 0)),(7,(hW (row.length:Int))),(9,(hW s2))]∧H=[qD b]∧ME row qM m s2=some v) qc ⟨s2,rfl,rfl,h⟩ ?_;clear h bX;rintro m T H ⟨s2,rfl,rfl,h⟩;cases m
 ·exact rj h
 rename_i m;rw [ME.eq_2] at h;conv=>whnf
 refine bs h (fun HF h=>?_) fun HF h=>?_
 ·rw [HF];conv=>whnf
  refine qx h id fun IK h=>?_;erw [NP p0 2 qv row s2 IK];conv=>whnf
  refine qx h id fun HV h=>?_;rw [qX p0 2 qv row s2 HV];conv=>whnf
  obtain ⟨eL,Ix,h⟩:=qm h;refine ⟨qw.pl,_,Kn Ix,HS,?_⟩;conv=>whnf
  cases eL
  ·(conv=>whnf);replace h:=Hl rfl h;exact ⟨m,sA m,(w (s2+(1:Int))),rfl,rfl,h⟩
  ·(conv=>whnf);replace h:=Hm rfl h;exact qi h jD rfl rfl
 ·rw [HF];conv=>whnf
  exact Ie  _ h ⟨rfl,rfl⟩
theorem akF {b:qn} {row:p8} {rk:Unit→Option (Int×Int×Int)} {di:Int} {v:(Int×Int×Int)} {Q:rf}   (jD:qR [.tmp 4,.tmp 5,.tmp 6] Q (fun v=>(.tuple [(hW v.1),(hW v.2.1),(hW v.2.2)])) v) (I3:∀ (p7:List I),rk ()=some v→qQ 103 [(1,(p4 row .shared)),(2,(.ptr 0 0)),(7,(hW (row.length:Int)))] p7→Q (.exit 4) p7 [qD b]) {T:List I} (bX:e0 (qb false [1,2,4,1,2,1,92]) T=Hc 103 [(1,(p4 row .shared)),(2,(.ptr 0 0)),(7,(hW (row.length:Int))),(10,(hW di))]) (h:MF b row rk qc di=some v) :
  dR Tryz.prog Oe 19 0 none Rv T [qD b] Q:=by
 unfold Rv;refine wp_loop bX ?_;refine .intro (fun m T H=>∃ (di:Int),T=Hc 103 [(1,(p4 row .shared)),(2,(.ptr 0 0)),(7,(hW (row.length:Int))),(10,(hW di))]∧H=[qD b]∧MF b row rk m di=some v) qc ⟨di,rfl,rfl,h⟩ ?_;clear h bX;rintro m T H ⟨di,rfl,rfl,h⟩;cases m
 ·exact rj h
 rename_i m;rw [MF.eq_2] at h;conv=>whnf
 refine bs h (fun sg h=>?_) fun sg h=>?_
 ·rw [sg];conv=>whnf
  refine qx h id fun H7 h=>?_;rw [qX p0 2 qv row (w (di-(1:Int))) H7];conv=>whnf
  obtain ⟨q6,Hn,h⟩:=qm h;refine ⟨qw.pl,_,KU Hn,HS,?_⟩;conv=>whnf
  refine qx h id fun HW h=>?_;rw [qX p0 2 qv row di HW];conv=>whnf
  obtain ⟨r5,HO,h⟩:=qm h;refine ⟨qw.pl,_,KS HO,Ib rfl,?_⟩;conv=>whnf
  refine bs h (fun Jz h=>?_) fun Jz h=>?_
  ·rw [Jz];(conv=>whnf);exact qi h jD rfl rfl
  ·rw [Jz];(conv=>whnf);exact ⟨m,sA m,(w (di+(1:Int))),rfl,rfl,h⟩
 ·rw [sg];conv=>whnf
  exact I3  _ h ⟨rfl,rfl⟩
theorem akG {b:qn} {row:p8} {v:(Int×Int×Int)} (h:MC b row=some v):qB 19 [(.agg [(hW b.1),(.ax (b.2.flatMap p0) b.2.length .shared)]),(.ax (row.flatMap p0) row.length .shared)] (.tuple [(hW v.1),(hW v.2.1),(hW v.2.2)]):=by
 refine q5 et agx rfl (JZ (p2 rfl (p2 rfl (p2 rfl rfl)))) fun Q bp=>?_;have jD:qR [.tmp 4,.tmp 5,.tmp 6] Q (fun v=>(.tuple [(hW v.1),(hW v.2.1),(hW v.2.2)])) v:=fun T H bI=>bp _ T H bI;unfold MC at h;unfold abO;obtain ⟨II,q'⟩:∃ c,Rt=c:=⟨_,rfl⟩;rw [q'];obtain ⟨L7,Hj⟩:∃ c,Ru=c:=⟨_,rfl⟩;rw [Hj];obtain ⟨W0,Ln⟩:∃ c,Rv=c:=⟨_,rfl⟩;rw [Ln];conv=>whnf
 obtain ⟨aT,gG,h⟩:=qm h;refine ⟨qw.pl,_,Pl gG,?_⟩;conv=>whnf
 refine bs h (fun gH h=>?_) fun gH h=>?_
 ·rw [gH];conv=>whnf
  obtain ⟨r2,qs,h⟩:=qm h;refine ⟨qw.pl,_,Pl qs,?_⟩;conv=>whnf
  exact qi h jD rfl rfl
 ·rw [gH];conv=>whnf
  refine bs h (fun qF h=>?_) fun qF h=>?_
  ·rw [qF];(conv=>whnf);exact qi h jD rfl rfl
  ·rw [qF];(conv=>whnf);subst q';refine akD ?_ ?_ (by exact rfl) h
   ·exact fun T H bI=>jD T H bI
   ·intro  p7 h qe;obtain ⟨qG,rfl⟩:=qe.ex;(conv=>whnf);subst Hj;refine akE ?_ ?_ (by exact rfl) h
    ·exact fun T H bI=>jD T H bI
    ·intro  p7 h qe;obtain ⟨qG,rfl⟩:=qe.ex;(conv=>whnf);subst Ln;refine akF ?_ ?_ (by exact rfl) h
     ·exact fun T H bI=>jD T H bI
     ·intro  p7 h qe;obtain ⟨qG,rfl⟩:=qe.ex;(conv=>whnf);refine qx h id fun JV h=>?_;rw [qX p0 2 qv row (0:Int) JV];(conv=>whnf);obtain ⟨IC,JW,h⟩:=qm h;refine ⟨qw.pl,_,KS JW,HS,?_⟩;(conv=>whnf);refine qx h id fun Iy h=>?_;rw [qX p0 2 qv row (w ((row.length:Int)-(1:Int))) Iy];(conv=>whnf);obtain ⟨rr,JX,h⟩:=qm h;refine ⟨qw.pl,_,KU JX,Ib rfl,?_⟩;(conv=>whnf);exact qi h jD rfl rfl

noncomputable def abR:fW :=
 pZ [GC 2 [.jh 0] .box,qd 4 0] (pZ [GC 9 [.sl 2] (.zy (.str 2)),p1 10 1,GC 11 [.lT (.func 18 [] []),.sl 9,.sl 10] (.call 3),pY 8 11,rI 12 8 0,rI 13 8 1,GC 14 [.Bt 8] (.ext 2),pY 5 12,pY 6 13,pY 7 14] (.seq (.block 0 (pZ [p1 16 7,qA 17 16 0 .neq,pY 15 17] (.cond (.sl 15) (pZ [pY 18 7,pY 4 18] .ret) (pZ [pY 20 1,qI 21 20,qW 22 2 1,qo 23 22,qI 24 23,qT 25 21 24 .lss,pY 19 25] (.cond (.sl 19) (pZ [qd 4 15] .ret) (pZ [pY 27 5,pY 28 6,qT 29 27 28 .neq,pY 26 29] (.cond (.sl 26) (pZ [qd 4 27] .ret) .skip))))))) (pZ [qd 4 0] .ret)))
theorem agA:zE Tryz.prog Wo 22=some (abR,30,[.tmp 4]):=by kernel_rfl
def La (b:qn) (row:p8):Option Int :=
 (LO b row).bind fun aT =>
 if (decide (aT.2.2≠(0:Int)))=true then
  some aT.2.2
 else
  if (decide ((row.length:Int)<(b.2.length:Int)))=true then
   some (15:Int)
  else
   if (decide (aT.1≠aT.2.1))=true then
    some (27:Int)
   else
    some (0:Int)
theorem aaX {b:qn} {row:p8} {v:Int} (h:La b row=some v):qB 22 [(.agg [(hW b.1),(.ax (b.2.flatMap p0) b.2.length .shared)]),(.ax (row.flatMap p0) row.length .shared)] (hW v):=by
 refine q5 et agA rfl rfl fun Q bp=>?_;have jD:qR [.tmp 4] Q (fun v=>(hW v)) v:=fun T H bI=>bp _ T H bI;unfold La at h;unfold abR;conv=>whnf
 obtain ⟨aT,gG,h⟩:=qm h;refine ⟨qw.pl,_,Q7 gG,?_⟩;conv=>whnf
 refine bs h (fun gH h=>?_) fun gH h=>?_
 ·rw [gH];conv=>whnf
  exact qi h jD rfl rfl
 ·rw [gH];conv=>whnf
  refine bs h (fun qs h=>?_) fun qs h=>?_
  ·rw [qs];(conv=>whnf);exact qi h jD rfl rfl
  ·rw [qs];(conv=>whnf);refine bs h (fun qF h=>?_) fun qF h=>?_
   ·rw [qF];(conv=>whnf);exact qi h jD rfl rfl
   ·rw [qF];(conv=>whnf);exact qi h jD rfl rfl

def akI (b:qn) (row:p8):Option Int :=
 (MC b row).bind fun aT =>
 if (decide (aT.2.2≠(0:Int)))=true then
  some aT.2.2
 else
  if (decide ((row.length:Int)≠(b.2.length:Int)))=true then
   some (15:Int)
  else
   if (decide (aT.1≠aT.2.1))=true then
    some (27:Int)
   else
    some (0:Int)

def Gw (b:qn) (l:p8):Option Bool :=
 (Pg b).bind fun aT =>
 if aT=true then
  (Kk).bind fun r2 =>
  some r2
 else
  if (decide ((14:Int)<(l.length:Int)))=true then
   (Kk).bind fun eL =>
   some eL
  else
   (LO b l).bind fun q6 =>
   (MC b l).bind fun r5 =>
   (N2 b).bind fun IC =>
   (KR b).bind fun rr =>
   if (decide (IC=rr))=true then
    if (decide (q6.1=r5.1))=true then
     if (decide (q6.2.1=r5.2.1))=true then
      if (decide (q6.2.2=r5.2.2))=true then
       (La b l).bind fun Mt =>
       (akI b l).bind fun LD =>
       if (decide (Mt=LD))=true then
        (Kk).bind fun H9 =>
        some H9
       else
        some false
      else
       some false
     else
      some false
    else
     some false
   else
    some false
end Go.Proofs.YtfakoboiahbhaaaGreat.Ab


namespace Go.Proofs.YtfakoboiahbhaaaGreat.Ab
open Go
def IL (lo hi x:Int):Bool:=decide (x<lo) || decide (hi<x)
theorem Ms {lo hi x:Int}:IL lo hi x=false↔lo≤x∧x≤hi:=by
 simp only [IL,Bool.or_eq_false_iff,decide_eq_false_iff_not];omega
theorem OS {lo hi x:Int}:IL lo hi x=true↔x<lo∨hi<x:=by
 simp only [IL,uc,decide_eq_true_eq]
def posOf {α:Type} (p:α→Bool):List α→Nat→Int
 | [],_ => -1
 | x::l,i=>if p x=true then (i:Int) else posOf p l (i+1)
theorem OW {α:Type} (p:α→Bool):∀ (l:List α) (i:Nat),decide (0≤posOf p l i)=l.any p
 | [],_=>rfl
 | x::l,i=>by
   rw [posOf,vp];by_cases h:p x=true
   ·rw [if_pos h,h];simp
   ·rw [if_neg h,OW p l (i+1)];simp [h]
theorem alB (n lo hi:Int):Pt n lo hi=some (IL lo hi n):=by
 unfold Pt IL;by_cases h:n<lo <;> simp [h]
theorem Vn {s:List Int} {f:Int→Option Bool} {p:Int→Bool} (aP:∀ x∈s,f x=some (p x)) (ai:s.length≤140737488355328):∀ (m i:Nat) (z:Int),z=i→i≤s.length→s.length-i<m→My s f (fun _=>some (-1:Int)) m z=some (posOf p (s.drop i) i)
 | 0,i,_,_,_,h=>absurd h (by omega)
 | m+1,i,_,rfl,hi,hm=>by
   rw [My];by_cases h:i<s.length
   ·rw [Kc h,H5 h,ry h,aP _ (sU h),sx,tn h,posOf];by_cases aB:p s[i]=true
    ·rw [if_pos aB,if_pos aB]
    ·rw [if_neg aB,if_neg aB,sm i (by omega),Vn aP ai m (i+1) _ rfl (by omega) (by omega)]
   ·rw [Kb h,tB (by omega)];rfl
theorem VG {s:List (Int×Int)} {f:Int×Int→Option Bool} {p:Int×Int→Bool} (aP:∀ x∈s,f x=some (p x)) (ai:s.length≤140737488355328):∀ (m i:Nat) (z:Int),z=i→i≤s.length→s.length-i<m→MS s f (fun _=>some (-1:Int)) m z=some (posOf p (s.drop i) i)
 | 0,i,_,_,_,h=>absurd h (by omega)
 | m+1,i,_,rfl,hi,hm=>by
   rw [MS];by_cases h:i<s.length
   ·rw [Kc h,H5 h,ry h,aP _ (sU h),sx,tn h,posOf];by_cases aB:p s[i]=true
    ·rw [if_pos aB,if_pos aB]
    ·rw [if_neg aB,if_neg aB,sm i (by omega),VG aP ai m (i+1) _ rfl (by omega) (by omega)]
   ·rw [Kb h,tB (by omega)];rfl
theorem abt {s:List (Int×Int)} {f:Int×Int→Option Bool} {p:Int×Int→Bool} (aP:∀ x∈s,f x=some (p x)) (ai:s.length≤140737488355328):∀ (m i:Nat) (z:Int),z=i→i≤s.length→s.length-i<m→MT s f (fun _=>some (-1:Int)) m z=some (posOf p (s.drop i) i)
 | 0,i,_,_,_,h=>absurd h (by omega)
 | m+1,i,_,rfl,hi,hm=>by
   rw [MT];by_cases h:i<s.length
   ·rw [Kc h,H5 h,ry h,aP _ (sU h),sx,tn h,posOf];by_cases aB:p s[i]=true
    ·rw [if_pos aB,if_pos aB]
    ·rw [if_neg aB,if_neg aB,sm i (by omega),abt aP ai m (i+1) _ rfl (by omega) (by omega)]
   ·rw [Kb h,tB (by omega)];rfl
theorem VF {s:List Int} {f:Int→Option Bool} {p:Int→Bool} (aP:∀ x∈s,f x=some (p x)) (ai:s.length≤140737488355328):Ld s f=some (s.any p):=by
 have:=Vn aP ai qc 0 0 rfl (sP _) (r6 (by omega));rw [th] at this;rw [Ld,N0,this,sx,OW]
theorem alg {s:List (Int×Int)} {f:Int×Int→Option Bool} {p:Int×Int→Bool} (aP:∀ x∈s,f x=some (p x)) (ai:s.length≤140737488355328):N6 s f=some (s.any p):=by
 have:=VG aP ai qc 0 0 rfl (sP _) (r6 (by omega));rw [th] at this;rw [N6,LY,this,sx,OW]
theorem alj {s:List (Int×Int)} {f:Int×Int→Option Bool} {p:Int×Int→Bool} (aP:∀ x∈s,f x=some (p x)) (ai:s.length≤140737488355328):Pr s f=some (s.any p):=by
 have:=abt aP ai qc 0 0 rfl (sP _) (r6 (by omega));rw [th] at this;rw [Pr,Rk,this,sx,OW]
theorem Q_ (lo hi:Int) (l:List Int) (ao:l.length≤140737488355328):LS lo hi l=some (!(l.any (IL lo hi))):=by
 rw [LS,VF (p:=IL lo hi) (fun x _=>alB x lo hi) ao,sx]
def J2 (f:Int) (s:Int×Int):Bool:=IL 0 (f-1) s.1 || IL 0 (f-1) s.2
def rQ (b:p9):Int:=if b.1<1∨6<b.1∨(10:Int)<(b.2.length:Int) then 6 else if b.2.any (J2 b.1)=true then 3 else 0
structure qS (b:p9):Prop where
 f1:1≤b.1
 f6:b.1≤6
 len:b.2.length≤10
 left:∀ s∈b.2,0≤s.1∧s.1<b.1
 right:∀ s∈b.2,0≤s.2∧s.2<b.1
theorem I' {b:p9}:rQ b=0↔qS b:=by
 unfold rQ;constructor
 ·intro h;split at h
  ·omega
  ·rename_i ad;split at h
   ·omega
   ·rename_i af;(have af:b.2.any (J2 b.1)=false:=by simpa using af);rw [uQ] at af;have aG:∀ s∈b.2,IL 0 (b.1-1) s.1=false∧IL 0 (b.1-1) s.2=false:=fun s ai=>by
     have:=af s ai;unfold J2 at this;simpa using this
    exact ⟨by omega,by omega,by omega,fun s ai=>by have:=Ms.1 (aG s ai).1;omega,fun s ai=>by have:=Ms.1 (aG s ai).2;omega⟩
 ·intro h;obtain ⟨ad,af,aG,a6,bM⟩:=h;rw [if_neg (by omega),if_neg];rw [Bool.not_eq_true,uQ];intro s ai;have a:=a6 s ai;have c:=bM s ai;unfold J2;rw [Ms.2 (by omega),Ms.2 (by omega)];decide
theorem Q8 (b:p9) (ag:b.2.length≤1000):N2 b=some (rQ b):=by
 rw [N2,Q_ _ _ _ (by simp),sx];unfold rQ;simp only [vp,List.any_nil,Bool.or_false];by_cases h:1≤b.1∧b.1≤6
 ·rw [Ms.2 h,if_pos (by decide)];by_cases af:(10:Int)<(b.2.length:Int)
  ·rw [if_pos (decide_eq_true af),if_pos (by omega)]
  ·rw [if_neg (by simpa using af),if_neg (by omega),alj (p:=J2 b.1) (fun s _=>by
    rw [Ra,JH (by omega),Q_ _ _ _ (by simp),sx]
    simp [J2]) (by omega),sx]
   cases b.2.any (J2 b.1) <;> rfl
 ·have:IL 1 6 b.1=true:=by rw [OS];omega
  rw [this,if_neg (by decide),if_pos (by omega)]
theorem aaV {b:p9} (ag:b.2.length≤1000) (aP:1≤b.1):∀ (m i:Nat) (z:Int),z=i→i≤b.2.length→b.2.length-i<m→MG b (fun _=>some (0:Int)) m z=some (if (b.2.drop i).any (J2 b.1)=true then 3 else 0)
 | 0,i,_,_,_,h=>absurd h (by omega)
 | m+1,i,_,rfl,hi,hm=>by
   rw [MG];by_cases h:i<b.2.length
   ·rw [Kc h,H5 h,ry h,tn h,vp];have e:J2 b.1 b.2[i]=true↔b.2[i].1<0∨b.1≤b.2[i].1∨b.2[i].2<0∨b.1≤b.2[i].2:=by
     unfold J2;rw [uc,OS,OS];omega
    by_cases ai:J2 b.1 b.2[i]=true
    ·have aY:=e.1 ai;rw [ai,wJ,if_pos rfl];by_cases aC:b.2[i].1<0
     ·rw [if_pos (decide_eq_true aC)]
     rw [if_neg (by simpa using aC)];by_cases aI:b.1≤b.2[i].1
     ·rw [if_pos (decide_eq_true aI)]
     rw [if_neg (by simpa using aI)];by_cases aR:b.2[i].2<0
     ·rw [if_pos (decide_eq_true aR)]
     rw [if_neg (by simpa using aR),if_pos (decide_eq_true (by omega))]
    ·have aY:=(not_congr e).1 ai;(have g9:J2 b.1 b.2[i]=false:=by simpa using ai);rw [g9,vV,if_neg (by simp;omega),if_neg (by simp;omega),if_neg (by simp;omega),if_neg (by simp;omega),sm i (by omega),aaV ag aP m (i+1) _ rfl (by omega) (by omega)]
   ·rw [Kb h,tB (by omega)];rfl
theorem Vq (b:p9) (ag:b.2.length≤1000):KR b=some (rQ b):=by
 rw [KR];unfold rQ;by_cases ad:b.1<1
 ·rw [if_pos (decide_eq_true ad),if_pos (.inl ad)]
 rw [if_neg (by simpa using ad)];by_cases af:6<b.1
 ·rw [if_pos (decide_eq_true af),if_pos (.inr (.inl af))]
 rw [if_neg (by simpa using af)];by_cases aG:(10:Int)<(b.2.length:Int)
 ·rw [if_pos (decide_eq_true aG),if_pos (.inr (.inr aG))]
 rw [if_neg (by simpa using aG),if_neg (by omega),aaV ag (by omega) qc 0 0 rfl (sP _) (r6 (by omega)),th]
abbrev Row:=List (Int×Int)
def Hr (b:p9) (p:Int×Int):Bool:=IL 0 ((b.2.length:Int)-1) p.1 || IL 0 1 p.2
theorem Mv {b:p9} {p:Int×Int}:Hr b p=false↔0≤p.1∧p.1<(b.2.length:Int)∧0≤p.2∧p.2≤1:=by
 unfold Hr;rw [Bool.or_eq_false_iff,Ms,Ms];omega
def HM:Row→Row→Bool
 | _,[]=>false
 | pre,p::r=>if (pre.any fun q=>decide (q.1=p.1))=true then true else HM (pre++[p]) r
def qN (b:p9):Int→Row→Option Int
 | a,[]=>some a
 | a,p::r=>if qE b p=a then qN b (fin b p) r else none
def rM (b:p9) (row:Row):Int×Int×Int :=
 if rQ b≠0 then (0,0,rQ b) else match row with
 | []=>(0,0,6)
 | p::r=>if (p::r).any (Hr b)=true then (0,0,3) else if HM [] (p::r)=true then (0,0,11) else match qN b (qE b p) (p::r) with
   | none=>(0,0,27)
   | some a=>(qE b p,a,0)
theorem alf {b:p9} (ag:b.2.length≤1000) (p:Int×Int):N5 p b=some (Hr b p):=by
 rw [N5,JH (by omega),Q_ _ _ _ (by simp),sx];unfold Hr;simp only [vp,List.any_nil,Bool.or_false];cases IL 0 ((b.2.length:Int)-1) p.1 with
 | true=>rfl
 | false=>rw [if_pos (by decide),Q_ _ _ _ (by simp),sx];simp
theorem adx {α:Type} (f:α→Bool) (l:List α) (x:α):(l++[x]).any f=(l.any f || f x):=by simp
theorem LJ {α:Type} {l:List α} {i:Nat} (h:i<l.length):l.take (i+1)=l.take i++[l[i]]:=by
 rw [List.take_add_one,sK h];rfl
theorem Mo {t:List Int} {c:Nat} {x:Int} (h:c<t.length):ix (t.set c x) (c:Int)=x:=by unfold ix;simp [sY,h]
theorem K5 {t:List Int} {c j:Nat} {x:Int} (h:j≠c):ix (t.set c x) (j:Int)=ix t (j:Int):=by unfold ix;simp [sY,sJ (Ne.symm h)]
theorem Tu {n:Nat} (j:Int):ix (List.replicate n (0:Int)) j=0:=by
 unfold ix;rw [sY,List.getElem?_replicate];split <;> rfl
theorem aaP {row:Row} {k:Unit→Option (Int×Int×Int)} (aj:row.length≤1000) (g6:∀ p∈row,0≤p.1∧p.1<10):∀ (m i:Nat) (z:Int) (t:List Int),z=i→i≤row.length→row.length-i<m→t.length=10 →
  (∀ j:Nat,j<10→(0<ix t (j:Int)↔((row.take i).any fun q=>decide (q.1=(j:Int)))=true))→MA row k m z t=if HM (row.take i) (row.drop i)=true then some (0,0,11) else k ()
 | 0,i,_,_,_,_,h,_,_=>absurd h (by omega)
 | m+1,i,_,t,rfl,hi,hm,ay,bX=>by
   rw [MA];by_cases h:i<row.length
   ·have aB:=g6 _ (sU h);obtain ⟨c,al⟩:∃ c:Nat,row[i].1=(c:Int):=⟨row[i].1.toNat,by omega⟩;rw [Kc h,H5 h,ry h,qz ⟨aB.1,aB.2,ay.symm⟩,tn h,HM,al];by_cases ak:0<ix t (c:Int)
    ·rw [if_pos (decide_eq_true ak),if_pos ((bX c (by omega)).1 ak),if_pos rfl]
    ·rw [if_neg (by simpa using ak),if_neg (fun e=>ak ((bX c (by omega)).2 e)),qz ⟨by omega,by omega,ay.symm⟩,sm i (by omega),
      aaP aj g6 m (i+1) _ _ rfl (by omega) (by omega) (by simpa using ay) (fun j aw=>?_),LJ h]
     rw [LJ h,adx,al];by_cases pH:j=c
     ·subst pH;rw [tV,Mo (by omega)];simp
     ·rw [tV,K5 pH,bX j aw];simp [show ¬ (c:Int)=(j:Int) by omega]
   ·rw [Kb h,tB (by omega)];simp [HM]
theorem aaQ {b:p9} {row:Row} {k:Int→Option (Int×Int×Int)} (aj:row.length≤1000) (g6:∀ p∈row,0≤p.1∧p.1<(b.2.length:Int)):∀ (m i:Nat) (z a:Int),z=i→i≤row.length→row.length-i<m →
  MB row b k m a z=match qN b a (row.drop i) with | none=>some (0,0,27) | some aM=>k aM
 | 0,i,_,_,_,_,h=>absurd h (by omega)
 | m+1,i,_,a,rfl,hi,hm=>by
   rw [MB];by_cases h:i<row.length
   ·rw [Kc h,H5 h,ry h,Km (g6 _ (sU h)),sx,tn h,qN];by_cases ag:qE b row[i]=a
    ·rw [if_pos ag,if_neg (by simp [ag]),sm i (by omega),aaQ aj g6 m (i+1) _ _ rfl (by omega) (by omega)]
    ·rw [if_neg ag,if_pos (decide_eq_true ag)]
   ·rw [Kb h,tB (by omega)];rfl
theorem Q6 (b:p9) (row:Row) (ag:b.2.length≤1000) (aj:row.length≤1000):LO b row=some (rM b row):=by
 rw [LO,Kl,Q8 b ag,sx];unfold rM;by_cases aV:rQ b≠0
 ·rw [if_pos (decide_eq_true aV),sx];dsimp only;rw [if_pos (decide_eq_true aV),if_pos aV]
 have p5:=I'.1 (vF.1 aV);rw [if_neg (by simpa using aV),sx,if_neg aV];dsimp only;rw [if_neg (by decide)];cases row with
 | nil=>rfl
 | cons p r =>
   rw [if_neg (by simp;omega),alg (p:=Hr b) (fun q _=>alf ag q) (by omega),sx];dsimp only;by_cases ad:(p::r).any (Hr b)=true
   ·rw [if_pos ad,if_pos ad]
   rw [if_neg ad,if_neg ad,qz (by simp)];(have iH:(p::r).any (Hr b)=false:=by simpa using ad);rw [uQ] at iH;have g6:∀ q∈p::r,0≤q.1∧q.1<(b.2.length:Int):=fun q a0=>by
    have:=Mv.1 (by simpa using iH q a0);exact ⟨this.1,this.2.1⟩
   have hlen:=p5.len;rw [aaP aj (fun q a0=>by have:=g6 q a0;omega) qc 0 0 _ rfl (sP _) (r6 (by omega)) (by simp) (fun j aw=>by rw [Tu];simp),tD,th];by_cases af:HM [] (p::r)=true
   ·rw [if_pos af,if_pos af]
   rw [if_neg af,if_neg af,qz (by simp),show ix (p::r) (0:Int)=p from rfl,Km (g6 p (by simp)),sx,aaQ aj g6 qc 0 0 _ rfl (sP _) (r6 (by omega)),th];cases qN b (qE b p) (p::r) <;> rfl
theorem abh {row:Row} {s:Int} (aj:row.length≤1000):∀ (m i:Nat) (z:Int),z=i→i≤row.length→row.length-i<m→MM row s (fun _=>some false) m z=some ((row.drop i).any fun q=>decide (q.1=s))
 | 0,i,_,_,_,h=>absurd h (by omega)
 | m+1,i,_,rfl,hi,hm=>by
   rw [MM];by_cases h:i<row.length
   ·rw [Kc h,H5 h,ry h,tn h,vp];by_cases aB:row[i].1=s
    ·rw [if_pos (decide_eq_true aB)];simp [aB]
    ·rw [if_neg (by simpa using aB),sm i (by omega),abh aj m (i+1) _ rfl (by omega) (by omega)];simp [aB]
   ·rw [Kb h,tB (by omega)];rfl
theorem Vx (row:Row) (s:Int) (aj:row.length≤1000):ML row s=some (row.any fun q=>decide (q.1=s)):=by
 rw [ML,abh aj qc 0 0 rfl (sP _) (r6 (by omega)),th]
theorem Vu {b:p9} {p:Int×Int} (h:Hr b p=false):MK b p=some (qE b p):=by
 have h:=Mv.1 h;rw [MK];unfold qE;by_cases ad:p.2=1
 ·rw [if_pos (decide_eq_true ad),if_pos (by omega),qz ⟨by omega,by omega⟩]
 ·rw [if_neg (by simpa using ad),if_neg (by omega),qz ⟨by omega,by omega⟩]
theorem Vy {b:p9} {p:Int×Int} (h:Hr b p=false):MN b p=some (fin b p):=by
 have h:=Mv.1 h;rw [MN];unfold fin;by_cases ad:p.2=1
 ·rw [if_pos (decide_eq_true ad),if_pos (by omega),qz ⟨by omega,by omega⟩]
 ·rw [if_neg (by simpa using ad),if_neg (by omega),qz ⟨by omega,by omega⟩]
theorem aaR {b:p9} {row:Row} {k:Unit→Option (Int×Int×Int)} (aj:row.length≤1000):∀ (m i:Nat) (z:Int),z=i→i≤row.length→row.length-i<m →
  MD b row k m z=if (row.drop i).any (Hr b)=true then some (0,0,3) else k ()
 | 0,i,_,_,_,h=>absurd h (by omega)
 | m+1,i,_,rfl,hi,hm=>by
   rw [MD];by_cases h:i<row.length
   ·rw [Kc h,H5 h,ry h,tn h,vp];have e:Hr b row[i]=true↔row[i].1<0∨(b.2.length:Int)≤row[i].1∨row[i].2<0∨1<row[i].2:=by
     unfold Hr;rw [uc,OS,OS];omega
    by_cases ai:Hr b row[i]=true
    ·have aY:=e.1 ai;rw [ai,wJ,if_pos rfl];by_cases aC:row[i].1<0
     ·rw [if_pos (decide_eq_true aC)]
     rw [if_neg (by simpa using aC),H5 h];by_cases aI:(b.2.length:Int)≤row[i].1
     ·rw [if_pos (decide_eq_true aI)]
     rw [if_neg (by simpa using aI),H5 h];by_cases aR:row[i].2<0
     ·rw [if_pos (decide_eq_true aR)]
     rw [if_neg (by simpa using aR),H5 h,if_pos (decide_eq_true (by omega))]
    ·have aY:=(not_congr e).1 ai;(have g9:Hr b row[i]=false:=by simpa using ai);rw [g9,vV,if_neg (by simp;omega),H5 h,if_neg (by simp;omega),H5 h,if_neg (by simp;omega),H5 h,if_neg (by simp;omega),sm i (by omega),aaR aj m (i+1) _ rfl (by omega) (by omega)]
   ·rw [Kb h,tB (by omega)];rfl
theorem aaS {row:Row} {k:Unit→Option (Int×Int×Int)} (aj:row.length≤1000):∀ (m i:Nat) (z:Int),z=i→i≤row.length→row.length-i<m →
  ME row k m z=if HM (row.take i) (row.drop i)=true then some (0,0,11) else k ()
 | 0,i,_,_,_,h=>absurd h (by omega)
 | m+1,i,_,rfl,hi,hm=>by
   rw [ME];by_cases h:i<row.length
   ·rw [Kc h,qz ⟨by omega,by omega⟩,H5 h,ry h,tV,Vx _ _ (by simp;omega),sx,tn h,HM];by_cases ak:((row.take i).any fun q=>decide (q.1=row[i].1))=true
    ·rw [if_pos ak,if_pos ak,if_pos rfl]
    ·rw [if_neg ak,if_neg ak,sm i (by omega),aaS aj m (i+1) _ rfl (by omega) (by omega),LJ h]
   ·rw [Kb h,tB (by omega)];simp [HM]
theorem aaT {b:p9} {row:Row} {k:Unit→Option (Int×Int×Int)} (aj:row.length≤1000) (g6:∀ p∈row,Hr b p=false):∀ (m i:Nat) (z:Int),z=((i+1:Nat):Int)→(hi:i<row.length)→row.length-i<m →
  MF b row k m z=match qN b (fin b row[i]) (row.drop (i+1)) with | none=>some (0,0,27) | some _=>k ()
 | 0,i,_,_,_,h=>absurd h (by omega)
 | m+1,i,_,rfl,hi,hm=>by
   rw [MF];by_cases h:i+1<row.length
   ·rw [Kc h,show w (((i+1:Nat):Int)-1)=((i:Nat):Int) by rw [JH (by omega)];omega,H5 hi,ry hi,Vy (g6 _ (sU hi)),sx,H5 h,ry h,Vu (g6 _ (sU h)),sx,tn h,qN];by_cases ag:qE b row[i+1]=fin b row[i]
    ·rw [if_pos ag,if_neg (by simp [ag]),sm (i+1) (by omega),aaT aj g6 m (i+1) _ rfl h (by omega)]
    ·rw [if_neg ag,if_pos (decide_eq_true (Ne.symm ag))]
   ·rw [Kb h,tB (by omega)];rfl
theorem Zg {b:p9}:∀ (l:Row) (a aM:Int) (h:l≠[]),qN b a l=some aM→aM=fin b (l.getLast h)
 | [],_,_,h,_=>absurd rfl h
 | [p],a,aM,_,h=>by
   rw [qN] at h;split at h
   ·rw [qN] at h;cases h;rfl
   ·cases h
 | p::q::r,a,aM,_,h=>by
   rw [qN] at h;split at h
   ·rw [List.getLast_cons (by simp)];exact Zg (q::r) _ aM (by simp) h
   ·cases h
theorem akC (b:p9) (row:Row) (ag:b.2.length≤1000) (aj:row.length≤1000):MC b row=some (rM b row):=by
 rw [MC,Vq b ag,sx];unfold rM;by_cases aV:rQ b≠0
 ·rw [if_pos (decide_eq_true aV),sx,if_pos aV]
 rw [if_neg (by simpa using aV),if_neg aV];cases row with
 | nil=>rfl
 | cons p r =>
   rw [if_neg (by simp;omega),aaR aj qc 0 0 rfl (sP _) (r6 (by omega)),th];dsimp only;by_cases ad:(p::r).any (Hr b)=true
   ·rw [if_pos ad,if_pos ad]
   rw [if_neg ad,if_neg ad];(have iH:(p::r).any (Hr b)=false:=by simpa using ad);rw [uQ] at iH;(have g6:∀ q∈p::r,Hr b q=false:=fun q a0=>by simpa using iH q a0);rw [aaS aj qc 0 0 rfl (sP _) (r6 (by omega)),tD,th];by_cases af:HM [] (p::r)=true
   ·rw [if_pos af,if_pos af]
   rw [if_neg af,if_neg af,aaT aj g6 qc 0 1 rfl (by simp) (r6 (by omega))];rw [show qN b (qE b p) (p::r)=qN b (fin b p) r by rw [qN,if_pos rfl]];show (match qN b (fin b p) r with | none=>_ | some _=>_)=_;cases aO:qN b (fin b p) r with
   | none=>rfl
   | some a =>
     have ao:(r.length+1:Nat)=(p::r).length:=rfl;dsimp only
     rw [qz (by simp),show ix (p::r) (0:Int)=p from rfl,Vu (g6 p (by simp)),sx,
      show w (((p::r).length:Int)-1)=((r.length:Nat):Int) by rw [JH (by omega)];omega,H5 (by simp),ry (by simp),Vy (g6 _ (sU _)),sx]
     have:=Zg (p::r) (qE b p) a (by simp) (by rw [qN,if_pos rfl];exact aO);rw [this,List.getLast_eq_getElem];rfl
def KO (b:p9) (row:Row):Int:=let r:=rM b row;if r.2.2≠0 then r.2.2 else if row.length<b.2.length then 15 else if r.1≠r.2.1 then 27 else 0
theorem Sn:∀ (r pre:Row),HM pre r=false→(pre.map (·.1)).Nodup→((pre++r).map (·.1)).Nodup
 | [],pre,_,h=>by simpa using h
 | p::r,pre,h,aN=>by
   rw [HM] at h;split at h
   ·cases h
   ·rename_i ak
    have:=Sn r (pre++[p]) h (by
     rw [List.map_append,u6];refine ⟨aN,by simp,fun a cc c al=>?_⟩;simp only [sG,List.map_nil,ta] at al;subst al;intro e;apply ak;rw [vG];obtain ⟨q,a0,rfl⟩:=sM.1 cc
     exact ⟨q,a0,by simp [e]⟩)
    simpa using this
theorem Zx:∀ (a b:List Nat),a.Nodup→(∀ x∈a,x∈b)→a.length≤b.length
 | [],_,_,_=>sP _
 | x::a,b,aN,h=>by
   obtain ⟨ad,af⟩:=uz.1 aN;have ak:=h x (by simp);have:=Zx a (b.erase x) af fun y aZ=>by
    have bO:y≠x:=fun e=>ad (e ▸ aZ);exact (List.mem_erase_of_ne bO).2 (h y (by simp [aZ]))
   rw [List.length_erase_of_mem ak] at this;have:=wK ak;simp only [sV];omega
theorem OQ {l:List Int} {n:Nat} (h:l.Nodup) (ag:∀ x∈l,0≤x∧x<(n:Int)):l.length≤n:=by
 have ad:(l.map Int.toNat).Nodup:=by
  rw [List.Nodup,vl];refine h.imp_of_mem fun {a c} cc al bO e=>bO ?_;have:=ag a cc;have:=ag c al;omega
 have af:∀ x∈l.map Int.toNat,x∈List.range n:=fun x ak=>by
  obtain ⟨y,aZ,rfl⟩:=sM.1 ak;have:=ag y aZ;exact sX.2 (by omega)
 have:=Zx _ _ ad af;simpa using this
theorem ad0 {b:p9} {row:Row} (h:(rM b row).2.2=0):qS b∧row≠[]∧(∀ p∈row,Hr b p=false)∧(row.map (·.1)).Nodup∧qN b (rM b row).1 row=some (rM b row).2.1:=by
 unfold rM at h ⊢;by_cases aV:rQ b≠0
 ·rw [if_pos aV] at h;exact absurd h aV
 have p5:=I'.1 (vF.1 aV);rw [if_neg aV] at h ⊢;cases row with
 | nil=>simp at h
 | cons p r =>
   dsimp only at h ⊢;by_cases ad:(p::r).any (Hr b)=true
   ·rw [if_pos ad] at h;simp at h
   rw [if_neg ad] at h ⊢;(have iH:(p::r).any (Hr b)=false:=by simpa using ad);rw [uQ] at iH;(have g6:∀ q∈p::r,Hr b q=false:=fun q a0=>by simpa using iH q a0);by_cases af:HM [] (p::r)=true
   ·rw [if_pos af] at h;simp at h
   rw [if_neg af] at h ⊢;(have GL:HM [] (p::r)=false:=by simpa using af);have a3:=Sn (p::r) [] GL (by simp);rw [t_] at a3;cases aO:qN b (qE b p) (p::r) with
   | none=>rw [aO] at h;simp at h
   | some a=>exact ⟨p5,by simp,g6,a3,aO⟩
theorem aaW (b:p9) (row:Row) (ag:b.2.length≤1000) (aj:row.length≤1000):La b row=some (KO b row):=by
 rw [La,Q6 b row ag aj,sx];unfold KO;dsimp only;by_cases h:(rM b row).2.2=0
 ·rw [if_neg (c:=decide ((rM b row).2.2≠0)=true) (by simp [h]),if_neg (c:=(rM b row).2.2≠0) (by simp [h])];by_cases ad:row.length<b.2.length
  ·rw [if_pos (decide_eq_true (by omega)),if_pos ad]
  ·rw [if_neg (by simp;omega),if_neg ad];by_cases af:(rM b row).1≠(rM b row).2.1
   ·rw [if_pos (decide_eq_true af),if_pos af]
   ·rw [if_neg (by simpa using af),if_neg af]
 ·rw [if_pos (decide_eq_true h),if_pos h]
end Go.Proofs.YtfakoboiahbhaaaGreat.Ab


namespace Go.Proofs.YtfakoboiahbhaaaGreat.Ab
open Go
set_option maxRecDepth 20000
set_option maxHeartbeats 4000000
noncomputable def ace:fW :=
 pZ [GC 2 [.jh 0] .box,GC 3 [.jh 1] .box,GC 4 [.lT .junk] .mP] (pZ [GC 5 [.Bt 2,.Bt 3] (.zS 113 0 2),pY 4 5] .ret)
theorem agX:zE Tryz.prog WJ 89=some (ace,6,[.tmp 4]):=by kernel_rfl
def Rg (t:qn) (figure:Int):Option Unit :=
 some ()
theorem alA {t:qn} {figure:Int} {v:Unit} (h:Rg t figure=some v):qB 89 [(.bU [(hW t.1),(.ax (t.2.flatMap p0) t.2.length .shared)]),(hW figure)] (.func 113 [] [(.bU [(.bU [(hW t.1),(.ax (t.2.flatMap p0) t.2.length .shared)])]),(.bU [(hW figure)])]):=by
 refine q5 et agX rfl (Kg rfl (p2 (re (p2 (re (p2 rfl (p2 (q4 (fun _=>(p2 rfl (p2 rfl rfl))) _ _ _) rfl))) rfl)) (p2 (re (p2 rfl rfl)) rfl))) fun Q bp=>?_;have jD:∀ T H,I9 [.tmp 4] (.func 113 [] [(.bU [(.bU [(hW t.1),(p4 t.2 .shared)])]),(.bU [(hW figure)])]) .ret T H→Q .ret T H:=fun T H bI=>bp _ T H bI;unfold Rg at h;unfold ace;conv=>whnf
 exact jD _ _ ⟨.inr rfl,_,rfl,_,(aeG Yq (Yp (Xu (l:=[(.bU [(hW t.1),(p4 t.2 .shared)])]) (by first | exact qy.h | rfl | (simp [sy,I.settle];done)) (p2 (re (p2 rfl (p2 (q4 (fun _=>(p2 rfl (p2 rfl rfl))) _ _ _) rfl))) rfl)) (Yp (Xu (l:=[(hW figure)]) (by first | exact qy.h | rfl | (simp [sy,I.settle];done)) (p2 rfl rfl)) Yq))),rfl⟩

def Rc (qq:qt→Option qt):Nat→Int→qt→Option qt
 | 0,_,_=>none
 | m+1,s1,s2 =>
   if (decide (s1<(6:Int)))=true then
    qg (0≤s1∧s1<(6:Int)∧6=s2.length) <|
    Rc qq m (w (s1+(1:Int))) (s2.set s1.toNat (-1:Int))
   else
    qq s2
def Ps (t:qn) (without:Int) (G':qt) (ai6:qt×qt) (e1:(Int×Int)):Option (qt×qt) :=
 match ai6 with
 | (t1,t2) =>
   (LU t e1).bind fun r2 =>
   if (decide (e1.1≠without))=true then
    qg (0≤r2.2∧r2.2<(6:Int)∧6=t2.length) <|
    if (decide ((ix t2 r2.2)<(0:Int)))=true then
     qg (0≤(ix G' (0:Int))∧(ix G' (0:Int))<(6:Int)∧6=t2.length) <|
     qg (0≤r2.2∧r2.2<(6:Int)∧6=t2.length) <|
     qg ((t1.length+1)*8≤140737488355328) <|
     some ((t1++[r2.2]),(t2.set r2.2.toNat (w ((ix t2 (ix G' (0:Int)))+(1:Int)))))
    else
     some (t1,t2)
   else
    some (t1,t2)
def Rd (t:qn) (without:Int) (qM:qt→Option qt):Nat→qt→qt→Option qt
 | 0,_,_=>none
 | m+1,di,G' =>
   if (decide ((0:Int)<(G'.length:Int)))=true then
    qg (0≤(0:Int)∧(0:Int)<(G'.length:Int)) <|
    qg (0≤(1:Int)∧(1:Int)≤(G'.length:Int)) <|
    (Rg t (ix G' (0:Int))).bind fun aT =>
    (LH t (ix G' (0:Int))).bind fun dL =>
    (IZ (Ps t without G') dL ((G'.drop (1:Int).toNat),di)).bind fun eL =>
    Rd t without qM m eL.2 eL.1
   else
    qM di
def abm (t:qn) (to without:Int):Option qt :=
 Rc (fun yh =>
   qg (0≤to∧to<(6:Int)∧6=yh.length) <|
   Rd t without (fun oJ =>
     qg (oJ.length=6) <|
     qg (oJ.length=6∧(List.replicate 6 (0:Int)).length=6) <|
     qg (oJ.length=6) <|
     some oJ) qc (yh.set to.toNat (0:Int)) [to]) qc (0:Int) (List.replicate 6 (0:Int))
end Go.Proofs.YtfakoboiahbhaaaGreat.Ab


namespace Go.Proofs.YtfakoboiahbhaaaGreat.Ab
open Go
def HY (b:p9) (wo f g:Int):Prop:=∃ p∈places b f,p.1≠wo∧fin b p=g
def HK (b:p9) (wo:Int):Nat→Int→Int→Prop
 | 0,a,g=>a=g
 | n+1,a,g=>∃ f,HK b wo n a f∧HY b wo f g
def QX (b:p9) (wo f:Int) (s:List Int×List Int) (p:Int×Int):List Int×List Int :=
 if p.1≠wo∧ix s.2 (fin b p)<0 then (s.1++[fin b p],s.2.set (fin b p).toNat (ix s.2 f+1)) else s
theorem ahA {n r:Nat} (h:r<2*n):0≤(rC r).1∧(rC r).1<(n:Int)∧0≤(rC r).2∧(rC r).2≤1:=by
 unfold rC;simp only;omega
theorem TI {b:p9} {f:Int} {p:Int×Int} (h:p∈places b f):0≤p.1∧p.1<(b.2.length:Int)∧0≤p.2∧p.2≤1∧qE b p=f:=by
 unfold places at h;obtain ⟨r,aj,rfl⟩:=sM.1 h;obtain ⟨ad,af⟩:=tc.1 aj;have:=ahA (sX.1 ad);exact ⟨this.1,this.2.1,this.2.2.1,this.2.2.2,by simpa [r3] using af⟩
theorem Qe {l:List (Int×Int)} {i:Int} (h:0≤i∧i<(l.length:Int)):ix l i∈l:=by
 obtain ⟨k,rfl⟩:∃ k:Nat,i=(k:Int):=⟨i.toNat,by omega⟩;rw [ry (by omega)];exact sU _
theorem PN {b:p9} (p5:qS b) {f:Int} {p:Int×Int} (h:p∈places b f):0≤fin b p∧fin b p<b.1:=by
 have h:=TI h;have hm:=Qe (l:=b.2) ⟨h.1,h.2.1⟩;unfold fin;split
 ·exact p5.left _ hm
 ·exact p5.right _ hm
def Jv (D:List Int):Nat:=D.countP fun x=>decide (x<0)
theorem Sx:∀ (D:List Int) (j:Nat) (x:Int) (h:j<D.length),D[j]<0→0≤x→Jv (D.set j x)+1=Jv D
 | a::D,0,x,_,ad,af=>by
   have ad:a<0:=ad;simp [Jv,List.countP_cons,ad,show ¬ x<0 by omega]
 | a::D,j+1,x,h,ad,af=>by
   have:=Sx D j x (by simpa using h) ad af;simp only [Jv,List.set_cons_succ,List.countP_cons] at this ⊢;omega
theorem als {b:p9} (p5:qS b) {wo f:Int} {Q0:List Int} (aP:ix Q0 (0:Int)=f∧0≤f∧f<b.1) {s:List Int×List Int} {p:Int×Int} (aB:p∈places b f) (ao:s.2.length=6) (aj:s.1.length+Jv s.2≤1000) (a3:-1≤ix s.2 f∧ix s.2 f≤100) :
  Ps b wo Q0 s p=some (QX b wo f s p):=by
 obtain ⟨t1,t2⟩:=s;have g8:=TI aB;have px:=PN p5 aB;have bT:=p5.f6;simp only at ao aj a3;rw [Ps];simp only [Km ⟨g8.1,g8.2.1⟩,sx,aP.1];unfold QX;by_cases ad:p.1≠wo
 ·rw [if_pos (decide_eq_true ad),qz ⟨by omega,by omega,ao.symm⟩];by_cases af:ix t2 (fin b p)<0
  ·rw [if_pos (decide_eq_true af),qz ⟨by omega,by omega,ao.symm⟩,qz ⟨by omega,by omega,ao.symm⟩,qz (by omega),JH (by omega),if_pos ⟨ad,af⟩]
  ·rw [if_neg (by simpa using af),if_neg (by simp [af])]
 ·rw [if_neg (by simpa using ad),if_neg (by simp [ad])]
structure M0 (b:p9) (wo f:Int) (Q0 D0:List Int) (H0:List (Int×Int)) (s:List Int×List Int):Prop where
 len:s.2.length=6
 W9:s.1.length+Jv s.2=Q0.length+Jv D0
 fQ:∀ g:Nat,g<6→0≤ix D0 (g:Int)→ix s.2 (g:Int)=ix D0 (g:Int)
 new:∀ g:Nat,g<6→ix D0 (g:Int)<0→ix s.2 (g:Int)=ix D0 (g:Int)∨(ix s.2 (g:Int)=ix D0 f+1∧HY b wo f (g:Int)∧(g:Int)∈s.1)
 amt:∃ N,s.1=Q0++N∧∀ g∈N,0≤g∧g<b.1∧ix s.2 g=ix D0 f+1
 H0:∀ p∈H0,p.1≠wo→0≤ix s.2 (fin b p)
theorem M0.step {b:p9} (p5:qS b) {wo f:Int} {Q0 D0:List Int} (aP:0≤f∧f<b.1) (a3:0≤ix D0 f) {H0:List (Int×Int)} {s:List Int×List Int} (h:M0 b wo f Q0 D0 H0 s) {p:Int×Int} (aB:p∈places b f):M0 b wo f Q0 D0 (H0++[p]) (QX b wo f s p):=by
 obtain ⟨Q,D⟩:=s;obtain ⟨ad,af,aG,a6,⟨N,bM,bT⟩,cJ⟩:=h;simp only at ad af aG a6 bM bT cJ;have px:=PN p5 aB;have OB:=p5.f6;obtain ⟨a,cc⟩:∃ a:Nat,fin b p=(a:Int):=⟨(fin b p).toNat,by omega⟩;obtain ⟨c,al⟩:∃ c:Nat,f=(c:Int):=⟨f.toNat,by omega⟩;have XF:ix D f=ix D0 f:=by rw [al];exact aG c (by omega) (by rw [←al];exact a3)
 unfold QX;by_cases ak:p.1≠wo∧ix D (fin b p)<0
 ·rw [if_pos ak,cc,tV,XF];have Tr:ix D (a:Int)<0:=by rw [←cc];exact ak.2
  have OC:ix D0 (a:Int)<0:=by
   refine Classical.byContradiction fun bI=>?_;have:=aG a (by omega) (by omega);omega
  have aeP:D[a]'(by omega)<0:=by rw [ry (by omega)] at Tr;exact Tr
  have nP:ix (D.set a (ix D0 f+1)) (a:Int)=ix D0 f+1:=Mo (by omega);refine ⟨by simpa using ad,?_,fun g aO y1=>?_,fun g aO y1=>?_,⟨N++[(a:Int)],by simp [bM],fun g aO=>?_⟩,fun q a0 Qa=>?_⟩
  ·have:=Sx D a (ix D0 f+1) (by omega) aeP (by omega);simp only [sC,List.length_singleton];omega
  ·(have bO:g≠a:=fun e=>by subst e;omega);simp only;rw [K5 bO];exact aG g aO y1
  ·by_cases OK:g=a
   ·subst OK;exact .inr ⟨nP,⟨p,aB,ak.1,cc⟩,by simp⟩
   ·simp only;rw [K5 OK];rcases a6 g aO y1 with e | ⟨e,ca,dx⟩
    ·exact .inl e
    ·exact .inr ⟨e,ca,by simp [dx]⟩
  ·rcases ti.1 aO with aO | aO
   ·obtain ⟨aJ,aQ,cp⟩:=bT g aO;obtain ⟨GJ,rfl⟩:∃ GJ:Nat,g=(GJ:Int):=⟨g.toNat,by omega⟩;refine ⟨aJ,aQ,?_⟩;by_cases OK:GJ=a
    ·subst OK;exact nP
    ·simp only;rw [K5 OK];exact cp
   ·simp only [ta] at aO;subst aO;exact ⟨by omega,by omega,nP⟩
  ·have key:0≤ix D (fin b q)∨fin b q=(a:Int):=by
    rcases ti.1 a0 with a0 | a0
    ·exact .inl (cJ q a0 Qa)
    ·simp only [ta] at a0;subst a0;exact .inr cc
   rcases key with key | key
   ·rcases Classical.em (fin b q=(a:Int)) with e | e
    ·simp only;rw [e,nP];omega
    ·have:ix (D.set a (ix D0 f+1)) (fin b q)=ix D (fin b q):=by
      unfold ix;rcases u7 (fin b q) 0 with aN | aN
      ·(have f':(fin b q).toNat=0:=by omega);rw [f'];rw [sY];by_cases XM:a=0
       ·subst XM;exfalso;have k:=key;unfold ix at k;rw [f',sY] at k;rw [ry (by omega)] at Tr;rw [sK (by omega)] at k;simp at k;omega
       ·rw [sJ XM];rfl
      ·rw [sY,sJ (by omega)];rfl
     simp only;rw [this];exact key
   ·simp only;rw [key,nP];omega
 ·rw [if_neg ak];refine ⟨ad,af,aG,a6,⟨N,bM,bT⟩,fun q a0 Qa=>?_⟩;rcases ti.1 a0 with a0 | a0
  ·exact cJ q a0 Qa
  ·simp only [ta] at a0;subst a0
   have:¬ ix D (fin b q)<0:=fun e=>ak ⟨Qa,e⟩
   simp only;omega
theorem Xr {b:p9} (p5:qS b) {wo f:Int} {Q0 D0:List Int} (aP:0≤f∧f<b.1) (a3:0≤ix D0 f) (afd:ix D0 f≤50) {Qh:List Int} (a0:ix Qh (0:Int)=f) (ew:Q0.length+Jv D0≤100):∀ (l H0:List (Int×Int)) (s:List Int×List Int),(∀ p∈l,p∈places b f)→M0 b wo f Q0 D0 H0 s →
  ∃ aF,IZ (Ps b wo Qh) l s=some aF∧M0 b wo f Q0 D0 (H0++l) aF
 | [],H0,s,_,h=>⟨s,rfl,by simpa using h⟩
 | p::l,H0,s,ao,h=>by
   have aB:=ao p (by simp);have OB:=p5.f6;obtain ⟨c,al⟩:∃ c:Nat,f=(c:Int):=⟨f.toNat,by omega⟩;(have XF:ix s.2 f=ix D0 f:=by rw [al];exact h.fQ c (by omega) (by rw [←al];exact a3));obtain ⟨aF,e1,ca⟩:=Xr p5 aP a3 afd a0 ew l (H0++[p]) _ (fun q a0=>ao q (by simp [a0])) (h.step p5 aP a3 aB);have h2:=h.W9;refine ⟨aF,?_,by simpa using ca⟩;rw [IZ,als p5 ⟨a0,aP⟩ aB h.len (by omega) (by omega),sx];exact e1
structure Kw (b:p9) (wo to:Int) (Q D:List Int):Prop where
 len:D.length=6
 q:∀ f∈Q,0≤f∧f<b.1∧0≤ix D f
 room:Q.length+Jv D≤6
 small:∀ g:Nat,g<6→0≤ix D (g:Int)→ix D (g:Int)+Jv D≤5
 walk:∀ g:Nat,g<6→0≤ix D (g:Int)→HK b wo (ix D (g:Int)).toNat to (g:Int)
 sort:Q.Pairwise fun x y=>ix D x≤ix D y
 top:∀ f r,Q=f::r→∀ g:Nat,g<6→ix D (g:Int)≤ix D f+1
 proc:∀ g:Nat,g<6→0≤ix D (g:Int)→(g:Int) ∉ Q→∀ h,HY b wo (g:Int) h→0≤ix D h∧ix D h≤ix D (g:Int)+1
 zero:0≤to∧to<6∧ix D to=0
theorem HY.in {b:p9} (p5:qS b) {wo f g:Int} (h:HY b wo f g):0≤g∧g<b.1:=by
 obtain ⟨p,ad,_,rfl⟩:=h;exact PN p5 ad
theorem Kw.next {b:p9} (p5:qS b) {wo to f:Int} {r D:List Int} (h:Kw b wo to (f::r) D) {s:List Int×List Int} (ai:M0 b wo f r D (places b f) s):Kw b wo to s.1 s.2:=by
 obtain ⟨cG,KX⟩:=s;obtain ⟨aJ,aQ,cp,mF,⟨N,DN,Mp⟩,X7⟩:=ai;simp only at aJ aQ cp mF DN Mp X7;subst DN;have OB:=p5.f6;have XQ:=h.q f (by simp);obtain ⟨c,al⟩:∃ c:Nat,f=(c:Int):=⟨f.toNat,by omega⟩;have y9:∀ g:Int,0≤g→g<6→∃ n:Nat,g=(n:Int)∧n<6:=fun g ad af=>⟨g.toNat,by omega,by omega⟩;have hold:∀ g:Int,0≤g→g<6→0≤ix D g→ix KX g=ix D g:=fun g ad af aG=>by
  obtain ⟨n,rfl,aN⟩:=y9 g ad af;exact cp n aN aG
 have hle:∀ g:Nat,g<6→ix KX (g:Int)≤ix D f+1:=fun g aO=>by
  rcases u7 (ix D (g:Int)) 0 with aV | aV
  ·rcases mF g aO aV with e | e
   ·omega
   ·omega
  ·rw [cp g aO aV];exact h.top f r rfl g aO
 have aj:∀ x∈r,0≤x∧x<b.1∧0≤ix D x∧ix KX x=ix D x:=fun x ak=>by
  have:=h.q x (by simp [ak]);exact ⟨this.1,this.2.1,this.2.2,hold x this.1 (by omega) this.2.2⟩
 have DE:=tK.1 h.sort;have ew:=h.room;simp only [sV] at ew;refine ⟨aJ,fun g aO=>?_,by simp only;omega,fun g aO aV=>?_,fun g aO aV=>?_,?_,fun Ow r' he g aO=>?_,fun g aO aV Tk aY he=>?_,⟨h.zero.1,h.zero.2.1,by simp only;rw [hold to h.zero.1 h.zero.2.1 (by have:=h.zero.2.2;omega)];exact h.zero.2.2⟩⟩
 ·rcases ti.1 aO with aO | aO
  ·have:=aj g aO;exact ⟨this.1,this.2.1,by simp only;omega⟩
  ·have:=Mp g aO;exact ⟨this.1,this.2.1,by simp only;omega⟩
 ·have CY:=h.small c (by omega) (by rw [←al];omega);rw [←al] at CY;simp only [sC] at aQ;rcases u7 (ix D (g:Int)) 0 with ad | ad
  ·rcases mF g aO ad with e | e
   ·simp only at aV;omega
   ·have CC:1≤N.length:=by
     rcases ti.1 e.2.2 with dx | dx
     ·have:=(aj _ dx).2.2.1;omega
     ·exact wK dx
    simp only;omega
  ·have:=h.small g aO ad;simp only;rw [cp g aO ad];omega
 ·rcases u7 (ix D (g:Int)) 0 with ad | ad
  ·rcases mF g aO ad with e | ⟨e,ca,_⟩
   ·simp only at aV;omega
   ·simp only;rw [e,show (ix D f+1).toNat=(ix D f).toNat+1 by omega];exact ⟨f,by have:=h.walk c (by omega) (by rw [←al];omega);rw [al];rw [←al] at this ⊢;exact this,ca⟩
  ·simp only;rw [cp g aO ad];exact h.walk g aO ad
 ·simp only;rw [vz];refine ⟨DE.2.imp_of_mem fun {x y} ak aZ I4=>by rw [(aj x ak).2.2.2,(aj y aZ).2.2.2];exact I4,?_,fun x ak y aZ=>?_⟩
  ·exact List.Pairwise.imp_of_mem (R:=fun _ _=>True) (fun {x y} ak aZ _=>by rw [(Mp x ak).2.2,(Mp y aZ).2.2];omega) (List.pairwise_of_forall fun _ _=>trivial)
  ·obtain ⟨n,rfl,aN⟩:=y9 x (aj x ak).1 (by have:=(aj x ak).2.1;omega);rw [(Mp y aZ).2.2];exact hle n aN
 ·simp only at he ⊢;have amh:ix D f≤ix KX Ow:=by
   (have hm:Ow∈r++N:=by rw [he];simp);rcases ti.1 hm with hm | hm
   ·rw [(aj Ow hm).2.2.2];exact DE.1 Ow hm
   ·rw [(Mp Ow hm).2.2];omega
  have:=hle g aO;omega
 ·simp only at aV Tk ⊢;have bI:=HY.in p5 he;rcases Classical.em ((g:Int)=f) with e | e
  ·rw [e] at he ⊢;obtain ⟨n,rfl,aN⟩:=y9 aY bI.1 (by omega);rw [hold f XQ.1 (by omega) XQ.2.2];obtain ⟨p,bS,bZ,ed⟩:=he;exact ⟨by rw [←ed];exact X7 p bS bZ,hle n aN⟩
  ·rcases u7 (ix D (g:Int)) 0 with ad | ad
   ·rcases mF g aO ad with ca | ⟨_,_,dx⟩
    ·omega
    ·exact absurd dx Tk
   ·have:=h.proc g aO ad (fun hm=>by
     rcases sL.1 hm with ca | ca
     ·exact e ca
     ·exact Tk (vE _ ca)) aY he
    rw [cp g aO ad,hold aY bI.1 (by omega) this.1];exact this
theorem abo {b:p9} (p5:qS b) {wo to:Int} {k:List Int→Option (List Int)}:∀ (m:Nat) (Q D:List Int),Kw b wo to Q D→Q.length+Jv D<m→∃ KX,Kw b wo to [] KX∧Rd b wo k m D Q=k KX
 | 0,_,_,_,h=>absurd h (by omega)
 | m+1,Q,D,cm,hm=>by
   rw [Rd];have OB:=p5.f6;have ao:=p5.len;cases Q with
   | nil=>rw [if_neg (by simp)];exact ⟨D,cm,rfl⟩
   | cons f r =>
     have aP:=cm.q f (by simp);obtain ⟨c,al⟩:∃ c:Nat,f=(c:Int):=⟨f.toNat,by omega⟩;have afL:=cm.small c (by omega) (by rw [←al];omega);rw [←al] at afL;have ew:=cm.room;simp only [sV] at ew hm;obtain ⟨aF,e1,ca⟩:=Xr p5 ⟨aP.1,aP.2.1⟩ aP.2.2 (by omega) (Qh:=f::r) rfl (by omega) (Q0:=r) (D0:=D) (wo:=wo) (places b f) [] (r,D) (fun p h=>h) ⟨cm.len,rfl,fun _ _ _=>rfl,fun _ _ _=>.inl rfl,⟨[],by simp,by simp⟩,by simp⟩;rw [t_] at ca;have h2:=ca.W9;obtain ⟨KX,d1,d2⟩:=abo p5 m aF.1 aF.2 (Kw.next p5 cm ca) (by omega);refine ⟨KX,d1,?_⟩;rw [if_pos (decide_eq_true (by simp)),qz (by simp),qz ⟨by omega,by simp only [sV];omega⟩,show ix (f::r) (0:Int)=f from rfl,Rg,sx,LH,if_pos (by omega),sx];show ((IZ (Ps b wo (f::r)) (places b f) (r,D)).bind _)=_;rw [e1,sx];exact d2
structure N_ (b:p9) (wo to:Int) (D:List Int):Prop where
 len:D.length=6
 walk:∀ g:Nat,g<6→0≤ix D (g:Int)→HK b wo (ix D (g:Int)).toNat to (g:Int)
 least:∀ (n:Nat) (g:Int),HK b wo n to g→0≤g∧g<6∧0≤ix D g∧ix D g≤n
 small:∀ g:Nat,g<6→ix D (g:Int)≤5
theorem Kw.aet {b:p9} (p5:qS b) {wo to:Int} {D:List Int} (h:Kw b wo to [] D):N_ b wo to D:=by
 have OB:=p5.f6;refine ⟨h.len,h.walk,fun n=>?_,fun g aO=>?_⟩
 ·induction n with
  | zero =>
    intro g aO;have aO:to=g:=aO;subst aO;have:=h.zero;exact ⟨this.1,this.2.1,by omega,by omega⟩
  | succ n a_ =>
    rintro g ⟨f,ad,af⟩;obtain ⟨i1,i2,i3,i4⟩:=a_ f ad;obtain ⟨c,rfl⟩:∃ c:Nat,f=(c:Int):=⟨f.toNat,by omega⟩;have aB:=h.proc c (by omega) i3 (by simp) g af;have hi:=HY.in p5 af;exact ⟨hi.1,by omega,aB.1,by omega⟩
 ·rcases u7 (ix D (g:Int)) 0 with ad | ad
  ·omega
  ·have:=h.small g aO ad;omega
theorem abn {k:List Int→Option (List Int)}:∀ (m i:Nat) (z:Int) (D:List Int),z=i→i≤6→6-i<m→D.length=6→(∀ j:Nat,j<i→ix D (j:Int)=-1)→Rc k m z D=k (List.replicate 6 (-1))
 | 0,i,_,_,_,_,h,_,_=>absurd h (by omega)
 | m+1,i,_,D,rfl,hi,hm,ao,rN=>by
   rw [Rc];by_cases h:i<6
   ·rw [if_pos (decide_eq_true (by omega)),qz ⟨by omega,by omega,ao.symm⟩,sm i (by omega),tV];refine abn m (i+1) _ _ rfl (by omega) (by omega) (by simpa using ao) fun j aw=>?_;by_cases g7:j=i
    ·subst g7;exact Mo (by omega)
    ·rw [K5 g7];exact rN j (by omega)
   ·rw [if_neg (by simp;omega)];congr 1;refine List.ext_getElem (by simp [ao]) fun j ad af=>?_;have:=rN j (by omega);rw [ry ad] at this;rw [this,wL]
theorem alr {b:p9} (p5:qS b) {wo to:Int} (ay:0≤to∧to<b.1):∃ D,abm b to wo=some D∧N_ b wo to D:=by
 have OB:=p5.f6;obtain ⟨c,al⟩:∃ c:Nat,to=(c:Int):=⟨to.toNat,by omega⟩;subst al;have nP:ix ((List.replicate 6 (-1:Int)).set c 0) (c:Int)=0:=Mo (by simp;omega);have P9:∀ g:Nat,g<6→g≠c→ix ((List.replicate 6 (-1:Int)).set c 0) (g:Int)=-1:=fun g aO bO=>by
  rw [K5 bO,ry (by rw [List.length_replicate];omega),wL]
 have Te:Jv ((List.replicate 6 (-1:Int)).set c 0)=5:=by
  have:=Sx (List.replicate 6 (-1:Int)) c 0 (by rw [List.length_replicate];omega) (by rw [wL];omega) (by omega);have e:Jv (List.replicate 6 (-1:Int))=6:=by decide
  omega
 have cm:Kw b wo (c:Int) [(c:Int)] ((List.replicate 6 (-1:Int)).set c 0):=by
  refine ⟨by simp,fun f aP=>?_,by rw [Te];simp,fun g aO aV=>?_,fun g aO aV=>?_,by simp,fun f r he g aO=>?_,fun g aO aV aN h he=>?_,⟨by omega,by omega,nP⟩⟩
  ·simp only [ta] at aP;subst aP;exact ⟨ay.1,ay.2,by rw [nP];omega⟩
  ·by_cases e:g=c
   ·subst e;rw [nP,Te];omega
   ·rw [P9 g aO e] at aV;omega
  ·by_cases e:g=c
   ·subst e;rw [nP];exact rfl
   ·rw [P9 g aO e] at aV;omega
  ·simp only [List.cons.injEq] at he;obtain ⟨rfl,_⟩:=he;rw [nP];by_cases e:g=c
   ·subst e;rw [nP];omega
   ·rw [P9 g aO e];omega
  ·by_cases e:g=c
   ·subst e;simp at aN
   ·rw [P9 g aO e] at aV;omega
 obtain ⟨D,d1,d2⟩:=abo p5 (k:=fun oJ =>
         qg (oJ.length=6) <|
         qg (oJ.length=6∧(List.replicate 6 (0:Int)).length=6) <|
         qg (oJ.length=6) <|
         some oJ) qc _ _ cm (r6 (by rw [Te];simp))
 refine ⟨D,?_,Kw.aet p5 d1⟩;rw [abm,abn qc 0 0 _ rfl (by omega) (r6 (by omega)) (by simp) (fun j aw=>absurd aw (by omega)),qz ⟨by omega,by omega,by simp⟩,tV,d2];have:=d1.len;rw [qz this,qz ⟨this,by simp⟩,qz this]
end Go.Proofs.YtfakoboiahbhaaaGreat.Ab


namespace Go.Proofs.YtfakoboiahbhaaaGreat.Ab
open Go
set_option maxRecDepth 20000
set_option maxHeartbeats 4000000
end Go.Proofs.YtfakoboiahbhaaaGreat.Ab


namespace Go.Proofs.YtfakoboiahbhaaaGreat.Ab
open Go
theorem Lz {b:p9} {f:Int} {p:Int×Int}:p∈places b f↔0≤p.1∧p.1<(b.2.length:Int)∧0≤p.2∧p.2≤1∧qE b p=f:=by
 refine ⟨TI,fun ⟨ad,af,aG,a6,bM⟩=>?_⟩;have e:rC (2*p.1.toNat+p.2.toNat)=p:=by
  rw [Qq (n:=b.2.length) (by omega) (by omega)];exact Prod.ext (by simp only;omega) (by simp only;omega)
 refine sM.2 ⟨2*p.1.toNat+p.2.toNat,tc.2 ⟨sX.2 (by omega),?_⟩,e⟩;rw [r3,e];exact decide_eq_true bM
def L_ (p:Int×Int):Int×Int:=(p.1,1-p.2)
theorem adF {b:p9} {p:Int×Int} (h:0≤p.2∧p.2≤1):qE b (L_ p)=fin b p:=by
 unfold qE fin L_;simp only;by_cases ad:0<p.2
 ·rw [if_neg (by omega),if_pos ad]
 ·rw [if_pos (by omega),if_neg ad]
theorem aeA {b:p9} {p:Int×Int} (h:0≤p.2∧p.2≤1):fin b (L_ p)=qE b p:=by
 unfold qE fin L_;simp only;by_cases ad:0<p.2
 ·rw [if_neg (by omega),if_pos ad]
 ·rw [if_pos (by omega),if_neg ad]
theorem HY.symm {b:p9} {wo f g:Int} (h:HY b wo f g):HY b wo g f:=by
 obtain ⟨p,ad,af,aG⟩:=h;have aB:=Lz.1 ad;exact ⟨L_ p,Lz.2 ⟨aB.1,aB.2.1,by simp only [L_];omega,by simp only [L_];omega,by rw [adF ⟨aB.2.2.1,aB.2.2.2.1⟩,aG]⟩,af,by rw [aeA ⟨aB.2.2.1,aB.2.2.2.1⟩,aB.2.2.2.2]⟩
theorem HK.cons {b:p9} {wo:Int}:∀ {n:Nat} {a c g:Int},HY b wo a c→HK b wo n c g→HK b wo (n+1) a g
 | 0,a,c,g,h,(k:c=g)=>⟨a,rfl,k ▸ h⟩
 | n+1,a,c,g,h,⟨f,aJ,aQ⟩=>⟨f,HK.cons h aJ,aQ⟩
theorem HK.symm {b:p9} {wo:Int}:∀ {n:Nat} {a g:Int},HK b wo n a g→HK b wo n g a
 | 0,_,_,(h:_=_)=>h.symm
 | _+1,_,_,⟨_,ad,af⟩=>HK.cons af.symm ad.symm
theorem HK.gV {b:p9} {wo:Int} {n:Nat} {a g:Int} (h:HK b wo (n+1) a g):∃ c,HY b wo a c∧HK b wo n c g:=by
 obtain ⟨f,ad,af⟩:=h.symm;exact ⟨f,af.symm,ad.symm⟩
theorem ag7 {b:p9} (p5:qS b) {wo to f:Int} {D:List Int} (rN:N_ b wo to D) {n:Nat} (aP:0≤f∧f<6) (aN:ix D f=((n+1:Nat):Int)):∃ p∈places b f,p.1≠wo∧ix D (fin b p)=(n:Int):=by
 obtain ⟨c,rfl⟩:∃ c:Nat,f=(c:Int):=⟨f.toNat,by omega⟩;have hw:=rN.walk c (by omega) (by omega);rw [aN] at hw;obtain ⟨e,he,hw⟩:=hw.symm.gV;have ao:=rN.least n e hw.symm;have Jd:(n:Int)≤ix D e:=by
  refine Classical.byContradiction fun bI=>?_;have af:=rN.walk e.toNat (by omega) (by rw [uI ao.1];exact ao.2.2.1);rw [uI ao.1] at af;have:=(rN.least ((ix D e).toNat+1) (c:Int) ⟨e,af,he.symm⟩).2.2.2;omega
 obtain ⟨p,ad,af,aG⟩:=he;exact ⟨p,ad,af,by rw [aG];omega⟩
end Go.Proofs.YtfakoboiahbhaaaGreat.Ab


namespace Go.Proofs.YtfakoboiahbhaaaGreat.Ab
open Go
set_option maxRecDepth 20000
set_option maxHeartbeats 4000000

end Go.Proofs.YtfakoboiahbhaaaGreat.Ab


namespace Go.Proofs.YtfakoboiahbhaaaGreat.Ab
open Go
set_option maxRecDepth 20000
set_option maxHeartbeats 4000000

end Go.Proofs.YtfakoboiahbhaaaGreat.Ab


namespace Go.Proofs.YtfakoboiahbhaaaGreat.Ab
open Go
def amu (r:Row) (s:Int):Bool:=r.any fun q=>decide (q.1=s)
theorem Xg {b:p9} (p5:qS b) {wo to:Int} {D:List Int} (rN:N_ b wo to D):∀ (n:Nat) (f:Int),0≤f→f<b.1→ix D f=(n:Int)→∃ l:List Int,l.Nodup∧l.length=n+1∧∀ x∈l,0≤x∧x<b.1∧ix D x≤(n:Int)
 | 0,f,ad,af,h=>⟨[f],by simp,rfl,fun x ak=>by simp only [ta] at ak;subst ak;exact ⟨ad,af,by omega⟩⟩
 | n+1,f,ad,af,h=>by
   have bT:=p5.f6;obtain ⟨p,bS,_,bZ⟩:=ag7 p5 rN ⟨ad,by omega⟩ h;have aP:=PN p5 bS;obtain ⟨l,dL,kV,Nq⟩:=Xg p5 rN n _ aP.1 aP.2 bZ;refine ⟨f::l,uz.2 ⟨fun hm=>?_,dL⟩,by simp [kV],fun x ak=>?_⟩
   ·have:=(Nq f hm).2.2;omega
   ·rcases sL.1 ak with e | e
    ·subst e;exact ⟨ad,af,by omega⟩
    ·have:=Nq x e;exact ⟨this.1,this.2.1,by omega⟩
theorem aeu {b:p9} (p5:qS b) {wo to f:Int} {D:List Int} (rN:N_ b wo to D) (ad:0≤f) (af:f<b.1):ix D f<b.1:=by
 rcases u7 (ix D f) 0 with h | h
 ·omega
 ·obtain ⟨l,dL,kV,Nq⟩:=Xg p5 rN (ix D f).toNat f ad af (by omega);have:=OQ (n:=b.1.toNat) dL fun x ak=>by have:=Nq x ak;omega
  omega
end Go.Proofs.YtfakoboiahbhaaaGreat.Ab


namespace Go.Proofs.YtfakoboiahbhaaaGreat.Ab
open Go
set_option maxRecDepth 20000
set_option maxHeartbeats 4000000
end Go.Proofs.YtfakoboiahbhaaaGreat.Ab


namespace Go.Proofs.YtfakoboiahbhaaaGreat.Ab
open Go
def Hz (b:p9) (wo f g:Int):Prop:=∃ n,HK b wo n f g
theorem HK.trans {b:p9} {wo:Int}:∀ {n m:Nat} {a c g:Int},HK b wo n a c→HK b wo m c g→HK b wo (n+m) a g
 | n,0,a,c,g,h,(k:c=g)=>k ▸ h
 | n,m+1,a,c,g,h,⟨f,aJ,aQ⟩=>⟨f,HK.trans h aJ,aQ⟩
theorem Hz.refl {b:p9} {wo:Int} (f:Int):Hz b wo f f:=⟨0,rfl⟩
theorem Hz.symm {b:p9} {wo f g:Int} (h:Hz b wo f g):Hz b wo g f:=h.elim fun n h=>⟨n,h.symm⟩
theorem Hz.trans {b:p9} {wo f g h:Int} (ad:Hz b wo f g) (af:Hz b wo g h):Hz b wo f h:=by
 obtain ⟨n,ad⟩:=ad;obtain ⟨m,af⟩:=af;exact ⟨n+m,ad.trans af⟩
theorem HY.Oq {b:p9} {wo f g:Int} (h:HY b wo f g):Hz b wo f g:=⟨1,f,rfl,h⟩
theorem HY.of {b:p9} {wo:Int} {i:Nat} (hi:i<b.2.length) (hw:(i:Int)≠wo):HY b wo (ix b.2 (i:Int)).1 (ix b.2 (i:Int)).2 :=
 ⟨((i:Int),0),Lz.2 ⟨by simp only;omega,by simp only;omega,by simp only;omega,by simp only;omega,rfl⟩,hw,rfl⟩
theorem HY.Jj {b:p9} {wo f g:Int} (h:HY b wo f g):∃ i:Nat,i<b.2.length∧(i:Int)≠wo∧(((ix b.2 (i:Int)).1=f∧(ix b.2 (i:Int)).2=g)∨((ix b.2 (i:Int)).2=f∧(ix b.2 (i:Int)).1=g)):=by
 obtain ⟨p,ad,af,aG⟩:=h;have aB:=Lz.1 ad;refine ⟨p.1.toNat,by omega,by omega,?_⟩;rw [uI aB.1];have a6:=aB.2.2.2.2;unfold qE at a6;unfold fin at aG;by_cases al:0<p.2
 ·rw [if_pos al] at a6 aG;exact .inr ⟨a6,aG⟩
 ·rw [if_neg al] at a6 aG;exact .inl ⟨a6,aG⟩
theorem Hz.short {b:p9} (p5:qS b) {wo f g:Int} (aO:0≤g∧g<b.1) (aP:0≤f∧f<b.1) (h:Hz b wo f g):∃ n:Nat,(n:Int)<b.1∧HK b wo n f g:=by
 obtain ⟨D,_,rN⟩:=alr p5 (wo:=wo) aO;obtain ⟨n,h⟩:=h;have ao:=rN.least n f h.symm;have bT:=p5.f6;have aS:=aeu p5 rN aP.1 aP.2;have hw:=rN.walk f.toNat (by omega) (by rw [uI aP.1];exact ao.2.2.1);rw [uI aP.1] at hw;exact ⟨(ix D f).toNat,by omega,hw.symm⟩
theorem QN {b:p9} (p5:qS b) {i:Nat} (hi:i<b.2.length):0≤(ix b.2 (i:Int)).1∧(ix b.2 (i:Int)).1<b.1∧0≤(ix b.2 (i:Int)).2∧(ix b.2 (i:Int)).2<b.1:=by
 have hm:=Qe (l:=b.2) (i:=(i:Int)) ⟨by omega,by omega⟩;have ad:=p5.left _ hm;have af:=p5.right _ hm;exact ⟨ad.1,ad.2,af.1,af.2⟩
def upto (n:Nat):List Int:=(List.range n).map fun (j:Nat)=>(j:Int)
theorem r_ (n:Nat):(upto n).length=n:=by simp [upto]
theorem NU (n:Nat):upto (n+1)=upto n++[(n:Int)]:=by simp [upto,List.range_succ]
structure VQ (b:p9) (wo:Int) (S:List Int):Prop where
 len:S.length=b.1.toNat
 Js:∀ f:Int,0≤f→f<b.1→Hz b wo f (ix S f)∧0≤ix S f∧ix S f<b.1
structure RW (b:p9) (wo:Int) (S0:List Int) (i:Nat) (S:List Int):Prop extends VQ b wo S where
 mono:∀ f:Int,0≤f→f<b.1→ix S f≤ix S0 f
 done:∀ j:Nat,j<i→(j:Int)≠wo→ix S (ix b.2 (j:Int)).1≤ix S0 (ix b.2 (j:Int)).2∧ix S (ix b.2 (j:Int)).2≤ix S0 (ix b.2 (j:Int)).1
theorem af4 {S:List Int} {x y f v:Int} (ak:0≤x∧x<(S.length:Int)) (aZ:0≤y∧y<(S.length:Int)) (aP:0≤f∧f<(S.length:Int)):ix ((S.set x.toNat v).set y.toNat v) f=if f=x∨f=y then v else ix S f:=by
 obtain ⟨a,rfl⟩:∃ a:Nat,x=(a:Int):=⟨x.toNat,by omega⟩;obtain ⟨c,rfl⟩:∃ c:Nat,y=(c:Int):=⟨y.toNat,by omega⟩;obtain ⟨e,rfl⟩:∃ e:Nat,f=(e:Int):=⟨f.toNat,by omega⟩;rw [tV,tV];by_cases ad:e=c
 ·subst ad;rw [Mo (by simp;omega),if_pos (.inr rfl)]
 ·rw [K5 ad];by_cases af:e=a
  ·subst af;rw [Mo (by omega),if_pos (.inl rfl)]
  ·rw [K5 af,if_neg (by omega)]
theorem RW.step {b:p9} (p5:qS b) {wo:Int} {S0 S:List Int} {i:Nat} (h:RW b wo S0 i S) (hi:i<b.2.length) (hw:(i:Int)≠wo) :
  RW b wo S0 (i+1) ((S.set (ix b.2 (i:Int)).1.toNat (min (ix S (ix b.2 (i:Int)).1) (ix S (ix b.2 (i:Int)).2))).set (ix b.2 (i:Int)).2.toNat (min (ix S (ix b.2 (i:Int)).1) (ix S (ix b.2 (i:Int)).2))):=by
 have ai:=QN p5 hi;have he:=HY.of hi hw;obtain ⟨x,ak⟩:∃ x,x=(ix b.2 (i:Int)).1:=⟨_,rfl⟩;obtain ⟨y,aZ⟩:∃ y,y=(ix b.2 (i:Int)).2:=⟨_,rfl⟩;rw [←ak,←aZ] at ai he;rw [←ak,←aZ];have ao:=h.len;have P6:∀ f:Int,0≤f→f<b.1→_:=fun f ad af=>af4 (S:=S) (x:=x) (y:=y) (f:=f) (v:=min (ix S x) (ix S y)) ⟨ai.1,by omega⟩ ⟨ai.2.2.1,by omega⟩ ⟨ad,by omega⟩;have Tb:=h.Js x ai.1 ai.2.1;have Tc:=h.Js y ai.2.2.1 ai.2.2.2;have hle:∀ f:Int,0≤f→f<b.1→ix ((S.set x.toNat (min (ix S x) (ix S y))).set y.toNat (min (ix S x) (ix S y))) f≤ix S f:=fun f ad af=>by
  rw [P6 f ad af];split
  ·rename_i e;rcases e with rfl | rfl <;> omega
  ·exact Int.le_refl _
 refine ⟨⟨by simpa using ao,fun f ad af=>?_⟩,fun f ad af=>vM (hle f ad af) (h.mono f ad af),fun j aw afn=>?_⟩
 ·rw [P6 f ad af];split
  ·rename_i e;rcases Int.le_total (ix S x) (ix S y) with hm | hm
   ·rw [Int.min_eq_left hm];refine ⟨?_,Tb.2⟩;rcases e with rfl | rfl
    ·exact Tb.1
    ·exact he.symm.Oq.trans Tb.1
   ·rw [Int.min_eq_right hm];refine ⟨?_,Tc.2⟩;rcases e with rfl | rfl
    ·exact he.Oq.trans Tc.1
    ·exact Tc.1
  ·exact h.Js f ad af
 ·have eg:j<i∨j=i:=by omega
  rcases eg with eg | rfl
  ·have Nk:=QN p5 (i:=j) (by omega);obtain ⟨d1,d2⟩:=h.done j eg afn;exact ⟨vM (hle _ Nk.1 Nk.2.1) d1,vM (hle _ Nk.2.2.1 Nk.2.2.2) d2⟩
  ·rw [←ak,←aZ,P6 x ai.1 ai.2.1,P6 y ai.2.2.1 ai.2.2.2,if_pos (.inl rfl),if_pos (.inr rfl)];have dg:=h.mono x ai.1 ai.2.1;have dh:=h.mono y ai.2.2.1 ai.2.2.2;omega
structure RU (b:p9) (wo:Int) (N:List Int):Prop extends VQ b wo N where
 least:∀ f g:Int,0≤f→f<b.1→0≤g→g<b.1→Hz b wo f g→ix N f≤g
theorem RU.iff {b:p9} {wo:Int} {N:List Int} (h:RU b wo N) {f g:Int} (aP:0≤f∧f<b.1) (aO:0≤g∧g<b.1):ix N f=ix N g↔Hz b wo f g:=by
 have a:=h.Js f aP.1 aP.2;have c:=h.Js g aO.1 aO.2;refine ⟨fun e=>a.1.trans (by rw [e];exact c.1.symm),fun e=>?_⟩;have dL:=h.least f (ix N g) aP.1 aP.2 c.2.1 c.2.2 (e.trans c.1);have kV:=h.least g (ix N f) aO.1 aO.2 a.2.1 a.2.2 (e.symm.trans a.1);omega
end Go.Proofs.YtfakoboiahbhaaaGreat.Ab


namespace Go.Proofs.YtfakoboiahbhaaaGreat.Ab
open Go
theorem Y7:∀ {a b:List Int},a.Pairwise (·<·)→b.Pairwise (·<·)→(∀ x,x∈a↔x∈b)→a=b
 | [],[],_,_,_=>rfl
 | [],y::b,_,_,h=>by have:=(h y).2 (by simp);simp at this
 | x::a,[],_,_,h=>by have:=(h x).1 (by simp);simp at this
 | x::a,y::b,cc,ag,h=>by
   obtain ⟨aC,aI⟩:=tK.1 cc;obtain ⟨bq,cI⟩:=tK.1 ag;have I4:x=y:=by
    rcases sL.1 ((h x).1 (by simp)) with e | e
    ·exact e
    ·rcases sL.1 ((h y).2 (by simp)) with ca | ca
     ·exact ca.symm
     ·have:=aC y ca;have:=bq x e;omega
   subst I4;rw [Y7 aI cI fun z=>?_];constructor
   ·intro bk;rcases sL.1 ((h z).1 (by simp [bk])) with e | e
    ·have:=aC z bk;omega
    ·exact e
   ·intro bk;rcases sL.1 ((h z).2 (by simp [bk])) with e | e
    ·have:=bq z bk;omega
    ·exact e
theorem Pa {α:Type} [Inhabited α] {lt:α→α→Bool} (ai:Sort.SWO lt) (l:List α):((Sort.insertionSort lt l.toArray 0 l.length).toList).Perm l∧((Sort.insertionSort lt l.toArray 0 l.length).toList).Pairwise (fun x y=>lt y x=false):=by
 obtain ⟨⟨ad,_,aG⟩,a6⟩:=Sort.insertionSort_holds (lt:=lt) ai l.toArray 0 l.length (sP _) (by simp);generalize Sort.insertionSort lt l.toArray 0 l.length=d at ad aG a6;have ad:d.size=l.length:=by simpa using ad
 have e1:(d.extract 0 l.length).toList=d.toList:=by rw [←ad];simp
 have ca:(l.toArray.extract 0 l.length).toList=l:=by simp
 rw [e1,ca] at aG;refine ⟨aG,tG.2 fun i j hi aw g5=>?_⟩;have hi':i<d.size:=by simpa using hi
 have eg:j<d.size:=by simpa using aw
 have:=a6 i j (sP _) g5 (by omega);rw [getElem!_pos d i hi',getElem!_pos d j eg] at this;simpa using this
theorem Zt (l:List Int):(Hq l).Perm l:=(Pa Sort.swo_ltInt l).1
theorem aiZ {l:List Int} (h:l.Nodup):(Hq l).Pairwise (·<·):=by
 have aP:=Pa Sort.swo_ltInt l;have aN:(Hq l).Nodup:=aP.1.nodup_iff.2 h;refine tG.2 fun i j hi aw g5=>?_;have ad:=tG.1 aP.2 i j hi aw g5;have af:=tG.1 aN i j hi aw g5;simp only [Sort.ltInt,decide_eq_false_iff_not] at ad;have ad:¬ (Hq l)[j]<(Hq l)[i]:=ad;omega
theorem Zz:Sort.SWO IA:=by
 constructor
 all_goals intros
 all_goals simp only [IA,decide_eq_true_eq,decide_eq_false_iff_not] at *
 all_goals omega
theorem ai3 (l:List (List Int)):(Jl l).Perm l:=(Pa Zz l).1
theorem ai4 {l:List (List Int)} (h:l.Pairwise fun x y=>ix x 0≠ix y 0):(Jl l).Pairwise fun x y=>ix x 0<ix y 0:=by
 have aP:=Pa Zz l;have aN:(Jl l).Pairwise fun x y=>ix x 0≠ix y 0:=aP.1.symm.pairwise h fun {x y} I4=>Ne.symm I4;refine tG.2 fun i j hi aw g5=>?_;have ad:=tG.1 aP.2 i j hi aw g5;have af:=tG.1 aN i j hi aw g5;simp only [IA,decide_eq_false_iff_not] at ad;have ad:¬ ix (Jl l)[j] 0<ix (Jl l)[i] 0:=ad;omega
theorem Y':∀ {P Q:List (List Int)},P.Pairwise (fun x y=>ix x 0<ix y 0)→Q.Pairwise (fun x y=>ix x 0<ix y 0)→(∀ r,r∈P↔r∈Q)→P=Q
 | [],[],_,_,_=>rfl
 | [],y::b,_,_,h=>by have:=(h y).2 (by simp);simp at this
 | x::a,[],_,_,h=>by have:=(h x).1 (by simp);simp at this
 | x::a,y::b,cc,ag,h=>by
   obtain ⟨aC,aI⟩:=tK.1 cc;obtain ⟨bq,cI⟩:=tK.1 ag;have I4:x=y:=by
    rcases sL.1 ((h x).1 (by simp)) with e | e
    ·exact e
    ·rcases sL.1 ((h y).2 (by simp)) with ca | ca
     ·exact ca.symm
     ·have:=aC y ca;have:=bq x e;omega
   subst I4;rw [Y' aI cI fun z=>?_];constructor
   ·intro bk;rcases sL.1 ((h z).1 (by simp [bk])) with e | e
    ·subst e;have:=aC z bk;omega
    ·exact e
   ·intro bk;rcases sL.1 ((h z).2 (by simp [bk])) with e | e
    ·subst e;have:=bq z bk;omega
    ·exact e
end Go.Proofs.YtfakoboiahbhaaaGreat.Ab


namespace Go.Proofs.YtfakoboiahbhaaaGreat.Ab
open Go
def rb (b:p9) (i f:Int):Prop:=(ix b.2 i).1=f∨(ix b.2 i).2=f
inductive rT (b:p9) (S:List Int) (f:Int):Int→Prop
 | refl:rT b S f f
 | step {g h:Int} (i:Int):rT b S f g→i∈S→rb b i g→rb b i h→rT b S f h
theorem rT.trans {b:p9} {S:List Int} {f g h:Int} (ad:rT b S f g) (af:rT b S g h):rT b S f h:=by
 induction af with
 | refl=>exact ad
 | step i _ hi aC aI a_=>exact .step i a_ hi aC aI
theorem rT.one {b:p9} {S:List Int} {f g i:Int} (hi:i∈S) (ad:rb b i f) (af:rb b i g):rT b S f g:=.step i .refl hi ad af
theorem rT.symm {b:p9} {S:List Int} {f g:Int} (h:rT b S f g):rT b S g f:=by
 induction h with
 | refl=>exact .refl
 | step i _ hi aC aI a_=>exact (rT.one hi aI aC).trans a_
theorem rT.mono {b:p9} {S S':List Int} {f g:Int} (cm:∀ x∈S,x∈S') (h:rT b S f g):rT b S' f g:=by
 induction h with
 | refl=>exact .refl
 | step i _ hi aC aI a_=>exact .step i a_ (cm i hi) aC aI
def QZ (b:p9) (i k:Int):Bool:=J3 (ix b.2 i) (ix b.2 k)
theorem Z4 {b:p9} {i k:Int}:QZ b i k=true↔∃ f,rb b i f∧rb b k f:=by
 unfold QZ J3 rb;simp only [uc,decide_eq_true_eq];constructor
 ·rintro (((h | h) | h) | h)
  ·exact ⟨_,.inl rfl,.inl h.symm⟩
  ·exact ⟨_,.inl rfl,.inr h.symm⟩
  ·exact ⟨_,.inr rfl,.inl h.symm⟩
  ·exact ⟨_,.inr rfl,.inr h.symm⟩
 ·rintro ⟨f,ad | ad,af | af⟩ <;> omega
def I0 (b:p9) (s:Int) (r:List Int):Bool:=r.any (QZ b s)
structure rE (b:p9) (S:List Int) (out:List (List Int)):Prop where
 ne:∀ r∈out,r≠[]
 so:∀ r∈out,r.Pairwise (·<·)
 mem:∀ x,x∈S↔∃ r∈out,x∈r
 rS:out.Pairwise fun r q=>∀ x∈r,x ∉ q
 Js:∀ r∈out,∀ x∈r,∀ y∈r,∀ f g,rb b x f→rb b y g→rT b S f g
 sep:∀ r∈out,∀ q∈out,∀ x∈r,∀ y∈q,∀ f,rb b x f→rb b y f→r=q
def own (b:p9) (out:List (List Int)) (s:Int):List Int:=s::(out.filter (I0 b s)).flatten
def zZ (b:p9) (out:List (List Int)) (s:Int):List (List Int):=(out.filter fun r=>!I0 b s r)++[Hq (own b out s)]
section
variable {b:p9} {S:List Int} {out:List (List Int)} {s:Int}
theorem rE.uniq (h:rE b S out) {r q:List Int} {x:Int} (aj:r∈out) (a0:q∈out) (ad:x∈r) (af:x∈q):r=q:=h.sep r aj q a0 x ad x af _ (.inl rfl) (.inl rfl)
theorem Yx {x:Int}:x∈own b out s↔x=s∨∃ r∈out,I0 b s r=true∧x∈r:=by
 unfold own;simp only [sL,uG,tc,and_assoc]
theorem rE.YE (h:rE b S out) (ai:s ∉ S):(own b out s).Nodup:=by
 unfold own;refine uz.2 ⟨fun hm=>?_,?_⟩
 ·obtain ⟨r,aj,ak⟩:=uG.1 hm;exact ai ((h.mem s).2 ⟨r,(tc.1 aj).1,ak⟩)
 ·refine List.pairwise_flatten.2 ⟨fun r aj=>(h.so r (tc.1 aj).1).imp fun I4 e=>by omega,(h.rS.filter _).imp fun Mm x ak y aZ e=>Mm x ak (by rw [e];exact aZ)⟩
theorem rE.step (h:rE b S out) (ai:s ∉ S):rE b (S++[s]) (zZ b out s):=by
 have jR:=h.YE ai;have Nj:∀ x,x∈Hq (own b out s)↔x=s∨∃ r∈out,I0 b s r=true∧x∈r:=fun x=>by rw [(Zt _).mem_iff];exact Yx
 have KH:∀ r,r∈zZ b out s↔(r∈out∧I0 b s r=false)∨r=Hq (own b out s):=fun r=>by
  unfold zZ;simp only [ti,tc,ta,Bool.not_eq_true']
 have JC:∀ x∈S,x∈S++[s]:=fun x ak=>by simp [ak]
 have XY:∀ x∈Hq (own b out s),∀ f,rb b x f→rT b (S++[s]) (ix b.2 s).1 f:=fun x ak f aP=>by
  rcases (Nj x).1 ak with rfl | ⟨r,aj,bI,Ka⟩
  ·exact .one (by simp) (.inl rfl) aP
  ·obtain ⟨k,av,ay⟩:=vG.1 bI;obtain ⟨g,cb,b6⟩:=Z4.1 ay;exact (rT.one (i:=s) (by simp) (.inl rfl) cb).trans ((h.Js r aj k av x Ka g f b6 aP).mono JC)
 have eV:∀ r∈out,I0 b s r=false→∀ x∈r,∀ y∈Hq (own b out s),∀ f,rb b x f→rb b y f→False:=fun r aj bI x ak y aZ f f1 f2=>by
  rcases (Nj y).1 aZ with rfl | ⟨q,a0,Dp,afU⟩
  ·have:I0 b y r=true:=vG.2 ⟨x,ak,Z4.2 ⟨f,f2,f1⟩⟩
   rw [this] at bI;cases bI
  ·obtain rfl:=h.sep r aj q a0 x ak y afU f f1 f2;rw [Dp] at bI;cases bI
 refine ⟨fun r aj=>?_,fun r aj=>?_,fun x=>?_,?_,fun r aj x ak y aZ f g aP aO=>?_,fun r aj q a0 x ak y aZ f aP aO=>?_⟩
 ·rcases (KH r).1 aj with ⟨ad,_⟩ | rfl
  ·exact h.ne r ad
  ·intro e;have:=(Nj s).2 (.inl rfl);rw [e] at this;cases this
 ·rcases (KH r).1 aj with ⟨ad,_⟩ | rfl
  ·exact h.so r ad
  ·exact aiZ jR
 ·constructor
  ·intro ak;rcases ti.1 ak with ak | ak
   ·obtain ⟨r,aj,Ka⟩:=(h.mem x).1 ak;cases bI:I0 b s r with
    | true=>exact ⟨_,(KH _).2 (.inr rfl),(Nj x).2 (.inr ⟨r,aj,bI,Ka⟩)⟩
    | false=>exact ⟨r,(KH r).2 (.inl ⟨aj,bI⟩),Ka⟩
   ·exact ⟨_,(KH _).2 (.inr rfl),(Nj x).2 (.inl (by simpa using ak))⟩
  ·rintro ⟨r,aj,Ka⟩;rcases (KH r).1 aj with ⟨ad,_⟩ | rfl
   ·exact JC x ((h.mem x).2 ⟨r,ad,Ka⟩)
   ·rcases (Nj x).1 Ka with rfl | ⟨q,a0,_,Nm⟩
    ·simp
    ·exact JC x ((h.mem x).2 ⟨q,a0,Nm⟩)
 ·unfold zZ;refine vz.2 ⟨h.rS.filter _,by simp,fun r aj q a0 x ak Nm=>?_⟩;simp only [ta] at a0;subst a0;have aj:=tc.1 aj;exact eV r aj.1 (by simpa using aj.2) x ak x Nm _ (.inl rfl) (.inl rfl)
 ·rcases (KH r).1 aj with ⟨ad,_⟩ | rfl
  ·exact (h.Js r ad x ak y aZ f g aP aO).mono JC
  ·exact (XY x ak f aP).symm.trans (XY y aZ g aO)
 ·rcases (KH r).1 aj with ⟨ad,af⟩ | rfl
  ·rcases (KH q).1 a0 with ⟨aG,_⟩ | rfl
   ·exact h.sep r ad q aG x ak y aZ f aP aO
   ·exact (eV r ad af x ak y aZ f aP aO).elim
  ·rcases (KH q).1 a0 with ⟨aG,a6⟩ | rfl
   ·exact (eV q aG a6 y aZ x ak f aO aP).elim
   ·rfl
theorem rE.perm {Ho:List (List Int)} (h:rE b S out) (aB:Ho.Perm out):rE b S Ho:=by
 refine ⟨fun r aj=>h.ne r (aB.mem_iff.1 aj),fun r aj=>h.so r (aB.mem_iff.1 aj),fun x=>?_,aB.symm.pairwise h.rS fun {r q} Mm x ak hb=>Mm x hb ak,fun r aj=>h.Js r (aB.mem_iff.1 aj),fun r aj q a0=>h.sep r (aB.mem_iff.1 aj) q (aB.mem_iff.1 a0)⟩;rw [h.mem x];exact ⟨fun ⟨r,aj,ak⟩=>⟨r,aB.mem_iff.2 aj,ak⟩,fun ⟨r,aj,ak⟩=>⟨r,aB.mem_iff.1 aj,ak⟩⟩
theorem rE.closed (h:rE b S out) {q:List Int} (a0:q∈out) {x:Int} (ak:x∈q) {f g:Int} (aP:rb b x f) (al:rT b S f g):∀ z∈S,rb b z g→z∈q:=by
 induction al with
 | refl =>
   intro z bk Tt;obtain ⟨r,aj,fN⟩:=(h.mem z).1 bk;rw [h.sep q a0 r aj x ak z fN f aP Tt];exact fN
 | step i _ hi aC aI a_ =>
   intro z bk Tt;have mf:=a_ i hi aC;obtain ⟨r,aj,fN⟩:=(h.mem z).1 bk;rw [h.sep q a0 r aj i mf z fN _ aI Tt];exact fN
theorem rE.same {P Q:List (List Int)} (CD:rE b S P) (bp:rE b S Q) (ad:P.Pairwise fun x y=>ix x 0<ix y 0) (af:Q.Pairwise fun x y=>ix x 0<ix y 0):P=Q:=by
 have key:∀ {P Q:List (List Int)},rE b S P→rE b S Q→∀ r∈P,r∈Q:=fun {P Q} CD bp r aj=>by
  obtain ⟨x,ak⟩:=List.exists_mem_of_ne_nil r (CD.ne r aj);have afS:=(CD.mem x).2 ⟨r,aj,ak⟩;obtain ⟨q,a0,Nm⟩:=(bp.mem x).1 afS;have e:r=q:=Y7 (CD.so r aj) (bp.so q a0) fun y=>by
   constructor
   ·intro aZ;exact bp.closed a0 Nm (.inl rfl) (CD.Js r aj x ak y aZ _ _ (.inl rfl) (.inl rfl)) y ((CD.mem y).2 ⟨r,aj,aZ⟩) (.inl rfl)
   ·intro aZ;exact CD.closed aj ak (.inl rfl) (bp.Js q a0 x Nm y aZ _ _ (.inl rfl) (.inl rfl)) y ((bp.mem y).2 ⟨q,a0,aZ⟩) (.inl rfl)
  rw [e];exact a0
 exact Y' ad af fun r=>⟨key CD bp r,key bp CD r⟩
end
end Go.Proofs.YtfakoboiahbhaaaGreat.Ab


namespace Go.Proofs.YtfakoboiahbhaaaGreat.Ab
open Go
def sa (b:p9) (l:List Int):Prop:=∀ x∈l,0≤x∧x<(b.2.length:Int)
section
variable {b:p9} {S:List Int} {out:List (List Int)} {s:Int}
theorem abu {r:List Int} (ag:b.2.length≤1000) (aj:sa b r) (ai:0≤s∧s<(b.2.length:Int)) (ao:r.length≤1000):MU r b s=some (I0 b s r):=by
 rw [MU,VF (p:=QZ b s) (fun k av=>by
  rw [Rl,Vi,qz ai,qz (aj k av)];rfl) (by omega),sx];rfl
theorem Lx {l:List Int} (aN:l.Nodup) (ao:sa b l):l.length≤b.2.length:=OQ aN ao
theorem SX (ag:b.2.length≤1000) (ai:0≤s∧s<(b.2.length:Int)):∀ (out:List (List Int)) (acc:List Int),(∀ r∈out,sa b r∧r.length≤1000)→(acc++(out.filter (I0 b s)).flatten).length≤1000 →
  IZ (P1 b s) out acc=some (acc++(out.filter (I0 b s)).flatten)
 | [],acc,_,_=>by simp [IZ]
 | r::out,acc,h,ao=>by
   have aj:=h r (by simp);rw [IZ,P1,abu ag aj.1 ai aj.2,sx];rw [tx] at ao ⊢;cases bI:I0 b s r with
   | true =>
     rw [bI,if_pos rfl,tO,←sH] at ao;have gg:acc.length+r.length≤1000:=by
      rw [sC,sC] at ao;omega
     rw [if_pos rfl,qz (by omega),sx,SX ag ai out _ (fun q a0=>h q (by simp [a0])) ao,if_pos rfl,tO,sH]
   | false =>
     rw [bI] at ao;rw [if_neg (by decide),sx,SX ag ai out _ (fun q a0=>h q (by simp [a0])) (by simpa using ao),if_neg (by decide)]
theorem W_ {f:List Int→Option Bool} {p:List Int→Bool}:∀ (l:List (List Int)),(∀ r∈l,f r=some (p r))→L8 f l=some (l.filter fun r=>!p r)
 | [],_=>rfl
 | r::l,h=>by
   rw [L8,h r (by simp),sx,W_ l fun q a0=>h q (by simp [a0]),sx,tx];cases p r <;> rfl
theorem YH:∀ (l:List (List Int)),(∀ r∈l,r≠[])→l.length≤l.flatten.length
 | [],_=>Nat.le_refl _
 | r::l,h=>by
   have:=YH l fun q a0=>h q (by simp [a0]);have:=List.length_pos_iff.2 (h r (by simp));simp only [tO,sC,sV];omega
theorem rE.Xo (h:rE b S out):out.flatten.Nodup :=
 List.pairwise_flatten.2 ⟨fun r aj=>(h.so r aj).imp fun I4 e=>by omega,h.rS.imp fun Mm x ak y aZ e=>Mm x ak (by rw [e];exact aZ)⟩
theorem rE.Qd (h:rE b S out) (cm:sa b S):∀ r∈out,sa b r:=fun r aj x ak=>cm x ((h.mem x).2 ⟨r,aj,ak⟩)
theorem rE.few (h:rE b S out) (cm:sa b S):out.length≤b.2.length:=by
 refine Nat.le_trans (YH out h.ne) (Lx h.Xo fun x ak=>?_);obtain ⟨r,aj,ak⟩:=uG.1 ak;exact h.Qd cm r aj x ak
theorem ahq (ag:b.2.length≤10) (cm:sa b S) (h:rE b S out) (ai:s ∉ S) (dO:0≤s∧s<(b.2.length:Int)):OU b out s=some (zZ b out s):=by
 have g6:=h.Qd cm;have Dw:∀ r∈out,r.length≤10:=fun r aj=>by
  have:=Lx ((h.so r aj).imp fun I4 e=>by omega:r.Nodup) (g6 r aj);omega
 have fK:(own b out s).length≤10:=by
  have afD:sa b (own b out s):=fun x ak=>by
   rcases Yx.1 ak with e | ⟨r,aj,_,Ka⟩
   ·rw [e];exact dO
   ·exact g6 r aj x Ka
  have:=Lx (h.YE ai) afD;omega
 have aP:=h.few cm;have XP:=SX (by omega) dO out [s] (fun r aj=>⟨g6 r aj,by have:=Dw r aj;omega⟩) (by have:[s]++(out.filter (I0 b s)).flatten=own b out s:=rfl;rw [this];omega);rw [show [s]++(out.filter (I0 b s)).flatten=own b out s from rfl] at XP;rw [OU,XP,sx,qz ⟨by omega,by unfold own;simp,by omega⟩,W_ (p:=I0 b s) out (fun r aj=>abu (by omega) (g6 r aj) dO (by have:=Dw r aj;omega)),sx];rfl
theorem YJ (ag:b.2.length≤10):∀ (R S:List Int) (out:List (List Int)),(S++R).Nodup→sa b (S++R)→rE b S out→∃ Ho,IZ (OU b) R out=some Ho∧rE b (S++R) Ho
 | [],S,out,_,_,h=>⟨out,rfl,by simpa using h⟩
 | s::R,S,out,aN,g6,h=>by
   have ai:s ∉ S:=fun ai=>by
    have:=(u6.1 aN).2.2 s ai s (by simp);exact this rfl
   (have e:S++s::R=(S++[s])++R:=by simp);obtain ⟨Ho,ad,af⟩:=YJ ag R (S++[s]) (zZ b out s) (by rw [←e];exact aN) (by rw [←e];exact g6) (h.step ai);refine ⟨Ho,?_,by rw [e];exact af⟩;rw [IZ,ahq ag (fun x ak=>g6 x (by simp [ak])) h ai (g6 s (by simp)),sx,ad]
theorem rE.nil:rE b [] []:=⟨fun r aj=>absurd aj (by simp),fun r aj=>absurd aj (by simp),fun x=>by simp,.nil,fun r aj=>absurd aj (by simp),fun r aj=>absurd aj (by simp)⟩
theorem head_mem {r:List Int} (h:r≠[]):ix r 0∈r:=by
 cases r with
 | nil=>exact absurd rfl h
 | cons a r=>simp [ix]
theorem abl (ag:b.2.length≤10) (aN:S.Nodup) (g6:sa b S):∃ out,LV b S=some out∧rE b S out∧out.Pairwise fun x y=>ix x 0<ix y 0:=by
 obtain ⟨out,ad,af⟩:=YJ ag S [] [] (by simpa using aN) (by simpa using g6) rE.nil;rw [t_] at af;have aB:=af.perm (ai3 out);have ao:=Lx aN g6;refine ⟨Jl out,?_,aB,ai4 (af.rS.imp_of_mem fun {r q} aj a0 Mm e=>Mm _ (head_mem (af.ne r aj)) (by rw [e];exact head_mem (af.ne q a0)))⟩;have aP:=af.few g6;have cU:out.all NL=true:=List.all_eq_true.2 fun r aj=>by
  have hm:=head_mem (af.ne r aj);have hi:=af.Qd g6 r aj _ hm;have he:(!r.isEmpty)=true:=by
   cases r with
   | nil=>exact absurd rfl (af.ne [] aj)
   | cons a r=>rfl
  rw [NL,he,decide_eq_true hi.1,decide_eq_true (by omega)];rfl
 rw [LV,qz (by omega),ad,sx,qz ⟨by omega,cU⟩]
end
end Go.Proofs.YtfakoboiahbhaaaGreat.Ab


namespace Go.Proofs.YtfakoboiahbhaaaGreat.Ab
open Go
set_option maxRecDepth 20000
set_option maxHeartbeats 4000000
noncomputable def Pv:fW :=
 .loop (some (qb false [3,1,6,2,8])) (pZ [GC 12 [.sl 11,.sl 10] (.bin .lss)] (.seq (.cond (.sl 12) .skip (.exit 0)) (.seq (.block 1 (pZ [p1 13 11,pY 4 13] (qK [pY 14 3,pY 15 4,GC 16 [.Bt 15] (.yv 1 1 [.int .i64 0] [0]),GC 17 [.jh 14,.jh 16] (.app 1 8),pY 3 17]))) (qK [qU 18 11 1,pY 11 18]))))
noncomputable def VM:fW :=
 pZ [GC 2 [.lT (.ax [] 0 .full)] (.nil 1)] (pZ [GC 3 [.lT (.ax [] 0 .full)] (.nil 1)] (.seq (pZ [pY 5 0,GC 6 [.Bt 5] .zY,qW 7 6 0,qW 8 7 1,qo 9 8,qI 10 9,qd 11 0] (.block 0 Pv)) (pZ [pY 19 3,pY 2 19] .ret)))
theorem Yo:zE Tryz.prog R7 77=some (VM,20,[.tmp 2]):=by kernel_rfl
def MQ (t:qn) (qq:qt→Option qt):Nat→qt→Int→Option qt
 | 0,_,_=>none
 | m+1,s1,s2 =>
   if (decide (s2<(t.2.length:Int)))=true then
    qg ((s1.length+1)*8≤140737488355328) <|
    MQ t qq m (s1++[s2]) (w (s2+(1:Int)))
   else
    qq s1
def Rb (t:qn):Option qt :=
 MQ t (fun yh =>
   some yh) qc ([]:List Int) (0:Int)
theorem alp {t:qn} {qq:qt→Option qt} {s1:qt} {s2:Int} {v:qt} {Q:rf}   (r9:∀ (yh:qt) (p7:List I),qq yh=some v→qQ 20 [(3,(qJ yh (.uniq 1)))] p7→Q (.exit 0) p7 []) {T:List I} (bX:e0 (qb false [3,1,6,2,8]) T=Hc 20 [(3,(qJ s1 (.uniq 1))),(10,(hW (t.2.length:Int))),(11,(hW s2))]) (h:MQ t qq qc s1 s2=some v) :
  dR Tryz.prog R7 77 0 none Pv T [] Q:=by
 unfold Pv;refine wp_loop bX ?_;refine .intro (fun m T H=>∃ (s1:qt) (s2:Int),T=Hc 20 [(3,(qJ s1 (.uniq 1))),(10,(hW (t.2.length:Int))),(11,(hW s2))]∧H=[]∧MQ t qq m s1 s2=some v) qc ⟨s1,s2,rfl,rfl,h⟩ ?_;clear h bX;rintro m T H ⟨s1,s2,rfl,rfl,h⟩;cases m
 ·exact rj h
 rename_i m;rw [MQ.eq_2] at h;conv=>whnf
 refine bs h (fun gG h=>?_) fun gG h=>?_
 ·rw [gG];conv=>whnf
  obtain ⟨gH,h⟩:=qC h;refine ⟨by first | rfl | simp,by have:=gH;omega,rfl,gH,?_⟩
  erw [Kx hW s1 s2];conv=>whnf
  exact ⟨m,sA m,(s1++[s2]),(w (s2+(1:Int))),rfl,rfl,h⟩
 ·rw [gG];conv=>whnf
  exact r9 _ _ h ⟨rfl,rfl⟩
theorem alq {t:qn} {v:qt} (h:Rb t=some v):qB 77 [(.bU [(hW t.1),(.ax (t.2.flatMap p0) t.2.length .shared)])] (.ax (v.map hW) v.length .shared):=by
 refine q5 et Yo rfl (r7 (fun _=>rfl) _ _ _) fun Q bp=>?_;have jD:qR [.tmp 2] Q (fun v=>(qJ v .shared)) v:=fun T H bI=>bp _ T H bI;unfold Rb at h;unfold VM;obtain ⟨II,q'⟩:∃ c,Pv=c:=⟨_,rfl⟩;rw [q'];conv=>whnf
 subst q';refine alp ?_ (by exact rfl) h;intro yh p7 h qe;obtain ⟨qG,rfl⟩:=qe.ex;conv=>whnf
 exact qi h jD rfl rfl

end Go.Proofs.YtfakoboiahbhaaaGreat.Ab


namespace Go.Proofs.YtfakoboiahbhaaaGreat.Ab
open Go
set_option maxRecDepth 20000
set_option maxHeartbeats 4000000

end Go.Proofs.YtfakoboiahbhaaaGreat.Ab


namespace Go.Proofs.YtfakoboiahbhaaaGreat.Ab
open Go
theorem HP {n:Nat} {x:Int}:x∈upto n↔0≤x∧x<(n:Int):=by
 unfold upto;rw [sM];constructor
 ·rintro ⟨j,aw,rfl⟩;have:=sX.1 aw;omega
 ·rintro ⟨ad,af⟩;exact ⟨x.toNat,sX.2 (by omega),by omega⟩
theorem IQ (n:Nat):(upto n).Nodup:=by
 unfold upto;exact vl.2 (List.nodup_range.imp fun h e=>h (by omega))
section
variable {b:p9}
theorem Hz.aeb {f g:Int} (h:Hz b (-1) f g):rT b (upto b.2.length) f g:=by
 obtain ⟨n,h⟩:=h
 induction n generalizing g with
 | zero=>rw [show f=g from h];exact .refl
 | succ n a_ =>
   obtain ⟨c,ad,af⟩:=h;obtain ⟨i,hi,_,aG⟩:=af.Jj;refine .step (i:Int) (a_ ad) (HP.2 ⟨by omega,by omega⟩) ?_ ?_
   ·rcases aG with ⟨aG,_⟩ | ⟨aG,_⟩
    ·exact .inl aG
    ·exact .inr aG
   ·rcases aG with ⟨_,aG⟩ | ⟨_,aG⟩
    ·exact .inr aG
    ·exact .inl aG
theorem Ss {i f g:Int} (hi:i∈upto b.2.length) (ad:rb b i f) (af:rb b i g):Hz b (-1) f g:=by
 have hi:=HP.1 hi;obtain ⟨j,rfl⟩:∃ j:Nat,i=(j:Int):=⟨i.toNat,by omega⟩;have he:=HY.of (b:=b) (wo := -1) (i:=j) (by omega) (by omega);rcases ad with rfl | rfl <;> rcases af with rfl | rfl
 ·exact Hz.refl _
 ·exact he.Oq
 ·exact he.symm.Oq
 ·exact Hz.refl _
theorem rT.Oq {f g:Int} (h:rT b (upto b.2.length) f g):Hz b (-1) f g:=by
 induction h with
 | refl=>exact Hz.refl _
 | step i _ hi aC aI a_=>exact a_.trans (Ss hi aC aI)
theorem PL (p5:qS b) {i f:Int} (hi:i∈upto b.2.length) (h:rb b i f):0≤f∧f<b.1:=by
 have hi:=HP.1 hi;obtain ⟨j,rfl⟩:∃ j:Nat,i=(j:Int):=⟨i.toNat,by omega⟩;have:=QN p5 (i:=j) (by omega);rcases h with rfl | rfl <;> omega
structure JP (key:Int→Int) (i:Nat) (seen:List Int) (out:List (List Int)):Prop where
 len:out.length=seen.length
 sq:seen.Nodup
 par:∀ (j:Nat) (h:j<out.length) (aY:j<seen.length) (x:Int),x∈out[j]↔0≤x∧x<(i:Int)∧key x=seen[j]
 so:∀ r∈out,r.Pairwise (·<·)
 ne:∀ r∈out,r≠[]
 all:∀ x:Int,0≤x→x<(i:Int)→key x∈seen
 a3:out.Pairwise fun x y=>ix x 0<ix y 0
theorem JP.new {key:Int→Int} {i:Nat} {seen:List Int} {out:List (List Int)} (h:JP key i seen out) (aN:key i ∉ seen):JP key (i+1) (seen++[key i]) (out++[[(i:Int)]]):=by
 have ao:=h.len;refine ⟨by simp [ao],?_,fun j aw eg x=>?_,fun r aj=>?_,fun r aj=>?_,fun x ad af=>?_,?_⟩
 ·rw [u6];exact ⟨h.sq,by simp,fun a cc c al e=>by simp only [ta] at al;subst al;subst e;exact aN cc⟩
 ·by_cases jL:j<out.length
  ·rw [v9 jL,v9 (by omega),h.par j jL (by omega) x];constructor
   ·rintro ⟨aC,aI,aR⟩;exact ⟨aC,by omega,aR⟩
   ·rintro ⟨aC,aI,aR⟩;refine ⟨aC,?_,aR⟩
    have:x≠(i:Int):=fun e=>aN (by rw [←e,aR];exact sU _)
    omega
  ·(have e:j=out.length:=by simp at aw;omega);subst e;rw [v_ (by omega),v_ (by omega)];simp only [Nat.sub_self,ao,List.getElem_cons_zero,ta];constructor
   ·rintro rfl;exact ⟨by omega,by omega,rfl⟩
   ·rintro ⟨aC,aI,aR⟩;refine Classical.byContradiction fun ak=>aN ?_;rw [←aR];exact h.all x aC (by omega)
 ·rcases ti.1 aj with aj | aj
  ·exact h.so r aj
  ·simp only [ta] at aj;subst aj;simp
 ·rcases ti.1 aj with aj | aj
  ·exact h.ne r aj
  ·simp only [ta] at aj;subst aj;simp
 ·by_cases ak:x=(i:Int)
  ·subst ak;simp
  ·exact vE _ (h.all x ad (by omega))
 ·refine vz.2 ⟨h.a3,by simp,fun r aj q a0=>?_⟩;simp only [ta] at a0;subst a0;obtain ⟨j,aw,rfl⟩:=uH aj;have:=((h.par j aw (by omega) _).1 (head_mem (h.ne _ aj))).2.1;show ix out[j] 0<(i:Int);exact this
theorem JP.fQ {key:Int→Int} {i k:Nat} {seen:List Int} {out:List (List Int)} (h:JP key i seen out) (av:k<seen.length) (pI:seen[k]=key i):JP key (i+1) seen (out.set k (out[k]'(by have:=h.len;omega)++[(i:Int)])):=by
 have ao:=h.len;have P7:k<out.length:=by omega
 have bO:=h.ne _ (sU P7);have afj:ix (out[k]++[(i:Int)]) 0=ix out[k] 0:=by
  cases e:out[k] with
  | nil=>exact absurd e bO
  | cons a r=>rfl
 refine ⟨by simpa using ao,h.sq,fun j aw eg x=>?_,fun r aj=>?_,fun r aj=>?_,fun x ad af=>?_,?_⟩
 ·rw [List.getElem_set];split
  ·rename_i e;subst e;rw [ti,h.par k P7 eg x,ta];constructor
   ·rintro (⟨aC,aI,aR⟩ | rfl)
    ·exact ⟨aC,by omega,aR⟩
    ·exact ⟨by omega,by omega,pI.symm⟩
   ·rintro ⟨aC,aI,aR⟩;by_cases ak:x=(i:Int)
    ·exact .inr ak
    ·exact .inl ⟨aC,by omega,aR⟩
  ·rename_i e;rw [h.par j (by simpa using aw) eg x];constructor
   ·rintro ⟨aC,aI,aR⟩;exact ⟨aC,by omega,aR⟩
   ·rintro ⟨aC,aI,aR⟩;refine ⟨aC,?_,aR⟩
    have:x≠(i:Int):=fun ex=>by
     subst ex;exact tG.1 h.sq |> fun aB=>by
      rcases Nat.lt_or_gt_of_ne e with aS | aS
      ·exact aB k j av eg aS (by rw [pI,aR])
      ·exact aB j k eg av aS (by rw [pI,aR])
    omega
 ·rcases List.mem_or_eq_of_mem_set aj with aj | rfl
  ·exact h.so r aj
  ·refine vz.2 ⟨h.so _ (sU P7),by simp,fun x ak y aZ=>?_⟩;simp only [ta] at aZ;subst aZ;exact ((h.par k P7 av x).1 ak).2.1
 ·rcases List.mem_or_eq_of_mem_set aj with aj | rfl
  ·exact h.ne r aj
  ·simp
 ·by_cases ak:x=(i:Int)
  ·subst ak;rw [←pI];exact sU _
  ·exact h.all x ad (by omega)
 ·refine tG.2 fun a c cc al aeW=>?_;have a0:∀ (a:Nat) (cc:a<out.length),ix ((out.set k (out[k]++[(i:Int)]))[a]'(by simpa using cc)) 0=ix out[a] 0:=fun a cc=>by
   rw [List.getElem_set];split
   ·rename_i e;subst e;exact afj
   ·rfl
  rw [a0 a (by simpa using cc),a0 c (by simpa using al)];exact tG.1 h.a3 a c (by simpa using cc) (by simpa using al) aeW
theorem JP.parts (p5:qS b) {N:List Int} (CC:RU b (-1) N) {seen:List Int} {out:List (List Int)} (h:JP (fun s=>ix N (ix b.2 s).1) b.2.length seen out):rE b (upto b.2.length) out:=by
 have ao:=h.len;have P8:∀ x∈upto b.2.length,0≤(ix b.2 x).1∧(ix b.2 x).1<b.1:=fun x ak=>PL p5 ak (.inl rfl);have JC:∀ (j:Nat) (aw:j<out.length) (x:Int),x∈out[j]→x∈upto b.2.length:=fun j aw x ak=>by
  have:=(h.par j aw (by omega) x).1 ak;exact HP.2 ⟨this.1,this.2.1⟩
 refine ⟨h.ne,h.so,fun x=>?_,tG.2 fun i j hi aw g5 x ak hb=>?_,fun r aj x ak y aZ f g aP aO=>?_,fun r aj q a0 x ak y aZ f aP aO=>?_⟩
 ·constructor
  ·intro ak;have nS:=HP.1 ak;obtain ⟨j,aw,e⟩:=uH (h.all x nS.1 nS.2);exact ⟨_,sU (show j<out.length by omega),(h.par j (by omega) aw x).2 ⟨nS.1,nS.2,e.symm⟩⟩
  ·rintro ⟨r,aj,ak⟩;obtain ⟨j,aw,rfl⟩:=uH aj;exact JC j aw x ak
 ·have ad:=(h.par i hi (by omega) x).1 ak;have af:=(h.par j aw (by omega) x).1 hb;exact tG.1 h.sq i j (by omega) (by omega) g5 (by rw [←ad.2.2,←af.2.2])
 ·obtain ⟨j,aw,rfl⟩:=uH aj;have ad:=(h.par j aw (by omega) x).1 ak;have af:=(h.par j aw (by omega) y).1 aZ;have Mn:=JC j aw x ak;have OO:=JC j aw y aZ;have al:=(CC.iff (P8 x Mn) (P8 y OO)).1 (by rw [ad.2.2,af.2.2]);exact ((rT.one Mn aP (.inl rfl)).trans al.aeb).trans (rT.one OO (.inl rfl) aO)
 ·obtain ⟨i,hi,rfl⟩:=uH aj;obtain ⟨j,aw,rfl⟩:=uH a0;have ad:=(h.par i hi (by omega) x).1 ak;have af:=(h.par j aw (by omega) y).1 aZ;have Mn:=JC i hi x ak;have OO:=JC j aw y aZ;have al:Hz b (-1) (ix b.2 x).1 (ix b.2 y).1:=(Ss Mn (.inl rfl) aP).trans (Ss OO aO (.inl rfl));have e:=(CC.iff (P8 x Mn) (P8 y OO)).2 al;have ca:seen[i]'(by omega)=seen[j]'(by omega):=by rw [←ad.2.2,←af.2.2];exact e
  have g5:i=j:=by
   refine Classical.byContradiction fun bO=>?_;rcases Nat.lt_or_gt_of_ne bO with aS | aS
   ·exact tG.1 h.sq i j (by omega) (by omega) aS ca
   ·exact tG.1 h.sq j i (by omega) (by omega) aS ca.symm
  subst g5;rfl
end
end Go.Proofs.YtfakoboiahbhaaaGreat.Ab
