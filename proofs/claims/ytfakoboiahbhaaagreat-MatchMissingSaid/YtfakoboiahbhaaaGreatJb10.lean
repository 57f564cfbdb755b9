
import Derived.Test.YtfakoboiahbhaaaGreatJb9
import Derived.Test.YtfakoboiahbhaaaGreatJb5
import Derived.Test.YtfakoboiahbhaaaGreatProg
import Derived.KernelRfl
import Derived.Test.YtfakoboiahbhaaaGreatJb6
set_option linter.unusedSimpArgs false
set_option linter.unusedVariables false
set_option linter.unusedSectionVars false

open Int renaming toNat_natCast→tV
open List renaming all_eq_true→sR,append_assoc→sH,append_nil→sW,cons_append→uK,drop_eq_getElem_cons→tn,drop_zero→th,exists_mem_of_ne_nil→v8,ext_getElem?→ui,filter_append→uy,filter_cons→tx,filter_eq_nil_iff→wO,find?_eq_none→vH,flatMap_cons→uo,flatten_append→vJ,flatten_cons→tO,getD_eq_getElem?_getD→sY,getElem?_append→sy,getElem?_eq_none→ub,getElem?_eq_some_iff→sv,getElem?_map→sN,getElem?_set_ne→sJ,getElem?_set_self→sI,getElem?_take→tp,getElem_map→vD,getElem_mem→sU,getElem_of_mem→uH,length_append→sC,length_cons→sV,length_eq_zero_iff→tu,length_filter_le→tW,length_map→td,length_nil→uV,length_pos_iff→tS,length_set→tA,length_singleton→tz,length_take→tf,map_append→tj,map_cons→sG,map_map→uE,map_nil→tL,mem_append→ti,mem_cons→sL,mem_filter→tc,mem_map→sM,mem_range→sX,mem_reverse→wN,mem_singleton→ta,nil_append→t_,nodup_cons→uz,nodup_range→uD,pairwise_map→vl,perm_append_comm→wb,perm_ext_iff_of_nodup→uR,range_succ→uZ,reverse_perm→wa,set_set→te,sum_cons→tX,take_length→tU,take_of_length_le→uB,take_zero→tD
open Nat renaming le_refl→sB,le_trans→tb,lt_succ_self→sA,min_eq_left→tI,zero_add→tg,zero_le→sP
open Option renaming bind_some→sx,map_eq_some_iff→su
namespace Go.Proofs.YtfakoboiahbhaaaGreat.Ab
open Go
section
variable {b:p9}
theorem JP.few {key:Int→Int} {i:Nat} {seen:List Int} {out:List (List Int)} (h:JP key i seen out):out.length≤i:=by
 have hm:=OQ (l:=out.map fun r=>ix r 0) (n:=i) (by
  refine vl.2 (h.a3.imp fun I4 e=>by omega)) fun x ak=>by
  obtain ⟨r,aj,rfl⟩:=sM.1 ak;obtain ⟨j,aw,rfl⟩:=uH aj;have:=(h.par j aw (by have:=h.len;omega) _).1 (head_mem (h.ne _ aj));exact ⟨this.1,this.2.1⟩
 simpa using hm
theorem JP.zero {key:Int→Int}:JP key 0 [] []:=⟨rfl,by simp,fun j h=>absurd h (by simp),fun r aj=>absurd aj (by simp),fun r aj=>absurd aj (by simp),fun x ad af=>by omega,by simp⟩
def parts (b:p9):List (List Int):=(LV b (upto b.2.length)).getD []
theorem LK:sa b (upto b.2.length):=fun x ak=>HP.1 ak
theorem VB (p5:qS b):LV b (upto b.2.length)=some (parts b)∧rE b (upto b.2.length) (parts b)∧(parts b).Pairwise fun x y=>ix x 0<ix y 0:=by
 obtain ⟨out,ad,af,aG⟩:=abl (b:=b) (S:=upto b.2.length) p5.len (IQ _) LK
 have:parts b=out:=by unfold parts;rw [ad];rfl
 rw [this];exact ⟨ad,af,aG⟩
end
end Go.Proofs.YtfakoboiahbhaaaGreat.Ab


namespace Go.Proofs.YtfakoboiahbhaaaGreat.Ab
open Go
noncomputable def TZ:fW :=
 .oj true [GC 21 [.sl 3] (.zy .one),p1 22 4,GC 23 [.Bt 22] (.build [.int .i64 0,.int .i64 0] [(0,1)]),GC 24 [.sl 3] (.zy .one),p1 25 4,GC 26 [.Bt 25,.lT (.int .i64 1)] (.build [.int .i64 0,.int .i64 0] [(0,1),(1,1)]),⟨none,[.Bt 21,.Bt 23,.lT (.int .i64 1)],none,none,.zN (.str 2)⟩,⟨none,[.Bt 24,.Bt 26,.lT (.int .i64 1)],none,none,.zN (.str 2)⟩]
noncomputable def T2:fW :=
 .block 1 (pZ [p1 20 18,pY 4 20] TZ)
noncomputable def YT:fW :=
 .oj false [GC 84 [.sl 1] (.zy .one),GC 85 [.Bt 10] (.zy (.str 2)),GC 86 [.lT (.func 68 [] []),.sl 84,.sl 85] (.call 3),pY 83 86,rI 87 83 0,GC 88 [.Bt 83] (.ext 1),⟨none,[.sl 7,.jh 87],none,none,.st 1⟩]
noncomputable def T3:fW :=
 pZ [pY 79 5,GC 80 [.sl 10] (.zy (.str 2)),GC 81 [.Bt 80] (.yv 1 2 [.int .i64 0,.int .i64 0] [0]),GC 82 [.jh 79,.jh 81] (.yl 2 16),pY 5 82] YT
noncomputable def T4:fW :=
 pZ [GC 74 [.sl 6] (.other (Oper.mk (some 74) (Op.load 25 (Operand.tmp 6)) 25 "table.go:177" (Array.mk []) none) 5), GC 75 [.sl 6] (.zy .one), qI 76 75, qA 77 76 1 .sub, GC 78 [.jh 74, .jh 77] (.Bh 2 false true false), ⟨none, [.sl 6, .jh 78], none, none, .st 1⟩] T3
noncomputable def T5:fW :=
 pZ [GC 68 [.sl 6] (.zy .one),GC 69 [.sl 6] (.zy .one),qI 70 69,qA 71 70 1 .sub,qZ 72 68 71 2,GC 73 [.Bt 72] (.zy (.str 2)),GC 10 [] (.alloc [.int .i64 0,.int .i64 0]),⟨none,[.sl 10,.jh 73],none,none,.st 2⟩] T4
noncomputable def T9:fW :=
 .AM (.sl 40) [41] (G9 Go.Proofs.Tryz.prog 104 0) (G_ Go.Proofs.Tryz.prog 104 0)
noncomputable def T6:fW :=
 .block 3 (.seq (pZ [p1 38 8,GC 39 [.sl 7] (.zy .one),GC 40 [.sl 38,.sl 39] (.call 3)] (.block 4 T9)) (.seq (pZ [GC 65 [.sl 6] (.zy .one),qI 66 65,qA 67 66 0 .eql] (.cond (.sl 67) (.exit 2) .skip)) T5))
noncomputable def Qy:fW :=
 .loop (some (qb false [1,1,1,1,1,4,83])) T6
noncomputable def T7:fW :=
 .block 2 Qy
noncomputable def T8:fW :=
 pZ [p1 89 5, GC 90 [.lT (.func 128 [] []), .jh 89] (.call 1)] (pZ [⟨some 91, [.jh 5], none, some 5, .other (Oper.mk (some 91) (Op.move (Operand.tmp 5)) 25 "table.go:182" (Array.mk []) none) 2⟩, pY 2 91] .ret)
noncomputable def T0:fW :=
 pZ [GC 28 [.sl 1] (.zy .one),GC 29 [.Bt 28] .zY,qW 30 29 0,qW 31 30 1,qo 32 31,GC 33 [.Bt 32,.lT (.int .i64 0)] (.kR 2),qW 34 33 0,qo 35 34,GC 7 [] (.alloc [.int .i64 0]),⟨none,[.sl 7,.jh 35],none,none,.st 1⟩] (pZ [GC 36 [.sl 1] (.zy .one),GC 37 [.Bt 36] (.zS 89 1 0),pY 8 37] (.seq .skip (.seq T7 T8)))
noncomputable def Qz:fW :=
 .loop (some (qb false [1,1,1,1,13,2,73])) (pZ [GC 19 [.sl 18,.sl 17] (.bin .lss)] (.seq (.cond (.sl 19) .skip (.exit 0)) (.seq T2 (qK [qU 27 18 1,pY 18 27]))))
noncomputable def T1:fW :=
 .seq (pZ [GC 12 [.sl 1] (.zy .one),GC 13 [.Bt 12] .zY,qW 14 13 0,qW 15 14 1,qo 16 15,qI 17 16,qd 18 0] (.block 0 Qz)) (pZ [GC 5 [.lT (.ax [] 0 .full)] .Br,GC 6 [] (.alloc [.ax [] 0 .full])] T0)
noncomputable def YS:fW :=
 pZ [GC 1 [.jh 0] .box,GC 2 [.lT (.ax [] 0 .full)] (.nil 2)] (pZ [GC 11 [] .zT,GC 3 [] (.alloc [.junk]),⟨none,[.sl 3,.jh 11],none,none,.st 1⟩] T1)
theorem af9:zE Go.Proofs.Tryz.prog L1 104=some (YS,92,[.tmp 2]):=by kernel_rfl
noncomputable def Ul:fW :=
 .block 1 (sj [p1 14 0,p1 15 2,p1 16 0,p1 17 3,p1 18 0,p1 19 3,qZ 20 18 19 2,GC 21 [.Bt 20] (.zy (.str 2)),p1 22 0,p1 23 2,qZ 24 22 23 2,GC 25 [.Bt 24] (.zy (.str 2)),qZ 26 14 15 2,⟨none,[.jh 26,.jh 21],none,none,.st 2⟩,qZ 27 16 17 2,⟨none,[.jh 27,.jh 25],none,none,.st 2⟩])
noncomputable def Um:fW :=
 .oj false [pY 10 2,qU 11 10 1,pY 12 3,qA 13 12 1 .sub,pY 2 11,pY 3 13]
noncomputable def Un:fW :=
 .loop (some (qb false [0,1,1,2,24])) (.seq (pZ [p1 7 2,p1 8 3,qT 9 7 8 .lss] (.cond (.sl 9) .skip (.exit 0))) (.seq Ul Um))
noncomputable def YW:fW :=
 pZ [p1 4 0,qI 5 4,qA 6 5 1 .sub,qd 2 0,pY 3 6] (.block 0 Un)
theorem agb:zE Go.Proofs.Tryz.prog Wh 128=some (YW,28,[]):=by kernel_rfl
noncomputable def OZ:fW :=
 pZ [qo 60 1,GC 61 [.Bt 9] (.zy (.str 2)),GC 62 [.lT (.func 68 [] []),.sl 60,.sl 61] (.call 3),pY 59 62,rI 63 59 0,GC 64 [.Bt 59] (.ext 1),⟨none,[.jh 7,.jh 64],none,none,.st 1⟩] (.exit 3)
noncomputable def TY:fW :=
 pZ [GC 55 [.sl 6] (.other (Oper.mk (some 55) (Op.load 25 (Operand.tmp 6)) 25 "table.go:168" (Array.mk []) none) 5), GC 56 [.sl 9] (.zy (.str 2)), GC 57 [.Bt 56] (.yv 1 2 [.int .i64 0, .int .i64 0] [0]), GC 58 [.jh 55, .jh 57] (.yl 2 16), ⟨none, [.jh 6, .jh 58], none, none, .st 1⟩] OZ
noncomputable def Qx:fW :=
 pZ [qo 48 3,GC 49 [.sl 9] (.yH 0),qo 50 49,GC 51 [.sl 9] (.yH 1),qo 52 51,GC 53 [.lT (.int .i64 1),.Bt 52] (.bin .sub),GC 54 [.Bt 50,.Bt 53] (.build [.int .i64 0,.int .i64 0] [(0,1),(1,1)]),⟨none,[.jh 48,.jh 54],none,none,.zL (.str 2)⟩] TY
noncomputable def TX:fW :=
 .block 5 (.seq (pZ [GC 42 [.sl 3] (.zy .one),GC 43 [.sl 9] (.zy (.str 2)),GC 44 [.Bt 42,.Bt 43] (.zM (.str 2) false (some (.int .i64 0))),qA 45 44 0 .eql] (.cond (.sl 45) (.exit 5) .skip)) (pZ [GC 46 [.sl 3] (.zy .one),GC 47 [.sl 9] (.zy (.str 2)),⟨none,[.jh 46,.jh 47],none,none,.zL (.str 2)⟩] Qx))
noncomputable def TW:fW :=
 .oj false [GC 9 [] (.alloc [.int .i64 0,.int .i64 0]),⟨none,[.sl 9,.jh 41],none,none,.st 2⟩]
theorem Yc:ej Tryz.prog L1 (G9 Tryz.prog 104 0) 0=some TW:=by kernel_rfl
theorem Yd:ej Tryz.prog L1 (G_ Tryz.prog 104 0) 0=some TX:=by kernel_rfl
end Go.Proofs.YtfakoboiahbhaaaGreat.Ab


namespace Go.Proofs.YtfakoboiahbhaaaGreat.Ab
open Go
def VU (P:Program) (k:FuncId) (cap:List I) (E:List I):Prop :=
 ∀ (l N:Nat) (rW:Nat→List ar) (R:List ar→Prop) (n:Nat),(∀ i,(rW i).length=N)→l<N→(aN:n<E.length) →
   (∀ (i:Nat) (h:i<n) (Y:List ar),∃ rL,Sem P (.yield l) [E[i]'(Nat.lt_trans h aN)] (rW i++Y) 0 (.bool true) (rW (i+1)++rL)) →
   (∀ Y:List ar,∃ H',R H'∧Sem P (.yield l) [E[n]] (rW n++Y) 0 (.bool false) H') →
   ∀ Y,∃ H',R H'∧Sem P (.fn k) (.yield l::cap) (rW 0++Y) 0 (.tuple []) H'
theorem aiP {t:p9} {figure:Int} {v:List (Int×Int)} (h:LH t figure=some v):VU Tryz.prog 113 [.bU [.bU [hW t.1,.ax (t.2.flatMap p0) t.2.length .shared]],.bU [hW figure]] (v.map fun e1=>.agg [hW e1.1,hW e1.2]):=by
 unfold LH at h;split at h
 ·rename_i ak;obtain rfl:=Option.some.inj h;intro L N rW R n hlen fs aN aj Lv Y;have al:∀ j,((List.range j).filter (r3 t figure)).length=((List.range j).filter (r3 t figure)).length:=fun _=>rfl;have afx:n<((List.range (2*t.2.length)).filter (r3 t figure)).length:=by simpa [places] using aN
  obtain ⟨M,CB,S_,P3⟩:∃ M,M<2*t.2.length∧r3 t figure M=true∧((List.range M).filter (r3 t figure)).length=n:=by
   have hm:=sU afx;obtain ⟨ad,af⟩:=tc.1 hm;(have ad:((List.range (2*t.2.length)).filter (r3 t figure))[n]<2*t.2.length:=by simpa using ad);refine ⟨_,ad,af,?_⟩;have aO:=St _ af ad;have jR:((List.range (2*t.2.length)).filter (r3 t figure)).Nodup:=uD.filter _;obtain ⟨aG,a6⟩:=sv.1 aO;exact (List.getElem_inj jR).1 a6
  have nJ:∀ a b,a≤b→((List.range a).filter (r3 t figure)).length≤((List.range b).filter (r3 t figure)).length:=fun a b jF=>by
   obtain ⟨d,rfl⟩:=Nat.exists_eq_add_of_le jF
   induction d with
   | zero=>exact sB _
   | succ d a_=>rw [←Nat.add_assoc,PM];exact tb (a_ (by omega)) (Nat.le_add_right _ _)
  obtain ⟨Z,Ls,Lr,hle⟩:=WT (t:=t) (figure:=figure) (L:=L) hlen al (M:=M) Y fun r Qb ag Y=>by
   have aO:=TH (show r<2*t.2.length by omega) ag;obtain ⟨ad,af⟩:=sv.1 aO;have aS:((List.range r).filter (r3 t figure)).length<n:=by
    have:=nJ (r+1) M (by omega);rw [PM,if_pos ag,P3] at this;omega
   obtain ⟨rL,h⟩:=aj _ aS Y;refine ⟨rL,?_⟩;rw [←af];exact h
  obtain ⟨H',jD,ao⟩:=Lv (Z M++[ar.cells (p0 (rC M))]);have aO:=TH CB S_;rw [P3] at aO;obtain ⟨ad,af⟩:=sv.1 aO;refine ⟨H',jD,?_⟩;rw [←Ls];refine WU ak hlen al (M:=M) (by omega) Lr (.inr ⟨CB,S_,?_⟩) (Qi ?_)
  ·rw [P3,←af];exact ao
  ·have e1:=hle M (sB _);have ca:=ao.1.1;rw [P3] at e1;rw [Ls];refine tb e1 (tb ?_ ca);rw [←sH];simp
 ·cases h
theorem aiD {α:Type} {P:Program} {A:dd} {fn:FuncId} {rl:Option Nat} {k:FuncId} {cap:List I} {t:Nat} {bo:List Nat} {gB cq:Code} {T:List I} {H:List ar} {Q:cA→List I→List ar→Prop} {f:α→I} {L:List α} {id n:Nat} (ON:VU P k cap (L.map f)) (aN:n<L.length)
  (ay:c5 T t=.func k [] cap)
  (OM:∀ (i:Nat) (h:i<n) (Y:List ar),∃ rL,Sem P (.yield H.length) [f (L[i]'(Nat.lt_trans h aN))] ((H++[.loop .ready none fn (T.map I.view) bo gB cq A])++Y) 0 (.bool true) ((H++[.loop .ready none fn (T.map I.view) bo gB cq A])++rL))
  (Lv:∀ (Y:List ar),∃ H',(H'[H.length]?=some (.loop .done (some (.exit id)) fn (T.map I.view) bo gB cq A)∧Q (.exit id) (T.map I.settle) (H'.set H.length .dead))∧Sem P (.yield H.length) [f L[n]] ((H++[.loop .ready none fn (T.map I.view) bo gB cq A])++Y) 0 (.bool false) H')
  (g6:inLoop H rl=true):dR P A fn 0 rl (.AM (.sl t) bo gB cq) T H Q:=by
 show hA T t _;rw [iG,ay]
 obtain ⟨H',⟨dz,Dq⟩,cm⟩:=ON H.length (H.length+1) (fun _=>H++[.loop .ready none fn (T.map I.view) bo gB cq A]) (fun H'=>H'[H.length]?=some (.loop .done (some (.exit id)) fn (T.map I.view) bo gB cq A)∧Q (.exit id) (T.map I.settle) (H'.set H.length .dead)) n (fun i=>by simp) (by omega) (by simpa using aN) (fun i h Y=>by
  obtain ⟨rL,aj⟩:=OM i h Y;exact ⟨rL,by rw [vD];exact aj⟩) (fun Y=>by
  obtain ⟨H',aj,ai⟩:=Lv Y
  exact ⟨H',aj,by rw [vD];exact ai⟩) []
 simp only [sW] at cm;exact ⟨g6,.tuple [],H',.done,some (.exit id),fn,T.map I.view,bo,gB,cq,A,cm,dz,by decide,Dq⟩
def rZ (L:List Nat):List (Nat×I×I):=L.map fun r=>(r,.agg (p0 (rC r)),hW 1)
theorem Sq (a b:Nat):gE (.agg (p0 (rC a))) (.agg (p0 (rC b)))=some (decide (a=b)):=by
 simp only [gE,p0,rC,dM,if_true,Option.map_some,Bool.and_true,Option.some.injEq];rw [Bool.eq_iff_iff];simp only [beq_iff_eq,decide_eq_true_eq,Bool.and_eq_true];omega
theorem PO (b:Nat):∀ (L:List Nat) (n:Nat),b ∉ L→fG (.agg (p0 (rC b))) (rZ L) n=some none
 | [],n,_=>rfl
 | a::L,n,h=>by
   simp only [sL,not_or] at h;simp only [rZ,sG,fG,Sq];rw [decide_eq_false h.1];exact PO b L (n+1) h.2
theorem Xk (b:Nat):∀ (L:List Nat) (n:Nat),b∈L→L.Nodup→∃ i,fG (.agg (p0 (rC b))) (rZ L) n=some (some (n+i))∧(∃ e:Nat×I×I,(rZ L)[i]?=some e∧e.2.2=hW 1)∧(rZ L).eraseIdx i=rZ (L.filter fun x=>decide (x≠b))
 | [],n,h,_=>absurd h (by simp)
 | a::L,n,h,aN=>by
   obtain ⟨afy,pL⟩:=uz.1 aN;by_cases e:b=a
   ·subst e;refine ⟨0,?_,⟨_,rfl,rfl⟩,?_⟩
    ·simp only [rZ,sG,fG,Sq,decide_true];rfl
    ·rw [List.filter_cons_of_neg (by simp)];rw [List.filter_eq_self.2 (fun x ak=>by simp;intro e;subst e;exact afy ak)];rfl
   ·(have ag:b∈L:=by simpa [e] using h);obtain ⟨i,ad,⟨ca,aG,a6⟩,af⟩:=Xk b L (n+1) ag pL;refine ⟨i+1,?_,⟨ca,by simpa [rZ] using aG,a6⟩,?_⟩
    ·simp only [rZ,sG,fG,Sq];rw [decide_eq_false e];simp only [rZ] at ad;rw [ad];rw [show n+1+i=n+(i+1) by omega]
    ·rw [List.filter_cons_of_pos (by simp;intro cX;exact e cX.symm)];simp only [rZ,sG,List.eraseIdx_cons_succ] at af ⊢;rw [af]
theorem Xe (L:List Nat) (k:Nat):rZ L++[(k,.agg (p0 (rC k)),hW 1)]=rZ (L++[k]):=by
 simp [rZ]
end Go.Proofs.YtfakoboiahbhaaaGreat.Ab


namespace Go.Proofs.YtfakoboiahbhaaaGreat.Ab
open Go
set_option maxRecDepth 20000
set_option maxHeartbeats 4000000
def Va (l:List (Int×Int)) (i:Nat):List (Int×Int):=l.take i++(l.drop i).reverse
def Jg (g:List (Int×Int)) (off t:Nat):List (Int×Int):=(List.range g.length).map fun x=>if off≤x∧(x-off<t∨g.length-t≤x) then g.getD (off+g.length-1-x) (0,0) else g.getD x (0,0)
theorem Mu (g:List (Int×Int)) (off t:Nat):(Jg g off t).length=g.length:=by simp [Jg]
theorem NK (g:List (Int×Int)) (off t x:Nat) (h:x<g.length):(Jg g off t)[x]?=some (if off≤x∧(x-off<t∨g.length-t≤x) then g.getD (off+g.length-1-x) (0,0) else g.getD x (0,0)):=by
 simp [Jg,h]
theorem aiB (g:List (Int×Int)) (off:Nat):Jg g off 0=g:=by
 apply ui;intro x;by_cases h:x<g.length
 ·rw [NK g off 0 x h,if_neg (by omega)];simp [h,sY]
 ·rw [ub (by rw [Mu];omega),ub (by omega)]
theorem aiA (g:List (Int×Int)) (off t:Nat) (ay:off+t<g.length-1-t):((Jg g off t).set (off+t) (g.getD (g.length-1-t) (0,0))).set (g.length-1-t) (g.getD (off+t) (0,0))=Jg g off (t+1):=by
 apply ui;intro x;by_cases h:x<g.length
 ·rw [NK g off (t+1) x h];by_cases ad:x=g.length-1-t
  ·subst ad;rw [sI (by rw [tA,Mu];omega),if_pos (by omega)];congr 2;omega
  ·rw [sJ (by omega)];by_cases af:x=off+t
   ·subst af;rw [sI (by rw [Mu];omega),if_pos (by omega)];congr 2;omega
   ·rw [sJ (by omega),NK g off t x h];by_cases aG:off≤x∧(x-off<t∨g.length-t≤x)
    ·rw [if_pos aG,if_pos (by omega)]
    ·rw [if_neg aG,if_neg (by omega)]
 ·rw [ub (by simp [Mu];omega),ub (by rw [Mu];omega)]
theorem aiz (g:List (Int×Int)) (off t:Nat) (aq:off≤g.length) (ay:g.length-1-t≤off+t):Jg g off t=Va g off:=by
 apply ui;intro x;unfold Va;by_cases h:x<g.length
 ·rw [NK g off t x h];by_cases ad:x<off
  ·rw [if_neg (by omega),List.getElem?_append_left (by simp;omega),tp,if_pos ad];simp [h,sY]
  ·rw [List.getElem?_append_right (by simp;omega),tf,tI aq,List.getElem?_reverse (by simp;omega),List.getElem?_drop,List.length_drop];(have e:off+(g.length-off-1-(x-off))=off+g.length-1-x:=by omega);rw [e];(have ao:off+g.length-1-x<g.length:=by omega);by_cases aG:off≤x∧(x-off<t∨g.length-t≤x)
   ·rw [if_pos aG];simp [ao,sY]
   ·rw [if_neg aG]
    have:x=off+g.length-1-x:=by omega
    rw [←this];simp [h,sY]
 ·rw [ub (by rw [Mu];omega),ub (by simp;omega)]
theorem Qr:∀ (l:List (Int×Int)) (i:Nat),i<l.length→(l.flatMap p0)[i*2]?=some (hW (l.getD i (0,0)).1)∧(l.flatMap p0)[i*2+1]?=some (hW (l.getD i (0,0)).2)
 | [],i,h=>absurd h (by simp)
 | p::l,0,_=>⟨rfl,rfl⟩
 | p::l,i+1,h=>by
   have:=Qr l i (by simpa using h);rw [uo,show (i+1)*2=(i*2)+2 by omega];simpa [p0] using this
theorem TM:∀ (l:List (Int×Int)) (i:Nat) (x:Int×Int),i<l.length→((l.flatMap p0).set (i*2) (hW x.1)).set (i*2+1) (hW x.2)=(l.set i x).flatMap p0
 | [],i,_,h=>absurd h (by simp)
 | p::l,0,x,_=>rfl
 | p::l,i+1,x,h=>by
   have:=TM l i x (by simpa using h);rw [uo,show (i+1)*2=(i*2)+2 by omega,show i*2+2+1=(i*2+1)+2 by omega];simp only [p0,uK,t_,List.set_cons_succ,uo];rw [this]
theorem KN (l:List (Int×Int)):(l.flatMap p0).length=l.length*2:=rz p0 2 qv l
theorem aiy (g:List (Int×Int)) (aV:0<g.length) (aO:g.length≤1000000) {H:List ar} {id lo SC:Nat} (bC:lo≤id) (ah:H[id]?=some (.grow (g.flatMap p0) SC 2)) :
  Sem Go.Proofs.Tryz.prog (.fn 128) [.ref id 0 g.length none 2] H lo (.tuple []) (H.set id (.grow (g.reverse.flatMap p0) SC 2)):=by
 have aE:=(sv.1 ah).1;refine HB et agb rfl ⟨by simp,fun j ad af=>by rw [sJ (by omega)]⟩ fun Q bp=>?_;unfold YW;obtain ⟨Sc,JT⟩:∃ c,Un=c:=⟨_,rfl⟩;rw [JT];conv=>whnf
 rw [show IntKind.i64.wrap ((g.length:Int)-1)=((g.length-1:Nat):Int) by rw [Jn _ (by omega) (by omega)];omega];have ag:Nat.ble lo id=true:=Nat.ble_eq_true_of_le bC;have gs:∀ c:ar,(H.set id c)[id]?=some c:=fun c=>by rw [sI aE]
 subst JT;unfold Un;obtain ⟨a',cb⟩:∃ c,Ul=c:=⟨_,rfl⟩;obtain ⟨bb,b6⟩:∃ c,Um=c:=⟨_,rfl⟩;rw [cb,b6];refine wp_loop rfl ?_;refine .intro (fun m T H'=>∃ t,2*t≤g.length∧m=g.length-t∧T=Hc 28 [(0,.ref id 0 g.length none 2),(2,hW t),(3,hW (g.length-1-t:Nat))]∧H'=H.set id (.grow ((Jg g 0 t).flatMap p0) SC 2)) g.length ⟨0,by omega,rfl,rfl,?_⟩ ?_
 ·rw [aiB];obtain ⟨ad,af⟩:=sv.1 ah;rw [←af,List.set_getElem_self]
 rintro m T H' ⟨t,ay,rfl,rfl,rfl⟩;conv=>whnf
 refine Ip (fun h=>?_) (fun h=>?_)
 ·have ca:0+((g.length-1-t:Nat):Int).toNat*2=(g.length-1-t)*2:=by omega
  have dx:0+(t:Int).toNat*2=t*2:=by omega
  have ao:=Mu g 0 t;have SA:=Qr (Jg g 0 t) (g.length-1-t) (by omega);have SB:=Qr (Jg g 0 t) t (by omega);have v1:(Jg g 0 t).getD (g.length-1-t) (0,0)=g.getD (g.length-1-t) (0,0):=by
   rw [sY,NK g 0 t _ (by omega),if_neg (by omega)];rfl
  have v2:(Jg g 0 t).getD t (0,0)=g.getD t (0,0):=by
   rw [sY,NK g 0 t _ (by omega),if_neg (by omega)];rfl
  rw [v1] at SA;rw [v2] at SB;conv=>whnf
  subst cb;unfold Ul;refine I5 fun nc Hv=>?_;conv=>whnf
  refine ⟨by omega,?_⟩;conv=>whnf
  refine Es (gs _) ?_;conv=>whnf
  refine Es (by rw [ca];exact SA.1) ?_;conv=>whnf
  refine Es (by rw [ca];exact SA.2) ?_;conv=>whnf
  refine ⟨by omega,?_⟩;conv=>whnf
  refine Es (gs _) ?_;conv=>whnf
  refine Es (by rw [dx];exact SB.1) ?_;conv=>whnf
  refine Es (by rw [dx];exact SB.2) ?_;conv=>whnf
  refine ⟨by omega,?_⟩;conv=>whnf
  rw [ag];conv=>whnf
  refine Es (gs _) ?_;conv=>whnf
  refine Gm (by rw [KN];omega) ?_;conv=>whnf
  refine Gm (by rw [tA,KN];omega) ?_;conv=>whnf
  refine ⟨by omega,?_⟩;conv=>whnf
  rw [ag];conv=>whnf
  rw [te];refine Es (gs _) ?_;conv=>whnf
  refine Gm (by rw [tA,tA,KN];omega) ?_;conv=>whnf
  refine Gm (by rw [tA,tA,tA,KN];omega) ?_;conv=>whnf
  rw [te,ca,dx];refine Hv _ _ _ ?_;conv=>whnf
  subst b6;unfold Um;conv=>whnf
  refine ⟨g.length-(t+1),by omega,t+1,by omega,rfl,?_,?_⟩
  ·rw [←rJ t (by omega),show ((g.length-1-(t+1):Nat):Int)=IntKind.i64.wrap (((g.length-1-t:Nat):Int)-1) by rw [Jn _ (by omega) (by omega)];omega];rfl
  ·have ai:=aiA g 0 t (by omega);rw [tg] at ai;rw [←ai,←TM _ _ _ (by rw [tA];omega),←TM _ _ _ (by omega)];rfl
 ·conv=>whnf
  have e:Jg g 0 t=g.reverse:=by
   rw [aiz g 0 t (by omega) (by omega),Va];simp
  rw [e];exact bp _ _ _ ⟨.inl rfl,⟨by simp,fun j o aw=>.inr aw⟩,rfl⟩

def Hk (p:Int×Int):Nat:=(2*p.1+p.2).toNat
theorem YK {p:Int×Int} (ad:0≤p.1) (af:0≤p.2∧p.2≤1):rC (Hk p)=p:=by
 unfold rC Hk;exact Prod.ext (by simp only;omega) (by simp only;omega)
def Nn (L:List Nat) (p:Int×Int):Bool:=decide (Hk p∈L)
def IJ (L:List Nat) (p:Int×Int):List Nat:=L.filter fun x=>decide (x≠Hk p)
def Ky (L:List Nat) (p:Int×Int):List Nat:=IJ (IJ L p) (p.1,1-p.2)
structure sb (t:p9) (L:List Nat) (way out:List (Int×Int)) (a:Int) (rR v5:I) (x y:Nat) (H:List ar):Prop where
 sq:L.Nodup
 aV:H[0]?=some (Jm t)
 ad:∃ Ic,H[1]?=some (.map (rZ L) Ic)
 af:H[2]?=some (.cells [.map 1])
 aG:H[3]?=some (.cells [rR])
 a6:H[4]?=some (.cells [hW a])
 hw:(way=[]∧rR=.ax [] 0 .full)∨(rR=.cl x (x+1) way.length 2∧4<x∧∃ cs,H[x]?=some (.grow cs (x+1) 2)∧way.length*2≤cs.length∧cs.take (way.length*2)=way.flatMap p0)
 aq:(out=[]∧v5=.ax [] 0 .full)∨(v5=.cl y (y+1) out.length 2∧4<y∧H[y]?=some (.grow (out.flatMap p0) (y+1) 2))
 ne:x≠y
 K8:x<H.length
 K9:y<H.length
 Kz:x=0∨4<x
 J4:y=2∨4<y
theorem sb.len {t:p9} {L:List Nat} {way out:List (Int×Int)} {a:Int} {rR v5:I} {x y:Nat} {H:List ar} (h:sb t L way out a rR v5 x y H):4<H.length:=(sv.1 h.a6).1
theorem sb.more {t:p9} {L:List Nat} {way out:List (Int×Int)} {a:Int} {rR v5:I} {x y:Nat} {H:List ar} (h:sb t L way out a rR v5 x y H) (Z:List ar):sb t L way out a rR v5 x y (H++Z):=by
 obtain ⟨sq,aV,⟨Ic,ad⟩,af,aG,a6,hw,aq,ne,K8,K9,Kz,J4⟩:=h;refine ⟨sq,qY aV,⟨Ic,qY ad⟩,qY af,qY aG,qY a6,?_,?_,ne,by simp;omega,by simp;omega,Kz,J4⟩
 ·rcases hw with hw | ⟨bH,bY,cs,Hh,Kj⟩
  ·exact .inl hw
  ·exact .inr ⟨bH,bY,cs,qY Hh,Kj⟩
 ·rcases aq with aq | ⟨bH,bY,Hh⟩
  ·exact .inl aq
  ·exact .inr ⟨bH,bY,qY Hh⟩
theorem sb.aiU {t:p9} {L:List Nat} {way out:List (Int×Int)} {a:Int} {rR v5:I} {x y j:Nat} {H:List ar} {c:ar} (h:sb t L way out a rR v5 x y H) (ama:4<j) (ak:j≠x) (aZ:j≠y):sb t L way out a rR v5 x y (H.set j c):=by
 obtain ⟨sq,aV,⟨Ic,ad⟩,af,aG,a6,hw,aq,ne,K8,K9,Kz,J4⟩:=h;refine ⟨sq,q3 aV (by omega),⟨Ic,q3 ad (by omega)⟩,q3 af (by omega),q3 aG (by omega),q3 a6 (by omega),?_,?_,ne,by simpa using K8,by simpa using K9,Kz,J4⟩
 ·rcases hw with hw | ⟨bH,bY,cs,Hh,Kj⟩
  ·exact .inl hw
  ·exact .inr ⟨bH,bY,cs,q3 Hh ak,Kj⟩
 ·rcases aq with aq | ⟨bH,bY,Hh⟩
  ·exact .inl aq
  ·exact .inr ⟨bH,bY,q3 Hh aZ⟩
theorem Lo {H:List ar} {j:Nat} {c:ar} (h:j<H.length):(H.set j c)[j]?=some c:=sI h
theorem sb.map {t:p9} {L iv:List Nat} {way out:List (Int×Int)} {a:Int} {rR v5:I} {x y Ic:Nat} {H:List ar} (h:sb t L way out a rR v5 x y H) (aN:iv.Nodup):sb t iv way out a rR v5 x y (H.set 1 (.map (rZ iv) Ic)):=by
 have ao:=h.len;obtain ⟨sq,aV,_,af,aG,a6,hw,aq,ne,K8,K9,Kz,J4⟩:=h;refine ⟨aN,q3 aV (by omega),⟨Ic,Lo (by omega)⟩,q3 af (by omega),q3 aG (by omega),q3 a6 (by omega),?_,?_,ne,by simpa using K8,by simpa using K9,Kz,J4⟩
 ·rcases hw with hw | ⟨bH,bY,cs,Hh,Kj⟩
  ·exact .inl hw
  ·exact .inr ⟨bH,bY,cs,q3 Hh (by omega),Kj⟩
 ·rcases aq with aq | ⟨bH,bY,Hh⟩
  ·exact .inl aq
  ·exact .inr ⟨bH,bY,q3 Hh (by omega)⟩
theorem X9 {P:Program} {C:b8} {lo id:Nat} {o:Oper} {t e:TypeId} {x:Operand} {H:List ar} {v:I} (aq:o.op=.load t x) (ay:P.underlying t=some (.slice e)) (ah:H[id]?=some (.cells [v])) (ae:v=.ax [] 0 .full∨∃ i g n z,v=.cl i g n z) :
  a5 P C lo o 5 [.ptr id 0] H=some (v,H):=by
 unfold a5;rw [aq];show dP P lo 5 t H [.ptr id 0]=_;unfold dP;simp only [ay,ah];rcases ae with rfl | ⟨i,g,n,z,rfl⟩ <;> rfl

abbrev aix (t:p9) (a:Int) (v5:I):List I:=(Hc 92 [(1,.ptr 0 0),(3,.ptr 2 0),(5,v5),(6,.ptr 3 0),(7,.ptr 4 0),(8,.func 89 [Hy t] []),(38,.func 89 [Hy t] []),(39,hW a),(40,.func 113 [] [.bU [Hy t],.bU [hW a]])]).map I.view
noncomputable abbrev Jf (t:p9) (a:Int) (v5:I) (st:LoopState) (ahz:Option Code):ar:=.loop st ahz 104 (aix t a v5) [41] (G9 Tryz.prog 104 0) (G_ Tryz.prog 104 0) L1
section
variable {t:p9} {L:List Nat} {way out:List (Int×Int)} {a:Int} {rR v5:I} {x y:Nat} {H:List ar} {p:Int×Int}
theorem aeB (fL:0≤p.1) (jV:0≤p.2∧p.2≤1) (g6:Hk p ∉ L):fG (.agg [hW p.1,hW p.2]) (rZ L) 0=some none:=by
 have:=PO (Hk p) L 0 g6;rw [YK fL jV] at this;exact this
theorem Xm (fL:0≤p.1) (jV:0≤p.2∧p.2≤1) (g6:Hk p∈L) (aN:L.Nodup):∃ i,fG (.agg [hW p.1,hW p.2]) (rZ L) 0=some (some i)∧(∃ e:Nat×I×I,(rZ L)[i]?=some e∧e.2.2=hW 1)∧(rZ L).eraseIdx i=rZ (IJ L p):=by
 obtain ⟨i,ad,af,aG⟩:=Xk (Hk p) L 0 g6 aN;rw [YK fL jV,tg] at ad;exact ⟨i,ad,af,aG⟩
theorem Y8 (cm:sb t L way out a rR v5 x y H) (fL:0≤p.1) (jV:0≤p.2∧p.2≤1) (g6:Hk p ∉ L) (Y:List ar) :
  ∃ rL,Sem Tryz.prog (.yield H.length) [.agg (p0 p)] ((H++[Jf t a v5 .ready none])++Y) 0 (.bool true) ((H++[Jf t a v5 .ready none])++rL):=by
 refine ⟨Y++[.dead],aiR et Yc Yd (PQ _ _ _) rfl (Qi (by simp)) ?_⟩;obtain ⟨Ic,ad⟩:=cm.ad;unfold TW;conv=>whnf
 refine Es (x:=ar.cells [(hW (0:Int)),(hW (0:Int))]) (by first | exact qy.h | rfl | (simp [sy,I.settle];done)) ?_
 conv=>whnf
 rw [rB];refine ⟨rfl,PR _ _ _ _,?_⟩;rw [U8];unfold TX;obtain ⟨bt,er⟩:∃ c,Qx=c:=⟨_,rfl⟩;rw [er];conv=>whnf
 refine Es (qY (qY (qY cm.af))) ?_;conv=>whnf
 refine Es (x:=ar.cells [hW p.1,hW p.2]) (by first | exact qy.h | rfl | (simp [sy,I.settle];done)) ?_
 conv=>whnf
 refine ⟨rfl,_,_,qY (qY (qY ad)),none,aeB fL jV g6,?_⟩;conv=>whnf
 refine ⟨_,rfl,?_⟩;conv=>whnf
 show _∧(((H++[Jf t a v5 .busy none])++Y)++[_])[H.length]?=_∧lD ((((H++[Jf t a v5 .busy none])++Y)++[_]).set H.length _) _;exact ⟨rfl,PR _ _ _ _,by rw [U8];exact aey _ _ _ _⟩
theorem PI (aN:L.Nodup):(IJ L p).Nodup:=aN.filter _
theorem sb.push {G:List ar} {cells:List I} (cm:sb t L way out a rR v5 x y G) (al:cells=(way++[p]).flatMap p0) {b:Int} {D:List ar} (rN:D=G∨(D=G.set x .dead∧4<x)) :
  sb t L (way++[p]) out b (.cl G.length (G.length+1) (way.length+1) 2) v5 G.length y (((D++[ar.grow cells (G.length+1) 2,ar.dead]).set 3 (ar.cells [.cl G.length (G.length+1) (way.length+1) 2])).set 4 (ar.cells [hW b])):=by
 subst al;have ao:=cm.len;have PW:D.length=G.length:=by rcases rN with rfl | ⟨rfl,_⟩ <;> simp
 obtain ⟨sq,aV,⟨Ic,ad⟩,af,aG,a6,hw,aq,ne,K8,K9,Kz,J4⟩:=cm;have OC:∀ (j:Nat) (o:ar),j≠x∨D=G→G[j]?=some o→D[j]?=some o:=fun j o aw h=>by
  rcases rN with rfl | ⟨rfl,_⟩
  ·exact h
  ·rcases aw with aw | aw
   ·exact q3 h (Ne.symm aw)
   ·rw [aw];exact h
 have Mc:∀ j:Nat,j≤4→j≠x∨D=G:=fun j aw=>by
  rcases rN with h | ⟨_,h⟩
  ·exact .inr h
  ·exact .inl (by omega)
 refine ⟨sq,?_,⟨Ic,?_⟩,?_,?_,?_,?_,?_,?_,?_,?_,.inr (by omega),J4⟩
 ·exact q3 (q3 (qY (OC 0 _ (Mc 0 (by omega)) aV)) (by omega)) (by omega)
 ·exact q3 (q3 (qY (OC 1 _ (Mc 1 (by omega)) ad)) (by omega)) (by omega)
 ·exact q3 (q3 (qY (OC 2 _ (Mc 2 (by omega)) af)) (by omega)) (by omega)
 ·exact q3 (Lo (by simp;omega)) (by omega)
 ·exact Lo (by simp;omega)
 ·refine .inr ⟨by simp,by omega,(way++[p]).flatMap p0,?_,by rw [KN];exact sB _,uB (by rw [KN];exact sB _)⟩;rw [←PW];exact q3 (q3 (Na _ _) (by omega)) (by omega)
 ·rcases aq with aq | ⟨bH,bY,Hh⟩
  ·exact .inl aq
  ·exact .inr ⟨bH,bY,q3 (q3 (qY (OC y _ (.inl (Ne.symm ne)) Hh)) (by omega)) (by omega)⟩
 ·omega
 ·simp;omega
 ·simp;omega
theorem aiJ (cm:sb t L way out a rR v5 x y H) (fL:0≤p.1∧p.1<(t.2.length:Int)) (jV:0≤p.2∧p.2≤1) (g6:Hk p∈L) (Tg:Hk (p.1,1-p.2)∈IJ L p) (Tq:way.length≤1000) (Y:List ar) :
  ∃ H',Sem Tryz.prog (.yield H.length) [.agg (p0 p)] ((H++[Jf t a v5 .ready none])++Y) 0 (.bool false) H' ∧
    H'[H.length]?=some (Jf t a v5 .done (some (.exit 3)))∧∃ Vh oI,sb t (Ky L p) (way++[p]) out (fin t p) Vh v5 oI y (H'.set H.length .dead):=by
 have afq:=cm.len;have amg:=cm.Kz;have aff:=cm.J4;have afu:=cm.K8;have afv:=cm.K9;obtain ⟨Ic,hm⟩:=cm.ad;obtain ⟨i1,f1,⟨e1,ca,dx⟩,f3⟩:=Xm fL.1 jV g6 cm.sq;obtain ⟨i2,f4,_,f5⟩:=Xm (p:=(p.1,1-p.2)) fL.1 (by simp only;omega) Tg (PI cm.sq);have zn:IntKind.i64.wrap (1-p.2)=1-p.2:=Jn _ (by omega) (by omega);obtain ⟨KZ,K3⟩:∃ KZ,KZ=(H++[Jf t a v5 .busy none])++Y++[ar.cells [hW p.1,hW p.2]]:=⟨_,rfl⟩;have KD:sb t L way out a rR v5 x y KZ:=by rw [K3];exact ((cm.more _).more _).more _
 have amm:KZ.length=H.length+1+Y.length+1:=by rw [K3];simp;omega
 have cN:KZ[((H++[Jf t a v5 .ready none])++Y).length]?=some (.cells [hW p.1,hW p.2]):=by rw [K3];simp [sy]
 have ag:KZ[H.length]?=some (Jf t a v5 .busy none):=by rw [K3];exact PR _ _ _ _
 obtain ⟨B8,Ta⟩:∃ B8,B8=((H++[Jf t a v5 .ready none])++Y).length:=⟨_,rfl⟩;have amd:B8=H.length+1+Y.length:=by rw [Ta];simp;omega
 have GX:KZ[1]?=some (.map (rZ L) Ic):=by rw [K3];exact qY (qY (qY hm))
 rw [←Ta] at cN;obtain ⟨IV,J8⟩:∃ IV,IV=KZ.set 1 (.map (rZ (IJ L p)) Ic):=⟨_,rfl⟩;have pf:sb t (IJ L p) way out a rR v5 x y IV:=by rw [J8];exact KD.map (PI cm.sq)
 have Tj:IV[1]?=some (.map (rZ (IJ L p)) Ic):=by rw [J8];exact Lo (by omega)
 have SN:IV[B8]?=some (.cells [hW p.1,hW p.2]):=by rw [J8];exact q3 cN (by omega)
 have gG:IV[H.length]?=some (Jf t a v5 .busy none):=by rw [J8];exact q3 ag (by omega)
 obtain ⟨rO,Jc⟩:∃ rO,rO=IV.set 1 (.map (rZ (Ky L p)) Ic):=⟨_,rfl⟩;have KE:sb t (Ky L p) way out a rR v5 x y rO:=by rw [Jc];exact pf.map (PI (PI cm.sq))
 have PT:rO[B8]?=some (.cells [hW p.1,hW p.2]):=by rw [Jc];exact q3 SN (by omega)
 have gH:rO[H.length]?=some (Jf t a v5 .busy none):=by rw [Jc];exact q3 gG (by omega)
 have gg:rO.length=KZ.length:=by rw [Jc,J8];simp
 obtain ⟨D,rN,cells,CN,DF⟩:∃ D:List ar,(D=rO∨(D=rO.set x .dead∧4<x))∧∃ cells:List I,cells=(way++[p]).flatMap p0 ∧
   ((rR=.ax [] 0 .full∧way=[]∧D=rO∧cells=p0 p)∨(rR=.cl x (x+1) way.length 2∧D=rO.set x .dead∧∃ cs,rO[x]?=some (.grow cs (x+1) 2)∧((cs.length=way.length*2∧cells=cs++p0 p)∨(way.length*2<cs.length∧cells=cs.take (way.length*2)++p0 p)))):=by
  rcases KE.hw with ⟨bH,bY⟩ | ⟨bH,bY,cs,Hh,Kj,NW⟩
  ·exact ⟨rO,.inl rfl,p0 p,by rw [bH];simp,.inl ⟨bY,bH,rfl,rfl⟩⟩
  ·refine ⟨rO.set x .dead,.inr ⟨rfl,bY⟩,cs.take (way.length*2)++p0 p,by rw [NW];simp,.inr ⟨bH,rfl,cs,Hh,?_⟩⟩;rcases Nat.lt_or_ge (way.length*2) cs.length with h | h
   ·exact .inr ⟨h,rfl⟩
   ·exact .inl ⟨by omega,by rw [uB (by omega)]⟩
 have XL:=KE.push (b:=fin t p) CN rN;have PW:D.length=rO.length:=by rcases rN with rfl | ⟨rfl,_⟩ <;> simp
 have XG:∀ (j:Nat) (o:ar),j≠x→rO[j]?=some o→D[j]?=some o:=fun j o aw h=>by
  rcases rN with rfl | ⟨rfl,_⟩
  ·exact h
  ·exact q3 h (Ne.symm aw)
 have Mc:∀ (j:Nat) (o:ar),j≤4→rO[j]?=some o→D[j]?=some o:=fun j o aw h=>by
  rcases rN with rfl | ⟨rfl,a6⟩
  ·exact h
  ·exact q3 h (by omega)
 obtain ⟨N',Iw⟩:∃ N',N'=D++[ar.grow cells (rO.length+1) 2,ar.dead]:=⟨_,rfl⟩;obtain ⟨Lg,KB⟩:∃ Lg,Lg=N'.set 3 (ar.cells [.cl rO.length (rO.length+1) (way.length+1) 2]):=⟨_,rfl⟩;rw [←Iw,←KB] at XL;have SO:Lg[B8]?=some (.cells [hW p.1,hW p.2]):=by rw [KB,Iw];exact q3 (qY (XG _ _ (by omega) PT)) (by omega)
 have SG:Lg[0]?=some (Jm t):=by rw [KB,Iw];exact q3 (qY (Mc 0 _ (by omega) KE.aV)) (by omega)
 have SL:Lg[4]?=some (.cells [hW a]):=by rw [KB,Iw];exact q3 (qY (Mc 4 _ (by omega) KE.a6)) (by omega)
 have amk:4<N'.length:=by rw [Iw];simp;omega
 have SK:N'[3]?=some (.cells [rR]):=by rw [Iw];exact qY (Mc 3 _ (by omega) KE.aG)
 have qF:(Lg.set 4 (ar.cells [hW (fin t p)]))[H.length]?=some (Jf t a v5 .busy none):=by rw [KB,Iw];exact q3 (q3 (qY (XG _ _ (by omega) gH)) (by omega)) (by omega)
 have afr:H.length<(Lg.set 4 (ar.cells [hW (fin t p)])).length:=by rw [KB,Iw];simp;omega
 refine ⟨(Lg.set 4 (ar.cells [hW (fin t p)])).set H.length (Jf t a v5 .done (some (.exit 3))),?_,Lo afr,?_⟩
 ·refine aiS (id:=3) et Yc Yd (PQ _ _ _) rfl (Qi ?_) ?_
  ·rw [tA,tA,KB,Iw,tA];simp;omega
  unfold TW;conv=>whnf
  refine Es (x:=ar.cells [(hW (0:Int)),(hW (0:Int))]) (by first | exact qy.h | rfl | (simp [sy,I.settle];done)) ?_
  conv=>whnf
  rw [rB];refine ⟨rfl,PR _ _ _ _,?_⟩;rw [U8];unfold TX;obtain ⟨bt,er⟩:∃ c,Qx=c:=⟨_,rfl⟩;rw [er,←Ta];erw [←K3];conv=>whnf
  refine Es KD.af ?_;conv=>whnf
  refine Es cN ?_;conv=>whnf
  refine ⟨rfl,_,_,GX,some i1,f1,?_⟩;conv=>whnf
  refine ⟨e1,ca,?_⟩;rw [dx];conv=>whnf
  refine Es KD.af ?_;conv=>whnf
  refine Es cN ?_;conv=>whnf
  refine ⟨rfl,_,_,GX,some i1,f1,?_⟩;conv=>whnf
  rw [f3,←J8];conv=>whnf
  subst er;unfold Qx;obtain ⟨bb,b6⟩:∃ c,TY=c:=⟨_,rfl⟩;rw [b6];conv=>whnf
  refine Es pf.af ?_;conv=>whnf
  refine Es SN ?_;conv=>whnf
  refine Es SN ?_;conv=>whnf
  rw [zn];refine ⟨rfl,_,_,Tj,some i2,f4,?_⟩;conv=>whnf
  erw [f5,←Jc];conv=>whnf
  subst b6;unfold TY;obtain ⟨a',cb⟩:∃ c,OZ=c:=⟨_,rfl⟩;rw [cb];conv=>whnf
  have afQ:rR=.ax [] 0 .full∨∃ i g n z,rR=.cl i g n z:=by
   rcases DF with ⟨h,_⟩ | ⟨h,_⟩
   ·exact .inl h
   ·exact .inr ⟨_,_,_,_,h⟩
  refine ⟨_,_,fun C=>X9 rfl (e:=65) (by kernel_rfl) KE.aG afQ,?_⟩;rcases DF with ⟨rfl,rfl,rfl,rfl⟩ | ⟨rfl,rfl,cs,ak,⟨ad,rfl⟩ | ⟨ad,rfl⟩⟩
  ·(conv=>whnf);refine Es PT ?_;(conv=>whnf);refine ⟨⟨rfl,by decide⟩,?_⟩;(conv=>whnf);refine ⟨⟨by decide,by decide,rfl⟩,?_⟩;erw [←Iw];(conv=>whnf);refine Es SK ?_;(conv=>whnf);erw [←KB];(conv=>whnf);subst cb;unfold OZ;(conv=>whnf);refine Es SG ?_;(conv=>whnf);refine Es SO ?_;(conv=>whnf);refine ⟨(p2 (re (p2 rfl (p2 (q4 (fun _=>(p2 rfl (p2 rfl rfl))) _ _ _) rfl))) (p2 (Kf (p2 rfl (p2 rfl rfl))) rfl)),_,KT (Km fL),?_⟩;(conv=>whnf);refine Es SL ?_;(conv=>whnf);exact ⟨rfl,qF,lD.refl _⟩
  ·(conv=>whnf);refine Es PT ?_;(conv=>whnf);refine ⟨⟨rfl,by decide⟩,?_⟩;(conv=>whnf);refine Es ak ?_;(conv=>whnf);refine .inl ⟨⟨rfl,rfl,rfl,ad,by decide,by omega⟩,?_⟩;erw [←Iw];(conv=>whnf);refine Es SK ?_;(conv=>whnf);erw [←KB];(conv=>whnf);subst cb;unfold OZ;(conv=>whnf);refine Es SG ?_;(conv=>whnf);refine Es SO ?_;(conv=>whnf);refine ⟨(p2 (re (p2 rfl (p2 (q4 (fun _=>(p2 rfl (p2 rfl rfl))) _ _ _) rfl))) (p2 (Kf (p2 rfl (p2 rfl rfl))) rfl)),_,KT (Km fL),?_⟩;(conv=>whnf);refine Es SL ?_;(conv=>whnf);exact ⟨rfl,qF,lD.refl _⟩
  ·(conv=>whnf);refine Es PT ?_;(conv=>whnf);refine ⟨⟨rfl,by decide⟩,?_⟩;(conv=>whnf);refine Es ak ?_;(conv=>whnf);refine .inr ⟨⟨rfl,rfl,rfl,ad,by decide,by omega⟩,?_⟩;erw [←Iw];(conv=>whnf);refine Es SK ?_;(conv=>whnf);erw [←KB];(conv=>whnf);subst cb;unfold OZ;(conv=>whnf);refine Es SG ?_;(conv=>whnf);refine Es SO ?_;(conv=>whnf);refine ⟨(p2 (re (p2 rfl (p2 (q4 (fun _=>(p2 rfl (p2 rfl rfl))) _ _ _) rfl))) (p2 (Kf (p2 rfl (p2 rfl rfl))) rfl)),_,KT (Km fL),?_⟩;(conv=>whnf);refine Es SL ?_;(conv=>whnf);exact ⟨rfl,qF,lD.refl _⟩
 ·rw [te];exact ⟨_,_,XL.aiU (by omega) (by omega) (by omega)⟩
end

theorem Xl {α:Type} {q:α→Bool}:∀ {l:List α} {p:α},l.find? q=some p→∃ n,∃ h:n<l.length,l[n]=p∧q p=true∧∀ i (hi:i<n),q (l[i]'(by omega))=false
 | [],_,h=>by cases h
 | x::l,p,h=>by
   rw [List.find?_cons] at h;cases ak:q x with
   | true =>
     rw [ak] at h;obtain rfl:=Option.some.inj h;exact ⟨0,by simp,rfl,ak,fun i hi=>absurd hi (by omega)⟩
   | false =>
     rw [ak] at h;obtain ⟨n,ad,af,aG,a6⟩:=Xl h;refine ⟨n+1,by simpa using ad,af,aG,fun i hi=>?_⟩;cases i with
     | zero=>exact ak
     | succ i=>exact a6 i (by omega)
theorem TJ {b:p9} {f:Int} {p:Int×Int} (h:p∈places b f):0≤p.1∧p.1<(b.2.length:Int)∧0≤p.2∧p.2≤1∧qE b p=f:=by
 unfold places at h;obtain ⟨r,aj,rfl⟩:=sM.1 h;obtain ⟨ad,af⟩:=tc.1 aj;have ad:=sX.1 ad;refine ⟨?_,?_,?_,?_,by simpa [r3] using af⟩ <;> unfold rC <;> simp only <;> omega
theorem Zs {α:Type} (l:List α):l=[]∨∃ (l':List α) (p:α),l=l'++[p]:=by
 rcases l.eq_nil_or_concat with h | ⟨l',p,h⟩
 ·exact .inl h
 ·exact .inr ⟨l',p,by rw [h,List.concat_eq_append]⟩
def K7 (t:p9):Nat→List Nat→List (Int×Int)→List (Int×Int)→Int→Option (List (Int×Int))
 | 0,_,_,_,_=>none
 | m+1,L,way,out,a=>qg (way.length≤1000∧out.length≤1000) <|
   match (places t a).find? (Nn L) with
   | some p=>qg (Hk (p.1,1-p.2)∈IJ L p) (K7 t m (Ky L p) (way++[p]) out (fin t p))
   | none=>match way.getLast? with
     | none=>some out
     | some p=>qg (0≤p.1∧p.1<(t.2.length:Int)) (K7 t m L way.dropLast (out++[p]) (qE t p))
def Mw (t:p9):Option (List (Int×Int)) :=
 qg (0<t.2.length∧t.2.length≤1000) ((K7 t qc (List.range (2*t.2.length)) [] [] (ix t.2 0).1).bind fun out=>qg (out.length≠0∧out.length≤1000) (some out.reverse))
section
variable {t:p9} {L:List Nat} {way out:List (Int×Int)} {a:Int} {rR v5:I} {x y:Nat} {H:List ar} {p:Int×Int}
theorem sb.ajK (cm:sb t L way out a rR v5 x y H):v5.settle=v5:=by
 rcases cm.aq with ⟨_,h⟩ | ⟨h,_⟩ <;> rw [h] <;> rfl
theorem sb.pop {b:Int} (cm:sb t L (way++[p]) out a rR v5 x y H) (hw:rR=.cl x (x+1) (way.length+1) 2) {cells:List I} (al:cells=(out++[p]).flatMap p0) {D:List ar} {G:List ar} (HN:G=H.set 3 (.cells [.cl x (x+1) way.length 2])) (rN:D=G∨(D=G.set y .dead∧4<y)) :
  sb t L way (out++[p]) b (.cl x (x+1) way.length 2) (.cl G.length (G.length+1) (out.length+1) 2) x G.length ((D++[ar.grow cells (G.length+1) 2,ar.dead]).set 4 (ar.cells [hW b])):=by
 subst al;have ao:=cm.len;have amb:G.length=H.length:=by rw [HN];simp
 have PW:D.length=G.length:=by rcases rN with rfl | ⟨rfl,_⟩ <;> simp
 obtain ⟨sq,aV,⟨Ic,ad⟩,af,aG,a6,mx,aq,ne,K8,K9,Kz,J4⟩:=cm;have Iw:∀ (j:Nat) (o:ar),j≠3→H[j]?=some o→G[j]?=some o:=fun j o aw h=>by rw [HN];exact q3 h (Ne.symm aw)
 have aeQ:∀ (j:Nat) (o:ar),j≠y→G[j]?=some o→D[j]?=some o:=fun j o aw h=>by
  rcases rN with rfl | ⟨rfl,_⟩
  ·exact h
  ·exact q3 h (Ne.symm aw)
 have PV:∀ (j:Nat) (o:ar),j≤4→G[j]?=some o→D[j]?=some o:=fun j o aw h=>by
  rcases rN with rfl | ⟨rfl,aY⟩
  ·exact h
  ·exact q3 h (by omega)
 refine ⟨sq,?_,⟨Ic,?_⟩,?_,?_,Lo (by simp;omega),.inr ?_,.inr ⟨by simp,by omega,?_⟩,by omega,by simp;omega,by simp;omega,Kz,.inr (by omega)⟩
 ·exact q3 (qY (PV 0 _ (by omega) (Iw 0 _ (by omega) aV))) (by omega)
 ·exact q3 (qY (PV 1 _ (by omega) (Iw 1 _ (by omega) ad))) (by omega)
 ·exact q3 (qY (PV 2 _ (by omega) (Iw 2 _ (by omega) af))) (by omega)
 ·refine q3 (qY (PV 3 _ (by omega) ?_)) (by omega);rw [HN];exact Lo (by omega)
 ·rcases mx with ⟨bH,_⟩ | ⟨bH,bY,cs,Hh,Kj,NW⟩
  ·exact absurd bH (by simp)
  ·refine ⟨rfl,bY,cs,q3 (qY (aeQ x _ ne (Iw x _ (by omega) Hh))) (by omega),?_,?_⟩
   ·rw [sC] at Kj;omega
   ·have:=congrArg (List.take (way.length*2)) NW;rw [List.take_take,List.flatMap_append] at this;rw [sC,tI (by omega)] at this;rw [this,List.take_append_of_le_length (by rw [KN];exact sB _),uB (by rw [KN];exact sB _)]
 ·rw [←PW];exact q3 (Na _ _) (by omega)
theorem af6 {cs:List I} (h:(way.length+1)*2≤cs.length) (e:cs.take ((way.length+1)*2)=(way++[p]).flatMap p0):cs[way.length*2]?=some (hW p.1)∧cs[way.length*2+1]?=some (hW p.2):=by
 have g:=Qr (way++[p]) way.length (by simp);have ae:(way++[p]).getD way.length (0,0)=p:=by simp
 rw [ae,←e,tp,tp,if_pos (by omega),if_pos (by omega)] at g;exact g
theorem aiI {Nt:List (Int×Int)} (w9:t.2.length≤1000) (KD:sb t L way out a rR v5 x y H) (h:K7 t qc L way out a=some Nt)
  {Q:cA→List I→List ar→Prop} (av:∀ L a rR v5 x y H NR NS NT aad,sb t L [] Nt a rR v5 x y H→Q (.exit 2) (Hc 92 [(1,.ptr 0 0),(3,.ptr 2 0),(5,v5),(6,.ptr 3 0),(7,.ptr 4 0),(8,.func 89 [Hy t] []),(38,NR),(39,NS),(40,NT),(67,aad)]) H)
  {T:List I} (bX:e0 [false,true,false,true,false,true,true,true,true,false,false,false,false,false,false,false,false,false,false,false,false,false,false,false,false,false,false,false,false,false,false,false,false,false,false,false,false,false,false,false,false,false,false,false,false,false,false,false,false,false,false,false,false,false,false,false,false,false,false,false,false,false,false,false,false,false,false,false,false,false,false,false,false,false,false,false,false,false,false,false,false,false,false,false,false,false,false,false,false,false,false,false] T=Hc 92 [(1,.ptr 0 0),(3,.ptr 2 0),(5,v5),(6,.ptr 3 0),(7,.ptr 4 0),(8,.func 89 [Hy t] [])]):dR Tryz.prog L1 104 0 none Qy T H Q:=by
 unfold Qy;obtain ⟨nk,HC⟩:∃ c,T6=c:=⟨_,rfl⟩;rw [HC];refine wp_loop bX ?_;refine .intro (fun m T H=>∃ L way out a rR v5 x y,sb t L way out a rR v5 x y H∧T=Hc 92 [(1,.ptr 0 0),(3,.ptr 2 0),(5,v5),(6,.ptr 3 0),(7,.ptr 4 0),(8,.func 89 [Hy t] [])]∧K7 t m L way out a=some Nt) qc ⟨_,_,_,_,_,_,_,_,KD,rfl,h⟩ ?_;clear h bX KD;rintro m T H ⟨L,way,out,a,rR,v5,x,y,cm,rfl,h⟩;cases m
 ·exact rj h
 rename_i m;rw [K7.eq_2] at h;obtain ⟨⟨Tq,fK⟩,h⟩:=qC h;have XX:LH t a=some (places t a):=by rw [LH,if_pos w9]
 subst HC;unfold T6;obtain ⟨al2,XA⟩:∃ c,T9=c:=⟨_,rfl⟩;obtain ⟨fZ,Hg⟩:∃ c,T5=c:=⟨_,rfl⟩;rw [XA,Hg];refine I5 fun nc Hv=>?_;conv=>whnf
 refine Es cm.a6 ?_;conv=>whnf
 refine ⟨(p2 (re (p2 rfl (p2 (q4 (fun _=>(p2 rfl (p2 rfl rfl))) _ _ _) rfl))) (p2 rfl rfl)),_,alA (v:=()) rfl,?_⟩;conv=>whnf
 subst XA;unfold T9;have Qc:=cm.ajK;cases a0:(places t a).find? (Nn L) with
 | some p =>
   rw [a0] at h;obtain ⟨Tg,ao⟩:=qC h;obtain ⟨n,aN,afB,g6,eV⟩:=Xl a0;have aB:=TJ (List.mem_of_find?_eq_some a0);refine aiD (id:=3) (f:=fun e=>.agg (p0 e)) (aiP XX) aN (by exact rfl) (fun i hi Y=>?_) (fun Y=>?_) (by exact rfl)
   ·have zc:=TJ (sU (show i<(places t a).length by omega));exact Y8 cm zc.1 ⟨zc.2.2.1,zc.2.2.2.1⟩ (of_decide_eq_false (eV i hi)) Y
   ·rw [afB];obtain ⟨H',afK,afe,Vh,oI,pe⟩:=aiJ cm ⟨aB.1,aB.2.1⟩ ⟨aB.2.2.1,aB.2.2.2.1⟩ (of_decide_eq_true g6) Tg Tq Y;refine ⟨H',⟨afe,?_⟩,afK⟩;(conv=>whnf);refine Hv _ _ _ ?_;(conv=>whnf);exact ⟨m,sA m,_,_,_,_,Vh,v5.settle,oI,y,by rw [Qc];exact pe,rfl,ao⟩
 | none =>
   rw [a0] at h;have eV:=vH.1 a0;refine aiF (f:=fun e=>.agg (p0 e)) (aiQ XX) (fun _=>H) (by exact rfl) rfl (fun _=>rfl) (fun i hi Y=>?_) (by exact rfl) rfl (fun Y=>?_)
   ·have zc:=TJ (sU hi);exact Y8 cm zc.1 ⟨zc.2.2.1,zc.2.2.2.1⟩ (by have:=eV _ (sU hi);simpa [Nn] using this) Y
   have Jy:sb t L way out a rR v5 x y ((H++[.dead])++Y):=(cm.more _).more _;clear cm;obtain ⟨G,HN⟩:∃ G,G=(H++[ar.dead])++Y:=⟨_,rfl⟩;rw [←HN] at Jy ⊢;(conv=>whnf);refine Es Jy.aG ?_;rcases Jy.hw with ⟨rfl,rfl⟩ | ⟨rfl,amq,cs,ak,cB,CR⟩
   ·obtain rfl:=Option.some.inj h;(conv=>whnf);refine Hv _ _ _ ?_;(conv=>whnf);exact av _ _ _ _ _ _ _ _ _ _ _ (by rw [Qc];exact Jy)
   ·(conv=>whnf);rcases Zs way with rfl | ⟨IU,p,rfl⟩
    ·obtain rfl:=Option.some.inj h;(conv=>whnf);refine Hv _ _ _ ?_;(conv=>whnf);exact av _ _ _ _ _ _ _ _ _ _ _ (by rw [Qc];exact Jy)
    ·rw [List.getLast?_concat] at h;obtain ⟨fL,ao⟩:=qC h;rw [List.dropLast_concat] at ao;(have hlen:(IU++[p]).length=IU.length+1:=by simp);(have zn:IntKind.i64.wrap ((((IU++[p]).length:Nat):Int)-1)=(IU.length:Int):=by rw [hlen,Jn _ (by omega) (by omega)];omega);rw [hlen] at cB CR Tq;obtain ⟨jG,h2⟩:=af6 cB CR;have afq:=Jy.len;have I4:=Jy.ne;have afu:=Jy.K8;have afv:=Jy.K9;have aff:=Jy.J4;rw [decide_eq_false (show ¬ ((((IU++[p]).length:Nat):Int)=0) by omega)];rw [Qc];(conv=>whnf);subst Hg;unfold T5;obtain ⟨dY,Cs⟩:∃ c,T4=c:=⟨_,rfl⟩;rw [Cs];(conv=>whnf);refine Es Jy.aG ?_;(conv=>whnf);refine Es Jy.aG ?_;(conv=>whnf);rw [zn];refine ⟨by omega,?_⟩;(conv=>whnf);refine Es ak ?_;(conv=>whnf);refine Es (by rw [show 0+(IU.length:Int).toNat*2=IU.length*2 by omega];exact jG) ?_;(conv=>whnf);refine Es (by rw [show 0+(IU.length:Int).toNat*2+1=IU.length*2+1 by omega];exact h2) ?_;(conv=>whnf);refine Es (JU _ _) ?_;(conv=>whnf);rw [rB];(conv=>whnf);obtain ⟨IV,J8⟩:∃ IV,IV=G++[ar.cells [hW p.1,hW p.2]]:=⟨_,rfl⟩;(have pf:sb t L (IU++[p]) out a (.cl x (x+1) (IU++[p]).length 2) v5 x y IV:=by rw [J8];exact Jy.more _);(have aeM:IV[G.length]?=some (.cells [hW p.1,hW p.2]):=by rw [J8];exact JU _ _);(have jO:IV.length=G.length+1:=by rw [J8];simp);erw [←J8];subst Cs;unfold T4;obtain ⟨b9,iF⟩:∃ c,T3=c:=⟨_,rfl⟩;rw [iF];(conv=>whnf);refine ⟨_,_,fun C=>X9 rfl (e:=65) (by kernel_rfl) pf.aG (.inr ⟨_,_,_,_,rfl⟩),?_⟩;(conv=>whnf);refine Es pf.aG ?_;(conv=>whnf);rw [zn];refine ⟨⟨by omega,by omega⟩,?_⟩;(conv=>whnf);refine Es pf.aG ?_;(conv=>whnf);obtain ⟨rO,Jc⟩:∃ rO,rO=IV.set 3 (.cells [.cl x (x+1) IU.length 2]):=⟨_,rfl⟩;(have PS:rO[G.length]?=some (.cells [hW p.1,hW p.2]):=by rw [Jc];exact q3 aeM (by omega));(have XC:rO[0]?=some (Jm t):=by rw [Jc];exact q3 pf.aV (by omega));(have XE:rO[4]?=some (.cells [hW a]):=by rw [Jc];exact q3 pf.a6 (by omega));(have gg:rO.length=IV.length:=by rw [Jc];simp);erw [←Jc];subst iF;unfold T3;obtain ⟨bt,er⟩:∃ c,YT=c:=⟨_,rfl⟩;rw [er];rcases pf.aq with ⟨aq,rfl⟩ | ⟨rfl,XZ,aZ⟩
     ·have Tl:=pf.pop (b:=qE t p) (by rw [hlen]) (cells:=p0 p) (by rw [aq];simp) Jc (.inl rfl);(conv=>whnf);refine Es PS ?_;(conv=>whnf);refine ⟨⟨rfl,by decide⟩,?_⟩;(conv=>whnf);refine ⟨⟨by decide,by decide,rfl⟩,?_⟩;have SI:(rO++[ar.grow (p0 p) (rO.length+1) 2,ar.dead])[G.length]?=some (.cells [hW p.1,hW p.2]):=qY PS;have SH:(rO++[ar.grow (p0 p) (rO.length+1) 2,ar.dead])[0]?=some (Jm t):=qY XC;have SM:(rO++[ar.grow (p0 p) (rO.length+1) 2,ar.dead])[4]?=some (.cells [hW a]):=qY XE;subst er;(conv=>whnf);refine Es SH ?_;(conv=>whnf);refine Es SI ?_;(conv=>whnf);refine ⟨(p2 (re (p2 rfl (p2 (q4 (fun _=>(p2 rfl (p2 rfl rfl))) _ _ _) rfl))) (p2 (Kf (p2 rfl (p2 rfl rfl))) rfl)),_,KT (Km fL),?_⟩;(conv=>whnf);refine Es SM ?_;(conv=>whnf);refine Hv _ _ _ ?_;(conv=>whnf);exact ⟨m,sA m,_,IU,_,_,_,_,_,_,Tl,by rw [aq];rfl,ao⟩
     ·(have afT:rO[y]?=some (.grow (out.flatMap p0) (y+1) 2):=by rw [Jc];exact q3 aZ (by omega));have Tl:=pf.pop (b:=qE t p) (by rw [hlen]) (cells:=out.flatMap p0++p0 p) (by simp) Jc (.inr ⟨rfl,XZ⟩);(conv=>whnf);refine Es PS ?_;(conv=>whnf);refine ⟨⟨rfl,by decide⟩,?_⟩;(conv=>whnf);refine Es afT ?_;(conv=>whnf);refine .inl ⟨⟨rfl,rfl,rfl,KN _,by decide,by omega⟩,?_⟩;have SI:(rO.set y .dead++[ar.grow (out.flatMap p0++p0 p) (rO.length+1) 2,ar.dead])[G.length]?=some (.cells [hW p.1,hW p.2]):=qY (q3 PS (by omega));have SH:(rO.set y .dead++[ar.grow (out.flatMap p0++p0 p) (rO.length+1) 2,ar.dead])[0]?=some (Jm t):=qY (q3 XC (by omega));have SM:(rO.set y .dead++[ar.grow (out.flatMap p0++p0 p) (rO.length+1) 2,ar.dead])[4]?=some (.cells [hW a]):=qY (q3 XE (by omega));subst er;(conv=>whnf);refine Es SH ?_;(conv=>whnf);refine Es SI ?_;(conv=>whnf);refine ⟨(p2 (re (p2 rfl (p2 (q4 (fun _=>(p2 rfl (p2 rfl rfl))) _ _ _) rfl))) (p2 (Kf (p2 rfl (p2 rfl rfl))) rfl)),_,KT (Km fL),?_⟩;(conv=>whnf);refine Es SM ?_;(conv=>whnf);refine Hv _ _ _ ?_;(conv=>whnf);exact ⟨m,sA m,_,IU,_,_,_,_,_,_,Tl,rfl,ao⟩
end

theorem ahC (l:List (Int×Int)):(l.flatMap p0).map I.view=l.flatMap p0:=by
 rw [List.map_flatMap];rfl
theorem afY {t:p9} (w9:t.2.length≤1000)
  {Q:cA→List I→List ar→Prop} (av:∀ Gj,Q (.exit 0) (Hc 92 [(1,.ptr 0 0),(3,.ptr 2 0),(4,Gj),(17,hW t.2.length),(18,hW t.2.length),(19,B (decide ((t.2.length:Int)<(t.2.length:Int))))]) [Jm t,.map (rZ (List.range (2*t.2.length))) (2*t.2.length),.cells [.map 1]])
  {T:List I} (bX:e0 [false,true,false,true,false,false,false,false,false,false,false,false,false,false,false,false,false,true,true,false,false,false,false,false,false,false,false,false,false,false,false,false,false,false,false,false,false,false,false,false,false,false,false,false,false,false,false,false,false,false,false,false,false,false,false,false,false,false,false,false,false,false,false,false,false,false,false,false,false,false,false,false,false,false,false,false,false,false,false,false,false,false,false,false,false,false,false,false,false,false,false,false] T=Hc 92 [(1,.ptr 0 0),(3,.ptr 2 0),(17,hW t.2.length),(18,hW (0:Nat))]):dR Tryz.prog L1 104 0 none Qz T [Jm t,.map [] 0,.cells [.map 1]] Q:=by
 unfold Qz;obtain ⟨bb,b6⟩:∃ c,T2=c:=⟨_,rfl⟩;rw [b6];refine wp_loop bX ?_;refine .intro (fun m T H=>∃ i:Nat,i≤t.2.length∧m=t.2.length-i∧T=Hc 92 [(1,.ptr 0 0),(3,.ptr 2 0),(17,hW t.2.length),(18,hW i)]∧H=[Jm t,.map (rZ (List.range (2*i))) (2*i),.cells [.map 1]]) t.2.length ⟨0,by omega,by omega,rfl,rfl⟩ ?_;clear bX;rintro m T H ⟨i,hi,rfl,rfl,rfl⟩;conv=>whnf
 refine Ip (fun aS=>?_) (fun aS=>?_)
 ·have aS:i<t.2.length:=by omega
  have df:I.agg [hW (i:Int),hW 0]=.agg (p0 (rC (2*i))):=by
   have:=Qq (n:=t.2.length) (i:=i) (b:=0) aS (by omega);rw [show 2*i+0=2*i by omega] at this;rw [this];rfl
  have aJ:I.agg [hW (i:Int),hW 1]=.agg (p0 (rC (2*i+1))):=by
   rw [Qq (n:=t.2.length) (i:=i) (b:=1) aS (by omega)];rfl
  have f0:fG (.agg [hW (i:Int),hW 0]) (rZ (List.range (2*i))) 0=some none:=by rw [df];exact PO _ _ _ (by simp)
  have f1:fG (.agg [hW (i:Int),hW 1]) (rZ (List.range (2*i+1))) 0=some none:=by rw [aJ];exact PO _ _ _ (by simp)
  have f':rZ (List.range (2*i))++[(2*i,I.agg [hW (i:Int),hW 0],hW 1)]=rZ (List.range (2*i+1)):=by rw [df,Xe,←uZ]
  have e1:rZ (List.range (2*i+1))++[(2*i+1,I.agg [hW (i:Int),hW 1],hW 1)]=rZ (List.range (2*i+1+1)):=by rw [aJ,Xe,←uZ]
  conv=>whnf
  subst b6;unfold T2;obtain ⟨a',cb⟩:∃ c,TZ=c:=⟨_,rfl⟩;rw [cb];refine I5 fun nc Hv=>?_;conv=>whnf
  subst cb;unfold TZ;conv=>whnf
  refine ⟨rfl,_,_,rfl,none,f0,?_⟩;conv=>whnf
  refine ⟨rfl,_,_,rfl,none,(by erw [f'];exact f1),?_⟩;conv=>whnf
  erw [f',e1];refine Hv _ _ _ ?_;conv=>whnf
  exact ⟨t.2.length-(i+1),by omega,i+1,by omega,rfl,by rw [←rJ i (by omega)] <;> rfl,rfl⟩
 ·obtain rfl:i=t.2.length:=by omega
  conv=>whnf
  exact av _
theorem Vk {t:p9} {v:List (Int×Int)} (h:Mw t=some v):qB 104 [Hy t] (.ax (v.flatMap p0) v.length .shared):=by
 obtain ⟨⟨Dg,w9⟩,h⟩:=qC h;obtain ⟨out,ao,h⟩:=qm h;obtain ⟨⟨afC,jT⟩,h⟩:=qC h;obtain rfl:=Option.some.inj h;refine q5 et af9 rfl (q4 (fun _=>(p2 rfl (p2 rfl rfl))) _ _ _) fun Q bp=>?_;have jD:∀ T H,I9 [.tmp 2] (.ax (out.reverse.flatMap p0) out.reverse.length .shared) .ret T H→Q .ret T H:=fun T H bI=>bp _ T H bI;unfold YS;obtain ⟨WZ,Lm⟩:∃ c,T1=c:=⟨_,rfl⟩;rw [Lm];conv=>whnf
 subst Lm;unfold T1;obtain ⟨Sc,JT⟩:∃ c,Qz=c:=⟨_,rfl⟩;obtain ⟨WY,K2⟩:∃ c,T0=c:=⟨_,rfl⟩;rw [JT,K2];conv=>whnf
 subst JT;refine afY (t:=t) w9 ?_ (by exact rfl);intro Gj;conv=>whnf
 subst K2;unfold T0;obtain ⟨nm,Hi⟩:∃ c,T7=c:=⟨_,rfl⟩;obtain ⟨B8,JS⟩:∃ c,T8=c:=⟨_,rfl⟩;rw [Hi,JS];conv=>whnf
 refine ⟨by omega,?_⟩;conv=>whnf
 refine aiw p0 2 qv t.2 0 ⟨by omega,by omega⟩ rfl ?_;conv=>whnf
 subst Hi;unfold T7;obtain ⟨al1,Xz⟩:∃ c,Qy=c:=⟨_,rfl⟩;rw [Xz];conv=>whnf
 subst Xz;have cm:sb t (List.range (2*t.2.length)) [] [] (ix t.2 0).1 (.ax [] 0 .full) (.ax [] 0 .full) 0 2 [Jm t,.map (rZ (List.range (2*t.2.length))) (2*t.2.length),.cells [.map 1],.cells [.ax [] 0 .full],.cells [hW (ix t.2 0).1]] :=
  ⟨uD,rfl,⟨_,rfl⟩,rfl,rfl,rfl,.inl ⟨rfl,rfl⟩,.inl ⟨rfl,rfl⟩,by decide,by simp,by simp,.inl rfl,.inl rfl⟩
 refine aiI w9 cm ao ?_ (by exact rfl);intro L a rR v5 x y H NR NS NT aad H6;conv=>whnf
 subst JS;unfold T8;rcases H6.aq with ⟨rfl,_⟩ | ⟨rfl,XZ,aZ⟩
 ·exact absurd rfl afC
 conv=>whnf
 refine ⟨_,_,HL (aiy out (by omega) (by omega) (sP _) aZ),?_⟩;conv=>whnf
 refine ⟨_,_,fun C=>Xt rfl (sP _) (Lo (sv.1 aZ).1) (by rw [KN,List.length_reverse]),?_⟩;rw [ahC];conv=>whnf
 rw [List.length_reverse] at jD;exact jD _ _ ⟨.inr rfl,_,rfl,_,o' (q4 (fun _=>(p2 rfl (p2 rfl rfl))) _ _ _),rfl⟩
end Go.Proofs.YtfakoboiahbhaaaGreat.Ab


namespace Go.Proofs.YtfakoboiahbhaaaGreat.Ab
open Go
def JR (e:Int×Int) (v:Int):Nat:=(if e.1=v then 1 else 0)+(if e.2=v then 1 else 0)
def ru (b:p9) (S:List Int) (v:Int):Nat:=(S.map fun i=>JR (ix b.2 i) v).sum
section
variable {b t:p9}
theorem ael (p:Int×Int) (v:Int):JR (ix b.2 p.1) v=(if qE b p=v then 1 else 0)+(if fin b p=v then 1 else 0):=by
 unfold JR qE fin;by_cases h:0<p.2
 ·rw [if_pos h,if_pos h,Nat.add_comm]
 ·rw [if_neg h,if_neg h]
theorem L9 (v:Int):ru b [] v=0:=rfl
theorem Ot (i:Int) (S:List Int) (v:Int):ru b (i::S) v=JR (ix b.2 i) v+ru b S v:=by simp [ru]
theorem PJ (S S':List Int) (v:Int):ru b (S++S') v=ru b S v+ru b S' v:=by simp [ru]
theorem M_ {S S':List Int} (h:S.Perm S') (v:Int):ru b S v=ru b S' v:=by
 unfold ru;exact (h.map _).sum_nat
theorem Sm {S:List Int} {v:Int}:ru b S v=0↔∀ i∈S,¬ rb b i v:=by
 induction S with
 | nil=>simp [L9]
 | cons i S a_ =>
   rw [Ot,Nat.add_eq_zero_iff,a_];simp only [sL,forall_eq_or_imp];refine and_congr ?_ Iff.rfl;unfold JR rb;split <;> split <;> simp [*]
theorem JG:∀ (l l':Row) (a:Int),qN b a (l++l')=(qN b a l).bind fun c=>qN b c l'
 | [],_,_=>rfl
 | p::l,l',a=>by
   rw [uK,qN,qN];split
   ·exact JG l l' _
   ·rfl
theorem Kh {a c:Int} {p:Int×Int}:qN b a [p]=some c↔qE b p=a∧fin b p=c:=by
 rw [qN,qN];split
 ·rename_i h;simp [h]
 ·rename_i h;simp [h]
theorem Jh {a c:Int} {p:Int×Int} {l:Row}:qN b a (p::l)=some c↔qE b p=a∧qN b (fin b p) l=some c:=by
 rw [qN];split
 ·rename_i h;simp [h]
 ·rename_i h;simp [h]
theorem NN:∀ (l:Row) (a c v:Int),qN b a l=some c→(ru b (l.map (·.1)) v+(if a=v then 1 else 0)+(if c=v then 1 else 0)) % 2=0
 | [],a,c,v,h=>by
   have:a=c:=by simpa [qN] using h
   subst this;rw [tL,L9];split <;> rfl
 | p::l,a,c,v,h=>by
   obtain ⟨ad,af⟩:=Jh.1 h;have a_:=NN l _ c v af;rw [sG,Ot,ael,ad];omega
def Hx (t:p9) (p:Int×Int):Prop:=0≤p.1∧p.1<(t.2.length:Int)∧0≤p.2∧p.2≤1
theorem Ju (p:Int×Int) (v:Int):rb b p.1 v↔qE b p=v∨fin b p=v:=by
 unfold rb qE fin;split
 ·exact Or.comm
 ·exact Iff.rfl
theorem aew {i:Nat} (hi:i<t.2.length) {v:Int} (h:rb t i v):∃ p∈places t v,p.1=(i:Int):=by
 rcases h with h | h
 ·exact ⟨((i:Int),0),Lz.2 ⟨by simp only;omega,by simp only;omega,by simp only;omega,by simp only;omega,h⟩,rfl⟩
 ·exact ⟨((i:Int),1),Lz.2 ⟨by simp only;omega,by simp only;omega,by simp only;omega,by simp only;omega,h⟩,rfl⟩
structure Ii (t:p9) (s:Int) (L:List Nat) (way out:Row) (a h:Int):Prop where
 jo:∀ x∈L,x<2*t.2.length
 sym:∀ i:Nat,2*i∈L↔2*i+1∈L
 ok:∀ p∈way++out,Hx t p
 QS:((way++out).map (·.1)).Nodup
 Mr:∀ i:Nat,i<t.2.length→(2*i∈L↔(i:Int) ∉ (way++out).map (·.1))
 go:qN t s way=some a
 back:qN t h out.reverse=some s
 Qk:∀ p∈out,∀ i:Nat,i<t.2.length→2*i∈L→¬ rb t i (fin t p)
theorem X3 {p:Int×Int} (h:Hx t p):∃ i:Nat,p.1=(i:Int)∧i<t.2.length∧((p.2=0∧Hk p=2*i∧Hk (p.1,1-p.2)=2*i+1)∨(p.2=1∧Hk p=2*i+1∧Hk (p.1,1-p.2)=2*i)):=by
 obtain ⟨ad,af,aG,a6⟩:=h;refine ⟨p.1.toNat,by omega,by omega,?_⟩;unfold Hk;simp only;rcases show p.2=0∨p.2=1 by omega with h | h
 ·left;omega
 ·right;omega
theorem ag6 {L:List Nat} {p:Int×Int} {x:Nat}:x∈Ky L p↔x∈L∧x≠Hk p∧x≠Hk (p.1,1-p.2):=by
 unfold Ky IJ;simp only [tc,decide_eq_true_eq,and_assoc]
theorem Tv {α:Type} (q:α→Bool):∀ (l:List α) (x:α),x∈l→q x=false→(l.filter q).length<l.length
 | [],_,h,_=>by simp at h
 | y::l,x,h,a0=>by
   have hle:=tW q l;rw [tx];rcases sL.1 h with rfl | h
   ·rw [a0];simp only [Bool.false_eq_true,if_false,sV];omega
   ·have a_:=Tv q l x h a0;split <;> simp only [sV] <;> omega
theorem aeq {L:List Nat} {p:Int×Int} (h:Hk p∈L) (af:Hk (p.1,1-p.2)∈IJ L p):(Ky L p).length+2≤L.length:=by
 have aC:=Tv (fun x=>decide (x≠Hk p)) L _ h (by simp);have aI:=Tv (fun x=>decide (x≠Hk (p.1,1-p.2))) (IJ L p) _ af (by simp);unfold Ky;unfold IJ at aC aI ⊢;omega
theorem Ii.step {s a h:Int} {L:List Nat} {way out:Row} {p:Int×Int} (kx:Ii t s L way out a h) (aB:p∈places t a) (fs:Hk p∈L):Ii t s (Ky L p) (way++[p]) out (fin t p) h∧Hk (p.1,1-p.2)∈IJ L p:=by
 have a0:=Lz.1 aB;have bQ:Hx t p:=⟨a0.1,a0.2.1,a0.2.2.1,a0.2.2.2.1⟩;obtain ⟨i,hi,rn,ak⟩:=X3 bQ;have SJ:2*i∈L:=by
  rcases ak with ak | ak
  ·rw [←ak.2.1];exact fs
  ·rw [kx.sym,←ak.2.1];exact fs
 have aeN:=(kx.sym i).1 SJ;have a3:∀ x,x∈Ky L p↔x∈L∧x≠2*i∧x≠2*i+1:=fun x=>by
  rw [ag6];rcases ak with ak | ak <;> rw [ak.2.1,ak.2.2] <;> constructor <;> rintro ⟨ad,af,aG⟩ <;> exact ⟨ad,by omega,by omega⟩
 have afA:=(kx.Mr i rn).1 SJ;have JB:((way++[p]++out).map (·.1)).Perm (p.1::(way++out).map (·.1)):=by
  rw [←sG];refine List.Perm.map _ ?_;rw [sH];exact List.perm_middle
 refine ⟨⟨fun x ak=>kx.jo x ((a3 x).1 ak).1,fun j=>?_,fun q a0=>?_,?_,fun j aw=>?_,?_,kx.back,fun q a0 j aw afm=>kx.Qk q a0 j aw ((a3 _).1 afm).1⟩,?_⟩
 ·rw [a3,a3,kx.sym j];constructor <;> rintro ⟨ad,af,aG⟩ <;> exact ⟨ad,by omega,by omega⟩
 ·rcases ti.1 a0 with a0 | a0
  ·rcases ti.1 a0 with a0 | a0
   ·exact kx.ok q (List.mem_append_left _ a0)
   ·rw [ta.1 a0];exact bQ
  ·exact kx.ok q (List.mem_append_right _ a0)
 ·rw [JB.nodup_iff,uz];exact ⟨by rw [hi];exact afA,kx.QS⟩
 ·rw [a3,kx.Mr j aw,JB.mem_iff,sL,hi];constructor
  ·rintro ⟨ad,af,_⟩ (aG | aG)
   ·omega
   ·exact ad aG
  ·intro ad;refine ⟨fun af=>ad (.inr af),fun e=>ad (.inl (by omega)),by omega⟩
 ·rw [JG,kx.go];exact Kh.2 ⟨a0.2.2.2.2,rfl⟩
 ·unfold IJ;rw [tc];rcases ak with ak | ak <;> rw [ak.2.1,ak.2.2]
  ·exact ⟨aeN,by simp⟩
  ·exact ⟨SJ,by simp⟩
def Qg (t:p9) (L:List Nat):List Int:=(upto t.2.length).filter fun i=>decide (2*i.toNat∈L)
theorem TB {L:List Nat} {x:Int}:x∈Qg t L↔∃ i:Nat,i<t.2.length∧x=(i:Int)∧2*i∈L:=by
 unfold Qg;rw [tc,HP,decide_eq_true_eq];constructor
 ·rintro ⟨⟨ad,af⟩,aG⟩;exact ⟨x.toNat,by omega,by omega,aG⟩
 ·rintro ⟨i,ad,rfl,aG⟩;exact ⟨⟨by omega,by omega⟩,by simpa using aG⟩
theorem Ii.perm {s a h:Int} {L:List Nat} {way out:Row} (kx:Ii t s L way out a h):(upto t.2.length).Perm (Qg t L++(way++out).map (·.1)):=by
 refine (uR (IQ _) ?_).2 fun x=>?_
 ·rw [List.nodup_append];refine ⟨(IQ _).filter _,kx.QS,fun x ak y aZ e=>?_⟩;subst e;obtain ⟨i,hi,rfl,fs⟩:=TB.1 ak;exact (kx.Mr i hi).1 fs aZ
 ·rw [ti,TB,HP];constructor
  ·rintro ⟨ad,af⟩;obtain ⟨i,rfl⟩:∃ i:Nat,x=(i:Int):=⟨x.toNat,by omega⟩;by_cases hm:(i:Int)∈(way++out).map (·.1)
   ·exact .inr hm
   ·exact .inl ⟨i,by omega,rfl,(kx.Mr i (by omega)).2 hm⟩
  ·rintro (⟨i,hi,rfl,_⟩ | hm)
   ·omega
   ·obtain ⟨p,aB,rfl⟩:=sM.1 hm;have:=kx.ok p aB;exact ⟨this.1,this.2.1⟩
theorem Ii.len {s a h:Int} {L:List Nat} {way out:Row} (kx:Ii t s L way out a h):way.length+out.length≤t.2.length:=by
 have:=kx.perm.length_eq;rw [r_] at this;simp at this;omega
theorem Ii.stuck {s a h:Int} {L:List Nat} {way out:Row} (kx:Ii t s L way out a h) (aA:∀ v,ru t (upto t.2.length) v % 2=0) (ai:∀ i:Nat,i<t.2.length→2*i∈L→¬ rb t i a):h=a:=by
 have aV:ru t (Qg t L) a=0:=Sm.2 fun x ak=>by
  obtain ⟨i,hi,rfl,fs⟩:=TB.1 ak;exact ai i hi fs
 have ad:=aA a;rw [M_ kx.perm,PJ,aV,tj,PJ] at ad;have af:=NN _ _ _ a kx.go;have aG:=NN _ _ _ a kx.back;have a6:ru t (out.reverse.map (·.1)) a=ru t (out.map (·.1)) a:=M_ ((wa out).map _) a;rw [a6] at aG;rw [if_pos rfl] at af;by_cases e:h=a
 ·exact e
 ·rw [if_neg e] at aG;omega
theorem Ii.pop {s a:Int} {L:List Nat} {way out:Row} {p:Int×Int} (kx:Ii t s L (way++[p]) out a a) (ai:∀ i:Nat,i<t.2.length→2*i∈L→¬ rb t i a):Ii t s L way (out++[p]) (qE t p) (qE t p):=by
 have JB:(way++(out++[p])).Perm (way++[p]++out):=by
  rw [sH];exact List.Perm.append_left way wb
 have HH:=kx.go;rw [JG] at HH;obtain ⟨c,ad,af⟩:=qm HH;obtain ⟨aG,a6⟩:=Kh.1 af;refine ⟨kx.jo,kx.sym,fun q a0=>kx.ok q (JB.mem_iff.1 a0),(JB.map _).nodup_iff.2 kx.QS,fun i hi=>?_,by rw [aG];exact ad,?_,fun q a0 i hi fs=>?_⟩
 ·rw [kx.Mr i hi,(JB.map (·.1)).mem_iff]
 ·rw [List.reverse_append];exact Jh.2 ⟨rfl,by rw [a6];exact kx.back⟩
 ·rcases ti.1 a0 with a0 | a0
  ·exact kx.Qk q a0 i hi fs
  ·rw [ta.1 a0,a6];exact ai i hi fs
theorem Tz (aA:∀ v,ru t (upto t.2.length) v % 2=0) (aN:t.2.length≤1000) {s:Int}:∀ (m:Nat) (L:List Nat) (way out:Row) (a h:Int),Ii t s L way out a h→L.length+way.length<m →
  ∃ iv Ho,K7 t m L way out a=some Ho∧Ii t s iv [] Ho s s∧∀ i:Nat,i<t.2.length→2*i∈iv→¬ rb t i s
 | 0,_,_,_,_,_,_,hm=>absurd hm (by omega)
 | m+1,L,way,out,a,h,kx,hm=>by
   have hlen:=kx.len;rw [K7,qz ⟨by omega,by omega⟩];cases aP:(places t a).find? (Nn L) with
   | some p =>
     have aB:=List.mem_of_find?_eq_some aP;(have fs:Hk p∈L:=by simpa [Nn] using List.find?_some aP);obtain ⟨ad,af⟩:=kx.step aB fs;have aG:=aeq fs af;show ∃ iv Ho,qg (Hk (p.1,1-p.2)∈IJ L p) _=some Ho∧_;rw [qz af];exact Tz aA aN m _ _ _ _ _ ad (by simp only [sC,tz];omega)
   | none =>
     have ai:∀ i:Nat,i<t.2.length→2*i∈L→¬ rb t i a:=fun i hi fs nE=>by
      obtain ⟨p,aB,e⟩:=aew hi nE;have a0:=Lz.1 aB;obtain ⟨j,aw,_,ak⟩:=X3 (t:=t) (p:=p) ⟨a0.1,a0.2.1,a0.2.2.1,a0.2.2.2.1⟩;(have g5:i=j:=by omega);subst g5;have eV:=vH.1 aP p aB;refine eV ?_;simp only [Nn,decide_eq_true_eq];rcases ak with ak | ak
      ·rw [ak.2.1];exact fs
      ·rw [ak.2.1];exact (kx.sym i).1 fs
     have aeX:=kx.stuck aA ai;subst aeX;rcases Zs way with rfl | ⟨IU,p,rfl⟩
     ·show ∃ iv Ho,some out=some Ho∧_;(have e:s=h:=by simpa [qN] using kx.go);subst e;exact ⟨L,out,rfl,kx,ai⟩
     ·rw [List.getLast?_concat];have bQ:=kx.ok p (by simp);show ∃ iv Ho,qg (0≤p.1∧p.1<(t.2.length:Int)) (K7 t m L (IU++[p]).dropLast (out++[p]) (qE t p))=some Ho∧_;rw [qz ⟨bQ.1,bQ.2.1⟩,List.dropLast_concat];exact Tz aA aN m _ _ _ _ _ (kx.pop ai) (by simp only [sC,tz] at hm;omega)
structure Full (t:p9) (l:Row):Prop where
 ok:∀ p∈l,Hx t p
 sq:(l.map (·.1)).Nodup
 all:∀ i:Nat,i<t.2.length→(i:Int)∈l.map (·.1)
theorem Ii.all {s:Int} {L:List Nat} {out:Row} (kx:Ii t s L [] out s s) (ai:∀ i:Nat,i<t.2.length→2*i∈L→¬ rb t i s) (al:∀ i:Nat,i<t.2.length→∃ v,rb t i v∧rT t (upto t.2.length) s v):∀ i:Nat,i<t.2.length→(i:Int)∈out.map (·.1):=by
 have afa:∀ (l:Row) (a c:Int),qN t a l=some c→∀ p∈l,qE t p=a∨∃ q∈l,fin t q=qE t p:=by
  intro l
  induction l with
  | nil=>intro a c _ p aB;simp at aB
  | cons q l a_ =>
    intro a c h p aB;obtain ⟨ad,af⟩:=Jh.1 h;rcases sL.1 aB with rfl | aB
    ·exact .inl ad
    ·rcases a_ _ c af p aB with aG | ⟨fT,Dn,aG⟩
     ·exact .inr ⟨q,by simp,aG.symm⟩
     ·exact .inr ⟨fT,by simp [Dn],aG⟩
 have key:∀ v,rT t (upto t.2.length) s v→∀ i:Nat,i<t.2.length→2*i∈L→¬ rb t i v:=fun v ae=>by
  induction ae with
  | refl=>exact ai
  | step j _ aw aC aI a_ =>
    rename_i g GJ;have eg:=HP.1 aw;obtain ⟨k,rfl⟩:∃ k:Nat,j=(k:Int):=⟨j.toNat,by omega⟩;(have av:k<t.2.length:=by omega);have mh:2*k ∉ L:=fun h=>a_ k av h aC;have hm:(k:Int)∈out.map (·.1):=Classical.byContradiction fun aN=>mh ((kx.Mr k av).2 (by simpa using aN));obtain ⟨p,aB,e⟩:=sM.1 hm;rw [←e] at aI;rcases (Ju p _).1 aI with h | h
    ·rcases afa _ _ _ kx.back p (wN.2 aB) with aY | ⟨q,a0,aY⟩
     ·rw [←h,aY];exact ai
     ·intro i hi fs;rw [←h,←aY];exact kx.Qk q (wN.1 a0) i hi fs
    ·intro i hi fs;rw [←h];exact kx.Qk p aB i hi fs
 intro i hi;refine Classical.byContradiction fun aN=>?_;obtain ⟨v,ad,af⟩:=al i hi;exact key v af i hi ((kx.Mr i hi).2 (by simpa using aN)) ad
theorem aki (aA:∀ v,ru t (upto t.2.length) v % 2=0) (aN:t.2.length≤1000) (aV:0<t.2.length) (al:∀ i:Nat,i<t.2.length→∃ v,rb t i v∧rT t (upto t.2.length) (ix t.2 0).1 v) :
  ∃ l,Mw t=some l∧Full t l∧qN t (ix t.2 0).1 l=some (ix t.2 0).1:=by
 have kx:Ii t (ix t.2 0).1 (List.range (2*t.2.length)) [] [] (ix t.2 0).1 (ix t.2 0).1:=by
  refine ⟨fun x ak=>sX.1 ak,fun i=>?_,fun p aB=>absurd aB (by simp),by simp,fun i hi=>?_,rfl,rfl,fun p aB=>absurd aB (by simp)⟩
  ·rw [sX,sX];omega
  ·rw [sX];simp;omega
 obtain ⟨L,out,ad,af,aG⟩:=Tz aA aN qc _ _ _ _ _ kx (r6 (by simp;omega));have cU:=af.all aG al;have hlen:=af.len;have bO:out.length≠0:=fun e=>by
  have:=cU 0 aV;rw [tu.1 e] at this;simp at this
 refine ⟨out.reverse,?_,⟨fun p aB=>af.ok p (by simpa using aB),?_,fun i hi=>?_⟩,af.back⟩
 ·rw [Mw,qz ⟨aV,aN⟩,ad,sx,qz ⟨bO,by omega⟩]
 ·exact ((wa out).map _).nodup_iff.2 (by simpa using af.QS)
 ·exact ((wa out).map (·.1)).mem_iff.2 (cU i hi)
end
end Go.Proofs.YtfakoboiahbhaaaGreat.Ab


namespace Go.Proofs.YtfakoboiahbhaaaGreat.Ab
open Go
set_option maxRecDepth 20000
set_option maxHeartbeats 4000000
noncomputable def RD:fW :=
 .loop (some (qb false [0,1,4,1,5,3,52])) (pZ [GC 14 [.sl 13,.sl 12] (.bin .lss)] (.seq (.cond (.sl 14) .skip (.exit 0)) (.seq (.block 1 (pZ [GC 15 [.sl 11,.sl 13] (.kR 1),qo 16 15,pY 7 16] (pZ [p1 17 0,GC 18 [.Bt 17] .zY,qW 19 18 0,qW 20 19 1,qo 21 20,p1 22 7,qZ 23 21 22 2,qW 24 23 0,qo 25 24,GC 26 [.sl 5,.sl 25] (.zo 6 1),qo 27 26,qU 28 27 1,GC 29 [.sl 5,.Bt 25] (.zo 6 1),⟨none,[.jh 29,.jh 28],none,none,.st 1⟩] (qK [p1 30 0,GC 31 [.Bt 30] .zY,qW 32 31 0,qW 33 32 1,qo 34 33,pY 35 7,qZ 36 34 35 2,qW 37 36 1,qo 38 37,GC 39 [.sl 5,.sl 38] (.zo 6 1),qo 40 39,qU 41 40 1,GC 42 [.sl 5,.Bt 38] (.zo 6 1),⟨none,[.jh 42,.jh 41],none,none,.st 1⟩])))) (qK [qU 43 13 1,pY 13 43]))))
noncomputable def RE:fW :=
 .loop (some (qb false [8, 1, 38, 2, 17])) (pZ [GC 49 [.sl 48, .lT (.int .i64 6)] (.bin .lss)] (.seq (.cond (.sl 49) .skip (.exit 2)) (.seq (.block 3 (pZ [p1 50 48, GC 51 [.sl 47, .sl 48] (.other (Oper.mk (some 51) (Op.index 101 (Operand.tmp 47) (Operand.tmp 48)) 3 "table.go:64" (Array.mk []) none) 0), pY 9 50, pY 10 51] (pZ [pY 52 10, qA 53 52 2 .rem, qA 54 53 1 .eql] (.cond (.sl 54) (qK [p1 55 8, p1 56 8, qI 57 56, pY 58 8, qI 59 58, GC 60 [.jh 55, .jh 57, .jh 59] (.Bh 1 false true true), pY 61 9, GC 62 [.Bt 61] (.yv 1 1 [.int .i64 0] [0]), GC 63 [.jh 60, .jh 62] (.app 1 8), pY 8 63]) .skip)))) (qK [qU 64 48 1, pY 48 64]))))
noncomputable def acb:fW :=
 pZ [GC 4 [.lT (.ax [] 0 .full)] (.nil 1)] (pZ [GC 5 [] (.alloc [.int .i64 0, .int .i64 0, .int .i64 0, .int .i64 0, .int .i64 0, .int .i64 0])] (.seq (pZ [pY 11 1, GC 12 [.sl 11] .zD, qd 13 0] (.block 0 RD)) (.seq (pZ [GC 44 [.sl 5] (.zy (.arr 6)), GC 45 [] (.build [.int .i64 0, .int .i64 0, .int .i64 0, .int .i64 0, .int .i64 0, .int .i64 0] []), GC 46 [.Bt 44, .Bt 45] (.other (Oper.mk (some 46) (Op.binOp .eql 101 (Operand.tmp 44) (Operand.tmp 45) 101) 4 "table.go:60" (Array.mk [Edge.mk 0 Ground.data, Edge.mk 1 Ground.data]) none) 0)] (.cond (.sl 46) (pZ [GC 4 [.lT (.ax [] 0 .full)] (.nil 1)] .ret) .skip)) (pZ [GC 8 [.lT (.ax [] 0 .full)] (.nil 1)] (.seq (pZ [GC 47 [.Bt 5] (.zy (.arr 6)), qd 48 0] (.block 2 RE)) (pZ [pY 65 8, pY 4 65] .ret))))))
theorem agV:zE Tryz.prog PA 76=some (acb,66,[.tmp 4]):=by kernel_rfl
def MP (t:qn) (qp:qt) (qq:qt→Option qt):Nat→Int→qt→Option qt
 | 0,_,_=>none
 | m+1,s1,s2 =>
   if (decide (s1<(qp.length:Int)))=true then
    qg (0≤s1∧s1<(qp.length:Int)) <|
    qg (0≤(ix qp s1)∧(ix qp s1)<(t.2.length:Int)) <|
    qg (0≤(ix t.2 (ix qp s1)).1∧(ix t.2 (ix qp s1)).1<(6:Int)∧6=s2.length) <|
    qg (0≤(ix t.2 (ix qp s1)).1∧(ix t.2 (ix qp s1)).1<(6:Int)∧6=s2.length) <|
    qg (0≤(ix qp s1)∧(ix qp s1)<(t.2.length:Int)) <|
    qg (0≤(ix t.2 (ix qp s1)).2∧(ix t.2 (ix qp s1)).2<(6:Int)∧6=(s2.set ((ix t.2 (ix qp s1)).1).toNat (w ((ix s2 ((ix t.2 (ix qp s1)).1))+(1:Int)))).length) <|
    qg (0≤(ix t.2 (ix qp s1)).2∧(ix t.2 (ix qp s1)).2<(6:Int)∧6=(s2.set ((ix t.2 (ix qp s1)).1).toNat (w ((ix s2 ((ix t.2 (ix qp s1)).1))+(1:Int)))).length) <|
    MP t qp qq m (w (s1+(1:Int))) ((s2.set ((ix t.2 (ix qp s1)).1).toNat (w ((ix s2 ((ix t.2 (ix qp s1)).1))+(1:Int)))).set ((ix t.2 (ix qp s1)).2).toNat (w ((ix (s2.set ((ix t.2 (ix qp s1)).1).toNat (w ((ix s2 ((ix t.2 (ix qp s1)).1))+(1:Int)))) ((ix t.2 (ix qp s1)).2))+(1:Int))))
   else
    qq s2
def Lc (yh:qt) (qM:qt→Option qt):Nat→qt→Int→Option qt
 | 0,_,_=>none
 | m+1,di,G' =>
   if (decide (G'<(6:Int)))=true then
    qg (0≤G'∧G'<(6:Int)∧yh.length=6) <|
    qg ((2:Int)≠0) <|
    if (decide (((ix yh G').tmod (2:Int))=(1:Int)))=true then
     qg ((di.length:Int)=(di.length:Int)∧0≤(di.length:Int)∧(di.length:Int)≤(di.length:Int)) <|
     qg (((di.take (di.length:Int).toNat).length+1)*8≤140737488355328) <|
     Lc yh qM m ((di.take (di.length:Int).toNat)++[G']) (w (G'+(1:Int)))
    else
     Lc yh qM m di (w (G'+(1:Int)))
   else
    qM di
def MO (t:qn) (qp:qt):Option qt :=
 MP t qp (fun yh =>
   qg (yh.length=6) <|
   qg (yh.length=6) <|
   if (decide (yh=[(0:Int),(0:Int),(0:Int),(0:Int),(0:Int),(0:Int)]))=true then
    some []
   else
    qg (yh.length=6) <|
    Lc yh (fun oJ =>
      some oJ) qc ([]:List Int) (0:Int)) qc (0:Int) (List.replicate 6 (0:Int))
theorem alm {t:qn} {qp:qt} {qq:qt→Option qt} {s1:Int} {s2:qt} {v:qt} {Q:rf}   (r9:∀ (yh:qt) (p7:List I),qq yh=some v→qQ 66 [(5,(.ptr 0 0))] p7→Q (.exit 0) p7 [ar.cells (yh.map hW)]) {T:List I} (bX:e0 (qb false [0,1,4,1,5,3,52]) T=Hc 66 [(0,(.bU [(hW t.1),(p4 t.2 .shared)])),(5,(.ptr 0 0)),(11,(qJ qp .shared)),(12,(hW (qp.length:Int))),(13,(hW s1))]) (h:MP t qp qq qc s1 s2=some v) :
  dR Tryz.prog PA 76 0 none RD T [ar.cells (s2.map hW)] Q:=by
 unfold RD;refine wp_loop bX ?_;refine .intro (fun m T H=>∃ (s1:Int) (s2:qt),T=Hc 66 [(0,(.bU [(hW t.1),(p4 t.2 .shared)])),(5,(.ptr 0 0)),(11,(qJ qp .shared)),(12,(hW (qp.length:Int))),(13,(hW s1))]∧H=[ar.cells (s2.map hW)]∧MP t qp qq m s1 s2=some v) qc ⟨s1,s2,rfl,rfl,h⟩ ?_;clear h bX;rintro m T H ⟨s1,s2,rfl,rfl,h⟩;cases m
 ·exact rj h
 rename_i m;rw [MP.eq_2] at h;conv=>whnf
 refine bs h (fun gG h=>?_) fun gG h=>?_
 ·rw [gG];conv=>whnf
  refine qx h id fun gH h=>?_;rw [se hW qp s1 gH];conv=>whnf
  refine qx h id fun qs h=>?_;rw [qX p0 2 qv t.2 (ix qp s1) qs];conv=>whnf
  obtain ⟨qF,h⟩:=qC h;refine ⟨⟨qF.1,qF.2.1⟩,?_⟩;replace qF:0≤(ix t.2 (ix qp s1)).1∧(ix t.2 (ix qp s1)).1<(s2.length:Int):=⟨qF.1,by have:=qF.2;omega⟩;conv=>whnf
  refine QI hW s2 ((ix t.2 (ix qp s1)).1) qF ?_;conv=>whnf
  obtain ⟨qH,h⟩:=qC h;refine ⟨⟨qH.1,qH.2.1⟩,?_⟩;replace qH:0≤(ix t.2 (ix qp s1)).1∧(ix t.2 (ix qp s1)).1<(s2.length:Int):=⟨qH.1,by have:=qH.2;omega⟩;conv=>whnf
  refine Q2 hW s2 ((ix t.2 (ix qp s1)).1) (w ((ix s2 ((ix t.2 (ix qp s1)).1))+(1:Int))) qH ?_;conv=>whnf
  refine qx h id fun ra h=>?_;rw [qX p0 2 qv t.2 (ix qp s1) ra];conv=>whnf
  obtain ⟨q7,h⟩:=qC h;refine ⟨⟨q7.1,q7.2.1⟩,?_⟩;replace q7:0≤(ix t.2 (ix qp s1)).2∧(ix t.2 (ix qp s1)).2<((s2.set ((ix t.2 (ix qp s1)).1).toNat (w ((ix s2 ((ix t.2 (ix qp s1)).1))+(1:Int)))).length:Int):=⟨q7.1,by have:=q7.2;omega⟩;conv=>whnf
  refine QI hW (s2.set ((ix t.2 (ix qp s1)).1).toNat (w ((ix s2 ((ix t.2 (ix qp s1)).1))+(1:Int)))) ((ix t.2 (ix qp s1)).2) q7 ?_;conv=>whnf
  obtain ⟨q8,h⟩:=qC h;refine ⟨⟨q8.1,q8.2.1⟩,?_⟩;replace q8:0≤(ix t.2 (ix qp s1)).2∧(ix t.2 (ix qp s1)).2<((s2.set ((ix t.2 (ix qp s1)).1).toNat (w ((ix s2 ((ix t.2 (ix qp s1)).1))+(1:Int)))).length:Int):=⟨q8.1,by have:=q8.2;omega⟩;conv=>whnf
  refine Q2 hW (s2.set ((ix t.2 (ix qp s1)).1).toNat (w ((ix s2 ((ix t.2 (ix qp s1)).1))+(1:Int)))) ((ix t.2 (ix qp s1)).2) (w ((ix (s2.set ((ix t.2 (ix qp s1)).1).toNat (w ((ix s2 ((ix t.2 (ix qp s1)).1))+(1:Int)))) ((ix t.2 (ix qp s1)).2))+(1:Int))) q8 ?_;conv=>whnf
  exact ⟨m,sA m,(w (s1+(1:Int))),((s2.set ((ix t.2 (ix qp s1)).1).toNat (w ((ix s2 ((ix t.2 (ix qp s1)).1))+(1:Int)))).set ((ix t.2 (ix qp s1)).2).toNat (w ((ix (s2.set ((ix t.2 (ix qp s1)).1).toNat (w ((ix s2 ((ix t.2 (ix qp s1)).1))+(1:Int)))) ((ix t.2 (ix qp s1)).2))+(1:Int)))),rfl,rfl,h⟩
 ·rw [gG];conv=>whnf
  exact r9 _ _ h ⟨rfl,rfl⟩
theorem aln {yh:qt} {qM:qt→Option qt} {di:qt} {G':Int} {v:qt} {Q:rf} {bE:ar}  (Ie:∀ (oJ:qt) (p7:List I),qM oJ=some v→qQ 66 [(8,(qJ oJ (.uniq 1)))] p7→Q (.exit 2) p7 [bE]) {T:List I} (bX:e0 (qb false [8,1,38,2,17]) T=Hc 66 [(8,(qJ di (.uniq 1))),(47,(.agg ((yh.map hW)))),(48,(hW G'))]) (h:Lc yh qM qc di G'=some v) :
  dR Tryz.prog PA 76 0 none RE T [bE] Q:=by
 unfold RE;refine wp_loop bX ?_;refine .intro (fun m T H=>∃ (di:qt) (G':Int),T=Hc 66 [(8,(qJ di (.uniq 1))),(47,(.agg ((yh.map hW)))),(48,(hW G'))]∧H=[bE]∧Lc yh qM m di G'=some v) qc ⟨di,G',rfl,rfl,h⟩ ?_;clear h bX;rintro m T H ⟨di,G',rfl,rfl,h⟩;cases m
 ·exact rj h
 rename_i m;rw [Lc.eq_2] at h;conv=>whnf
 refine bs h (fun rD h=>?_) fun rD h=>?_
 ·rw [rD];conv=>whnf
  obtain ⟨HF,h⟩:=qC h;refine ⟨_,_,fun C=>ahn rfl (acs (e:=3) (len:=6) (kd:=.i64) (by kernel_rfl) (by kernel_rfl) (by kernel_rfl) (by kernel_rfl) HF.2.2 ⟨HF.1,HF.2.1⟩),?_⟩;conv=>whnf
  refine qx h id fun IK h=>?_;conv=>whnf
  refine bs h (fun HV h=>?_) fun HV h=>?_
  ·rw [HV];(conv=>whnf);refine qx h id fun Ix h=>?_;erw [Zq hW di (di.length:Int) Ix.2];(conv=>whnf);obtain ⟨sg,h⟩:=qC h;refine ⟨by first | rfl | simp,by have:=sg;omega,by decide,sg,by first | rfl | simp,?_⟩
   erw [Kx hW (di.take (di.length:Int).toNat) G'];(conv=>whnf);exact ⟨m,sA m,((di.take (di.length:Int).toNat)++[G']),(w (G'+(1:Int))),rfl,rfl,h⟩
  ·rw [HV];(conv=>whnf);exact ⟨m,sA m,di,(w (G'+(1:Int))),rfl,rfl,h⟩
 ·rw [rD];conv=>whnf
  exact Ie _ _ h ⟨rfl,rfl⟩
theorem VA {t:qn} {qp:qt} {v:qt} (h:MO t qp=some v):qB 76 [(.bU [(hW t.1),(.ax (t.2.flatMap p0) t.2.length .shared)]),(.ax (qp.map hW) qp.length .shared)] (.ax (v.map hW) v.length .shared):=by
 refine q5 et agV rfl (r7 (fun _=>rfl) _ _ _) fun Q bp=>?_;have jD:qR [.tmp 4] Q (fun v=>(qJ v .shared)) v:=fun T H bI=>bp _ T H bI;unfold MO at h;unfold acb;obtain ⟨II,q'⟩:∃ c,RD=c:=⟨_,rfl⟩;rw [q'];obtain ⟨L7,Hj⟩:∃ c,RE=c:=⟨_,rfl⟩;rw [Hj];conv=>whnf
 subst q';refine alm ?_ (by exact rfl) h;intro yh p7 h qe;obtain ⟨qG,rfl⟩:=qe.ex;conv=>whnf
 obtain ⟨rp,h⟩:=qC h;refine ⟨by simp [rp],?_⟩;rw [X_ hW yh (fun _=>rfl) rp];conv=>whnf
 obtain ⟨qP,h⟩:=qC h;refine ⟨_,_,fun C=>ahm rfl rfl (acr .i64 (e:=3) (len:=6) (kd:=.i64) (xs:=yh) (ys:=[(0:Int),(0:Int),(0:Int),(0:Int),(0:Int),(0:Int)]) (by kernel_rfl) (by kernel_rfl) (by kernel_rfl) (by kernel_rfl) qP rfl),?_⟩;conv=>whnf
 refine bs h (fun rq h=>?_) fun rq h=>?_
 ·rw [rq];conv=>whnf
  exact qi h jD rfl rfl
 ·rw [rq];conv=>whnf
  obtain ⟨rV,h⟩:=qC h;refine ⟨by simp [rV],?_⟩;rw [X_ hW yh (fun _=>rfl) rV];conv=>whnf
  subst Hj;refine aln ?_ (by exact rfl) h;intro oJ p7 h qe;obtain ⟨qG,rfl⟩:=qe.ex;conv=>whnf
  exact qi h jD rfl rfl

end Go.Proofs.YtfakoboiahbhaaaGreat.Ab


namespace Go.Proofs.YtfakoboiahbhaaaGreat.Ab
open Go
set_option maxRecDepth 20000
set_option maxHeartbeats 4000000
end Go.Proofs.YtfakoboiahbhaaaGreat.Ab


namespace Go.Proofs.YtfakoboiahbhaaaGreat.Ab
open Go
theorem aaj (n:Nat):(upto n).Pairwise (·<·):=by
 unfold upto;exact vl.2 (List.pairwise_lt_range.imp fun h=>Int.ofNat_lt.2 h)
section
variable {b t:p9}
def rF (b:p9) (S:List Int):List Int:=(upto 6).filter fun f=>decide (ru b S f % 2=1)
theorem Nr {S:List Int} {f:Int}:f∈rF b S↔(0≤f∧f<6)∧ru b S f % 2=1:=by
 unfold rF;rw [tc,HP,decide_eq_true_eq];rfl
theorem TE (S:List Int):(rF b S).Pairwise (·<·):=(aaj 6).filter _
theorem ahc {S S':List Int} (h:S.Perm S'):rF b S=rF b S':=by
 unfold rF;simp only [M_ h]
theorem aem (e:Int×Int) (v:Int):JR e v≤2:=by unfold JR;split <;> split <;> omega
theorem Xc (S:List Int) (v:Int):ru b S v≤2*S.length:=by
 induction S with
 | nil=>simp [L9]
 | cons i S a_=>rw [Ot,sV];have:=aem (ix b.2 i) v;omega
def L3 (S:List Int) (x:Int):List Int:=S.set x.toNat (w (ix S x+1))
theorem PG (S:List Int) (x:Int):(L3 S x).length=S.length:=by simp [L3]
theorem X6 {S:List Int} {x f:Int} (ak:0≤x∧x<(S.length:Int)) (aP:0≤f∧f<(S.length:Int)) (ai:0≤ix S x∧ix S x≤100000):ix (L3 S x) f=ix S f+if x=f then 1 else 0:=by
 obtain ⟨a,rfl⟩:∃ a:Nat,x=(a:Int):=⟨x.toNat,by omega⟩;obtain ⟨c,rfl⟩:∃ c:Nat,f=(c:Int):=⟨f.toNat,by omega⟩;unfold L3;rw [JH (by omega),tV];by_cases h:a=c
 ·subst h;rw [Mo (by omega),if_pos rfl]
 ·rw [K5 (Ne.symm h),if_neg (by omega),Int.add_zero]
structure KY (b:p9) (n:Nat) (H0 S:List Int):Prop where
 len:S.length=n
 val:∀ f:Int,0≤f→f<(n:Int)→ix S f=(ru b H0 f:Int)
theorem KY.step {n:Nat} {H0 S:List Int} {i:Int} (h:KY b n H0 S) (a3:H0.length≤1000) (ad:0≤(ix b.2 i).1∧(ix b.2 i).1<(n:Int)) (af:0≤(ix b.2 i).2∧(ix b.2 i).2<(n:Int)):KY b n (H0++[i]) (L3 (L3 S (ix b.2 i).1) (ix b.2 i).2):=by
 have ao:=h.len;have d_:=h.val _ ad.1 ad.2;have ame:=Xc (b:=b) H0 (ix b.2 i).1;have da:=h.val _ af.1 af.2;have amf:=Xc (b:=b) H0 (ix b.2 i).2;refine ⟨by rw [PG,PG,ao],fun f CV pw=>?_⟩;have e1:∀ f:Int,0≤f→f<(n:Int)→ix (L3 S (ix b.2 i).1) f=ix S f+if (ix b.2 i).1=f then 1 else 0:=fun f aC aI=>X6 ⟨ad.1,by omega⟩ ⟨aC,by omega⟩ ⟨by omega,by omega⟩;rw [X6 ⟨af.1,by rw [PG];omega⟩ ⟨CV,by rw [PG];omega⟩ (by rw [e1 _ af.1 af.2,da];split <;> omega),e1 f CV pw,h.val f CV pw,PJ,Ot,L9];unfold JR;split <;> split <;> omega
theorem KY.zero (n:Nat):KY b n [] (List.replicate n 0):=⟨by simp,fun f ad af=>by rw [Tu];rfl⟩
theorem abj (p5:qS t) {S:List Int} (cm:sa t S) (ao:S.length≤1000) {k:List Int→Option (List Int)}:∀ (m i:Nat) (z:Int) (C:List Int),z=i→i≤S.length→S.length-i<m→KY t 6 (S.take i) C →
  ∃ VN,KY t 6 S VN∧MP t S k m z C=k VN
 | 0,_,_,_,_,_,h,_=>absurd h (by omega)
 | m+1,i,_,C,rfl,hi,hm,H6=>by
   rw [MP];have bw:=H6.len;have bT:=p5.f6;by_cases h:(i:Int)<(S.length:Int)
   ·(have rn:i<S.length:=by omega);have nI:=cm _ (sU rn);have nE:=Qe (l:=t.2) (i:=S[i]) ⟨nI.1,nI.2⟩;have ad:=p5.left _ nE;have af:=p5.right _ nE;have cC:=H6.step (i:=S[i]) (by simp;omega) ⟨ad.1,by omega⟩ ⟨af.1,by omega⟩;rw [←LJ rn] at cC;rw [if_pos (decide_eq_true h),qz ⟨by omega,h⟩,ry rn,qz nI,qz ⟨ad.1,by omega,bw.symm⟩,qz ⟨ad.1,by omega,bw.symm⟩,qz nI,qz ⟨af.1,by omega,by simp [bw]⟩,qz ⟨af.1,by omega,by simp [bw]⟩,sm i (by omega)];exact abj p5 cm ao m (i+1) _ _ rfl (by omega) (by omega) cC
   ·rw [if_neg (by simpa using h)]
    have:i=S.length:=by omega
    subst this;rw [tU] at H6;exact ⟨C,H6,rfl⟩
theorem Z8 (n:Nat):((n:Int).tmod 2=1)↔n % 2=1:=by
 rw [Int.tmod_eq_emod_of_nonneg (by omega)];omega
theorem aai (q:Int→Bool) (i:Nat):(upto (i+1)).filter q=(upto i).filter q++if q (i:Int) then [(i:Int)] else []:=by
 rw [NU,uy,tx,List.filter_nil]
theorem Vz {S C:List Int} (H6:KY t 6 S C) {k:List Int→Option (List Int)}:∀ (m i:Nat) (z:Int),z=i→i≤6→6-i<m →
  Lc C k m ((upto i).filter fun f=>decide (ru t S f % 2=1)) z=k (rF t S)
 | 0,_,_,_,_,h=>absurd h (by omega)
 | m+1,i,_,rfl,hi,hm=>by
   rw [Lc];have ao:((upto i).filter fun f=>decide (ru t S f % 2=1)).length≤6:=tb (tW _ _) (by rw [r_];exact hi);by_cases h:(i:Int)<6
   ·rw [if_pos (decide_eq_true h),qz ⟨by omega,h,H6.len⟩,qz (by decide),H6.val i (by omega) h];by_cases aq:ru t S (i:Int) % 2=1
    ·rw [if_pos (decide_eq_true ((Z8 _).2 aq)),qz ⟨rfl,by omega,by omega⟩,tV,tU,qz (by omega),sm i (by omega)];have ai:=aai (fun f=>decide (ru t S f % 2=1)) i;rw [if_pos (decide_eq_true aq)] at ai;rw [←ai];exact Vz H6 m (i+1) _ rfl (by omega) (by omega)
    ·rw [if_neg (by simpa [Z8] using aq),sm i (by omega)];have ai:=aai (fun f=>decide (ru t S f % 2=1)) i;rw [if_neg (by simpa using aq),sW] at ai;rw [←ai];exact Vz H6 m (i+1) _ rfl (by omega) (by omega)
   ·rw [if_neg (by simpa using h)]
    have:i=6:=by omega
    subst this;rfl
theorem abi (p5:qS t) {S:List Int} (cm:sa t S) (ao:S.length≤1000):MO t S=some (rF t S):=by
 rw [MO]
 obtain ⟨C,H6,aj⟩:=abj p5 cm ao (k:=fun yh =>
   qg (yh.length=6) <|
   qg (yh.length=6) <|
   if (decide (yh=[(0:Int),(0:Int),(0:Int),(0:Int),(0:Int),(0:Int)]))=true then
    some []
   else
    qg (yh.length=6) <|
    Lc yh (fun oJ =>
      some oJ) qc ([]:List Int) (0:Int)) qc 0 0 _ rfl (by omega) (r6 (by omega)) (by rw [tD];exact KY.zero 6)
 rw [aj,qz H6.len,qz H6.len];split
 ·rename_i h;have h:=of_decide_eq_true h;congr 1
  symm
  refine wO.2 fun f aP=>?_;have aP:=HP.1 aP;have ae:=H6.val f aP.1 aP.2;have e:C=List.replicate 6 (0:Int):=h;rw [e,Tu] at ae
  have:ru t S f=0:=by omega
  simp [this]
 ·rw [qz H6.len];exact Vz H6 qc 0 0 rfl (by omega) (r6 (by omega))
theorem abk (ag:t.2.length≤1000) {k:List Int→Option (List Int)}:∀ (m i:Nat) (z:Int),z=i→i≤t.2.length→t.2.length-i<m→MQ t k m (upto i) z=k (upto t.2.length)
 | 0,_,_,_,_,h=>absurd h (by omega)
 | m+1,i,_,rfl,hi,hm=>by
   rw [MQ];by_cases h:(i:Int)<(t.2.length:Int)
   ·rw [if_pos (decide_eq_true h),qz (by rw [r_];omega),sm i (by omega),←NU];exact abk ag m (i+1) _ rfl (by omega) (by omega)
   ·rw [if_neg (by simpa using h),show i=t.2.length by omega]
theorem alo (ag:t.2.length≤1000):Rb t=some (upto t.2.length):=abk ag qc 0 0 rfl (by omega) (r6 (by omega))
def JF (b:p9):List Int:=rF b (upto b.2.length)
end
end Go.Proofs.YtfakoboiahbhaaaGreat.Ab


namespace Go.Proofs.YtfakoboiahbhaaaGreat.Ab
open Go
theorem QY {α:Type} [BEq α] [LawfulBEq α]:∀ (a b:List α),a.Nodup→(∀ x∈a,x∈b)→a.length≤b.length
 | [],_,_,_=>sP _
 | x::a,b,aN,h=>by
   obtain ⟨ad,af⟩:=uz.1 aN;have ak:=h x (by simp);have:=QY a (b.erase x) af fun y aZ=>by
    have bO:y≠x:=fun e=>ad (e ▸ aZ);exact (List.mem_erase_of_ne bO).2 (h y (by simp [aZ]))
   rw [List.length_erase_of_mem ak] at this;have:=List.length_pos_of_mem ak;simp only [sV];omega
section
variable {b t:p9}
structure RowsOf (b:p9) (S:List Int) (R:List Row):Prop where
 ok:∀ r∈R,∀ p∈r,Hx b p
 go:∀ r∈R,∃ a c,qN b a r=some c
 all:((R.flatten).map (·.1)).Perm S
theorem RowsOf.app {S S':List Int} {R M3:List Row} (h:RowsOf b S R) (aY:RowsOf b S' M3):RowsOf b (S++S') (R++M3):=by
 refine ⟨fun r aj=>?_,fun r aj=>?_,?_⟩
 ·rcases ti.1 aj with aj | aj
  ·exact h.ok r aj
  ·exact aY.ok r aj
 ·rcases ti.1 aj with aj | aj
  ·exact h.go r aj
  ·exact aY.go r aj
 ·rw [vJ,tj];exact h.all.append aY.all
theorem RowsOf.nil:RowsOf b [] []:=⟨fun r aj=>absurd aj (by simp),fun r aj=>absurd aj (by simp),by simp⟩
def Ou (b:p9):Row→List Int
 | []=>[]
 | p::r=>[qE b p,(qN b (qE b p) (p::r)).getD 0]
theorem aes {r:Row} {a c v:Int} (h:qN b a r=some c) (aq:ru b (r.map (·.1)) v % 2=1):v∈Ou b r:=by
 cases r with
 | nil=>simp [L9] at aq
 | cons p r =>
   have ag:=(Jh.1 h).1;have aB:=NN _ _ _ v h;show v∈[qE b p,(qN b (qE b p) (p::r)).getD 0];rw [ag,h];simp only [Option.getD_some,sL,List.not_mem_nil,or_false];by_cases ad:a=v
   ·exact .inl ad.symm
   ·by_cases af:c=v
    ·exact .inr af.symm
    ·rw [if_neg ad,if_neg af] at aB;omega
theorem Xb (v:Int):∀ (R:List Row),ru b ((R.flatten).map (·.1)) v % 2=1→∃ r∈R,ru b (r.map (·.1)) v % 2=1
 | [],h=>by simp [L9] at h
 | r::R,h=>by
   rw [tO,tj,PJ] at h;by_cases ad:ru b (r.map (·.1)) v % 2=1
   ·exact ⟨r,by simp,ad⟩
   ·obtain ⟨q,a0,af⟩:=Xb v R (by omega);exact ⟨q,by simp [a0],af⟩
theorem Xd:∀ (R:List Row),(R.flatMap (Ou b)).length≤2*(R.filter fun r=>!r.isEmpty).length
 | []=>by simp
 | r::R=>by
   have a_:=Xd R;rw [uo,sC,tx];cases r with
   | nil=>simpa [Ou] using a_
   | cons p r =>
     rw [if_pos (by simp)];simp only [Ou,sV,uV] at *;omega
theorem RowsOf.few {S:List Int} {R:List Row} (h:RowsOf b S R):(rF b S).length≤2*(R.filter fun r=>!r.isEmpty).length:=by
 refine tb (QY _ (R.flatMap (Ou b)) ((TE S).imp fun h e=>by omega) fun v ae=>?_) (Xd R);have ae:=(Nr.1 ae).2;rw [←M_ h.all] at ae;obtain ⟨r,aj,ad⟩:=Xb v R ae;obtain ⟨a,c,HH⟩:=h.go r aj;exact List.mem_flatMap.2 ⟨r,aj,aes HH ad⟩
def Jt (l:List (Int×Int)) (v:Int):Nat:=(l.map fun e=>JR e v).sum
theorem aeo (e:Int×Int) (l:List (Int×Int)) (v:Int):Jt (e::l) v=JR e v+Jt l v:=by simp [Jt]
theorem aen (l l':List (Int×Int)) (v:Int):Jt (l++l') v=Jt l v+Jt l' v:=by simp [Jt]
theorem Xa (S:List Int) (v:Int):ru b S v=Jt (S.map (ix b.2)) v:=by
 unfold ru Jt;rw [uE];rfl
theorem Yt {α:Type} [Inhabited α] (l:List α):(upto l.length).map (ix l)=l:=by
 refine List.ext_getElem (by simp [r_]) fun i ad af=>?_;simp only [upto,vD,List.getElem_range];exact ry af
theorem aep (v:Int):ru b (upto b.2.length) v=Jt b.2 v:=by rw [Xa,Yt]
def HQ:List Int→List (Int×Int)
 | x::y::r=>(x,y)::HQ r
 | _=>[]
theorem Z6:∀ (l:List Int),(HQ l).length=l.length / 2
 | []=>rfl
 | [_]=>by simp [HQ]
 | x::y::r=>by simp only [HQ,sV,Z6 r];omega
theorem Z5:∀ (l:List Int) (v:Int),l.Nodup→l.length % 2=0→Jt (HQ l) v=if v∈l then 1 else 0
 | [],v,_,_=>by simp [HQ,Jt]
 | [_],_,_,h=>by simp at h
 | x::y::r,v,aN,h=>by
   obtain ⟨ad,af⟩:=uz.1 aN;obtain ⟨aG,a6⟩:=uz.1 af;have a_:=Z5 r v a6 (by simp only [sV] at h;omega);rw [HQ,aeo,a_];unfold JR;have I4:x≠y:=fun e=>ad (by simp [e]);by_cases e1:v=x
   ·subst e1
    have:v ∉ r:=fun hm=>ad (by simp [hm])
    simp [this,Ne.symm I4]
   ·by_cases ca:v=y
    ·subst ca;simp [aG,I4]
    ·simp [e1,ca,Ne.symm e1,Ne.symm ca]
theorem Z7:∀ (l:List Int) (e:Int×Int),e∈HQ l→e.1∈l∧e.2∈l
 | [],e,h=>by simp [HQ] at h
 | [_],e,h=>by simp [HQ] at h
 | x::y::r,e,h=>by
   rw [HQ] at h;rcases sL.1 h with rfl | h
   ·simp
   ·have:=Z7 r e h;exact ⟨by simp [this.1],by simp [this.2]⟩
theorem ai8:∀ (n:Nat) (S:List Int),(∀ i∈S,0≤(ix b.2 i).1∧(ix b.2 i).1<(n:Int)∧0≤(ix b.2 i).2∧(ix b.2 i).2<(n:Int))→((upto n).map fun v=>ru b S v).sum=2*S.length:=by
 have one:∀ (x:Int) (n:Nat),((upto n).map fun v=>if x=v then 1 else 0).sum=if 0≤x∧x<(n:Int) then 1 else 0:=by
  intro x n
  induction n with
  | zero=>rw [if_neg (by omega)];rfl
  | succ n a_ =>
    rw [NU,tj,List.sum_append,a_];simp only [sG,tL,tX,List.sum_nil];split <;> split <;> split <;> omega
 have add:∀ (l:List Int) (f g:Int→Nat),(l.map fun v=>f v+g v).sum=(l.map f).sum+(l.map g).sum:=by
  intro l f g
  induction l with
  | nil=>rfl
  | cons x l a_=>simp only [sG,tX,a_];omega
 intro n S h
 induction S with
 | nil =>
   have:∀ l:List Int,(l.map fun v=>ru b [] v).sum=0:=fun l=>by
    induction l with
    | nil=>rfl
    | cons x l a_=>rw [sG,tX,a_,L9]
   exact this _
 | cons i S a_ =>
   have hi:=h i (by simp);simp only [Ot];rw [add,a_ fun j aw=>h j (by simp [aw])];unfold JR;rw [add,one,one,if_pos ⟨hi.1,hi.2.1⟩,if_pos ⟨hi.2.2.1,hi.2.2.2⟩,sV];omega
theorem Qm (p5:qS b) {S:List Int} (cm:sa b S):(rF b S).length % 2=0:=by
 have bT:=p5.f6;have ai:=ai8 (b:=b) 6 S fun i hi=>by
  have hm:=Qe (l:=b.2) (i:=i) (cm i hi);have ad:=p5.left _ hm;have af:=p5.right _ hm;exact ⟨ad.1,by omega,af.1,by omega⟩
 have key:∀ l:List Int,(l.filter fun f=>decide (ru b S f % 2=1)).length % 2=(l.map fun v=>ru b S v).sum % 2:=by
  intro l
  induction l with
  | nil=>rfl
  | cons x l a_ =>
    rw [tx,sG,tX];split
    ·rename_i h;have h:=of_decide_eq_true h;rw [sV];omega
    ·rename_i h;(have h:¬ ru b S x % 2=1:=by simpa using h);omega
 unfold rF;rw [key,ai];omega
def sh (b:p9) (S:List Int):p9:=(b.1,S.map (ix b.2)++HQ (rF b S))
theorem NQ (S:List Int):(sh b S).2.length=S.length+(rF b S).length / 2:=by
 unfold sh;simp [Z6]
theorem Pb {S:List Int} {i:Nat} (h:i<S.length):ix (sh b S).2 (i:Int)=ix b.2 S[i]:=by
 have aG:i<(S.map (ix b.2)++HQ (rF b S)).length:=by simp;omega
 show ix (S.map (ix b.2)++HQ (rF b S)) (i:Int)=_;rw [ry aG,List.getElem_append_left (by simpa using h),vD]
theorem ajr {S:List Int} {i:Nat} (h:S.length≤i) (af:i<(sh b S).2.length):ix (sh b S).2 (i:Int)∈HQ (rF b S):=by
 have aG:i<(S.map (ix b.2)++HQ (rF b S)).length:=af;show ix (S.map (ix b.2)++HQ (rF b S)) (i:Int)∈_;rw [ry aG,List.getElem_append_right (by simpa using h)];exact sU _
theorem ajq (p5:qS b) {S:List Int} (cm:sa b S) (v:Int):ru (sh b S) (upto (sh b S).2.length) v % 2=0:=by
 rw [aep];show Jt (S.map (ix b.2)++HQ (rF b S)) v % 2=0;rw [aen,←Xa,Z5 _ _ ((TE S).imp fun h e=>by omega) (Qm p5 cm)];split
 ·rename_i h;have:=(Nr.1 h).2;omega
 ·rename_i h;have bT:=p5.f6;refine Classical.byContradiction fun aN=>h (Nr.2 ⟨?_,by omega⟩)
  have:ru b S v≠0:=fun e=>by rw [e] at aN;exact aN rfl
  refine Classical.byContradiction fun ae=>this (Sm.2 fun i hi nE=>?_);have:=PL p5 (HP.2 (cm i hi)) nE;omega
theorem ZQ {S:List Int} {f g:Int} (h:rT b S f g):rT (sh b S) (upto (sh b S).2.length) f g:=by
 induction h with
 | refl=>exact .refl
 | step i _ hi aC aI a_ =>
   obtain ⟨k,av,e⟩:=uH hi;have ao:=NQ (b:=b) S;refine .step (k:Int) a_ (HP.2 ⟨by omega,by omega⟩) ?_ ?_
   ·unfold rb at aC ⊢;rw [Pb av,e];exact aC
   ·unfold rb at aI ⊢;rw [Pb av,e];exact aI
theorem round_part (p5:qS b) {S:List Int} (cm:sa b S) (ao:S.length≤990) (aV:S≠[]) (al:∀ x∈S,∀ y∈S,∀ f g,rb b x f→rb b y g→rT b S f g) :
  ∃ l a,Mw (sh b S)=some l∧Full (sh b S) l∧qN (sh b S) a l=some a:=by
 have hlen:=NQ (b:=b) S;have Mk:0<S.length:=tS.2 aV;have aq:(rF b S).length≤6:=tb (tW _ _) (by rw [r_];omega);have f':ix (sh b S).2 0=ix b.2 S[0]:=Pb (i:=0) Mk;obtain ⟨l,ad,af,aG⟩:=aki (t:=sh b S) (ajq p5 cm) (by omega) (by omega) fun i hi=>by
  by_cases XT:i<S.length
  ·refine ⟨(ix b.2 S[i]).1,.inl (by rw [Pb XT]),?_⟩;rw [f'];exact ZQ (al _ (sU _) _ (sU XT) _ _ (.inl rfl) (.inl rfl))
  ·have hm:=ajr (b:=b) (S:=S) (by omega) hi;refine ⟨(ix (sh b S).2 (i:Int)).1,.inl rfl,?_⟩;have JA:=(Nr.1 (Z7 _ _ hm).1).2
   have:¬ ∀ x∈S,¬ rb b x (ix (sh b S).2 (i:Int)).1:=fun aN=>by
    rw [Sm.2 aN] at JA;simp at JA
   have:∃ x∈S,rb b x (ix (sh b S).2 (i:Int)).1:=Classical.byContradiction fun aN=>this fun x ak aP=>aN ⟨x,ak,aP⟩
   obtain ⟨x,ak,aP⟩:=this;rw [f'];exact ZQ (al _ (sU Mk) x ak _ _ (.inl rfl) aP)
 exact ⟨l,_,ad,af,aG⟩
theorem rE.aef {S:List Int} {out:List (List Int)} (h:rE b S out) {r:List Int} (aj:r∈out):∀ x∈r,∀ y∈r,∀ f g,rb b x f→rb b y g→rT b r f g:=by
 intro x ak y aZ f g aP aO;have al:=h.Js r aj x ak y aZ f g aP aO;clear aO
 induction al with
 | refl=>exact .refl
 | step i px hi aC aI a_=>exact .step i a_ (h.closed aj ak aP px i hi aC) aC aI
end
end Go.Proofs.YtfakoboiahbhaaaGreat.Ab


namespace Go.Proofs.YtfakoboiahbhaaaGreat.Ab
open Go
def sc (S:List Int):Row→Row→List Row
 | own,[]=>if 0<own.length then [own] else []
 | own,p::r=>if p.1<(S.length:Int) then sc S (own++[(ix S p.1,p.2)]) r else own::sc S [] r
section
variable {b:p9} {S:List Int}
theorem Zv:∀ (m l:Row) (own:Row),(∀ p∈m,p.1<(S.length:Int))→sc S own (m++l)=sc S (own++m.map fun p=>(ix S p.1,p.2)) l
 | [],l,own,_=>by simp
 | p::m,l,own,h=>by
   rw [uK,sc,if_pos (h p (by simp)),Zv m l _ fun q a0=>h q (by simp [a0])];simp
theorem adG {p:Int×Int} (ad:0≤p.1) (af:p.1<(S.length:Int)):qE (sh b S) p=qE b (ix S p.1,p.2)∧fin (sh b S) p=fin b (ix S p.1,p.2):=by
 obtain ⟨i,hi⟩:∃ i:Nat,p.1=(i:Int):=⟨p.1.toNat,by omega⟩;unfold qE fin;rw [hi,Pb (by omega),ry (by omega)];exact ⟨rfl,rfl⟩
theorem QW (cm:sa b S):∀ (l own:Row),(∀ p∈own,Hx b p)→(∀ p∈l,Hx (sh b S) p)→∀ r∈sc S own l,∀ p∈r,Hx b p
 | [],own,ad,_=>by
   rw [sc];split
   ·intro r aj;rw [ta.1 aj];exact ad
   ·intro r aj;simp at aj
 | q::l,own,ad,af=>by
   rw [sc];have a0:=af q (by simp);split
   ·rename_i aS;refine QW cm l _ (fun p aB=>?_) fun p aB=>af p (by simp [aB]);rcases ti.1 aB with aB | aB
    ·exact ad p aB
    ·rw [ta.1 aB];have hm:ix S q.1∈S:=by
      obtain ⟨i,hi⟩:∃ i:Nat,q.1=(i:Int):=⟨q.1.toNat,by have:=a0.1;omega⟩;rw [hi,ry (by omega)];exact sU _
     exact ⟨(cm _ hm).1,(cm _ hm).2,a0.2.2.1,a0.2.2.2⟩
   ·intro r aj;rcases sL.1 aj with rfl | aj
    ·exact ad
    ·exact QW cm l [] (fun p aB=>absurd aB (by simp)) (fun p aB=>af p (by simp [aB])) r aj
theorem QV:∀ (l own:Row) (ju a e:Int),qN b ju own=some a→qN (sh b S) a l=some e→(∀ p∈l,Hx (sh b S) p)→∀ r∈sc S own l,∃ a c,qN b a r=some c
 | [],own,ju,a,e,ad,_,_=>by
   rw [sc];split
   ·intro r aj;rw [ta.1 aj];exact ⟨_,_,ad⟩
   ·intro r aj;simp at aj
 | q::l,own,ju,a,e,ad,af,aG=>by
   rw [sc];obtain ⟨cb,b6⟩:=Jh.1 af;have a0:=aG q (by simp);split
   ·rename_i aS;obtain ⟨bq,cI⟩:=adG (b:=b) a0.1 aS;refine QV l _ ju (fin (sh b S) q) e ?_ b6 fun p aB=>aG p (by simp [aB]);rw [JG,ad,sx];exact Kh.2 ⟨by rw [←bq];exact cb,cI.symm⟩
   ·intro r aj;rcases sL.1 aj with rfl | aj
    ·exact ⟨_,_,ad⟩
    ·exact QV l [] _ _ e rfl b6 (fun p aB=>aG p (by simp [aB])) r aj
def Hw (S:List Int) (p:Int×Int):Bool:=decide (p.1<(S.length:Int))
theorem QU:∀ (l own:Row),(sc S own l).flatten.map (·.1)=own.map (·.1)++(l.filter (Hw S)).map fun p=>ix S p.1
 | [],own=>by
   rw [sc];split
   ·simp
   ·have:own=[]:=tu.1 (by omega)
    simp [this]
 | q::l,own=>by
   rw [sc,tx];split
   ·rename_i h;have aY:Hw S q=true:=decide_eq_true h;rw [QU l,if_pos aY];simp
   ·rename_i h;(have aY:¬ Hw S q=true:=by simpa [Hw] using h);rw [tO,tj,QU l,if_neg aY];simp
theorem U_ {q:Int×Int} (a0:Hw S q=false):∀ (m own:Row),(sc S own (m++[q])).length=(m.filter fun p=>!Hw S p).length+1
 | [],own=>by
   have:¬ q.1<(S.length:Int):=by simpa [Hw] using a0
   rw [t_,sc,if_neg this];simp [sc]
 | p::m,own=>by
   rw [uK,sc,tx];split
   ·rename_i h;have aY:Hw S p=true:=decide_eq_true h;rw [U_ a0 m,aY];simp
   ·rename_i h;(have aY:Hw S p=false:=by simpa [Hw] using h);rw [sV,U_ a0 m,aY];simp
theorem TK {α:Type} (p:α→Bool):∀ (l:List α) (i:Nat),(posOf p l i=-1∧∀ x∈l,p x=false)∨∃ dL q kV,l=dL++q::kV∧p q=true∧posOf p l i=((i+dL.length:Nat):Int)
 | [],i=>.inl ⟨rfl,fun x ak=>by simp at ak⟩
 | x::l,i=>by
   rw [posOf];by_cases h:p x=true
   ·rw [if_pos h];exact .inr ⟨[],x,l,rfl,h,rfl⟩
   ·rw [if_neg h];rcases TK p l (i+1) with ⟨ad,af⟩ | ⟨dL,q,kV,rfl,af,aG⟩
    ·refine .inl ⟨ad,fun y aZ=>?_⟩;rcases sL.1 aZ with rfl | aZ
     ·simpa using h
     ·exact af y aZ
    ·refine .inr ⟨x::dL,q,kV,rfl,af,?_⟩;rw [aG,sV];congr 1;omega
theorem Full.perm {t:p9} {l l':Row} (h:Full t l) (aB:l'.Perm l):Full t l' :=
 ⟨fun p P_=>h.ok p (aB.mem_iff.1 P_),(aB.map _).nodup_iff.2 h.sq,fun i hi=>(aB.map (·.1)).mem_iff.2 (h.all i hi)⟩
theorem Full.upto {t:p9} {l:Row} (h:Full t l):(l.map (·.1)).Perm (upto t.2.length):=by
 refine (uR h.sq (IQ _)).2 fun x=>?_;rw [HP];constructor
 ·intro ak;obtain ⟨p,aB,rfl⟩:=sM.1 ak;have:=h.ok p aB;exact ⟨this.1,this.2.1⟩
 ·rintro ⟨ad,af⟩;obtain ⟨i,rfl⟩:∃ i:Nat,x=(i:Int):=⟨x.toNat,by omega⟩;exact h.all i (by omega)
theorem Full.own {l:Row} (h:Full (sh b S) l):((l.filter (Hw S)).map fun p=>ix S p.1).Perm S:=by
 have ad:((l.filter (Hw S)).map (·.1)).Perm (Ab.upto S.length):=by
  refine (uR ((List.filter_sublist.map _).nodup h.sq) (IQ _)).2 fun x=>?_;rw [HP,sM];constructor
  ·rintro ⟨p,aB,rfl⟩;rw [tc] at aB;exact ⟨(h.ok p aB.1).1,by simpa [Hw] using aB.2⟩
  ·rintro ⟨ad,af⟩;have hm:x∈l.map (·.1):=h.upto.mem_iff.2 (HP.2 ⟨ad,by rw [NQ];omega⟩);obtain ⟨p,aB,rfl⟩:=sM.1 hm;exact ⟨p,tc.2 ⟨aB,decide_eq_true af⟩,rfl⟩
 have af:=ad.map (ix S);rw [Yt,uE] at af;exact af
theorem Xj {α:Type} (q:α→Bool):∀ l:List α,l.length=(l.filter q).length+(l.filter fun x=>!q x).length
 | []=>rfl
 | x::l=>by
   rw [tx,tx,sV,Xj q l];cases q x <;> simp <;> omega
theorem Full.threads {l:Row} (h:Full (sh b S) l):(l.filter fun p=>!Hw S p).length=(rF b S).length / 2:=by
 have ad:=h.upto.length_eq;have af:=h.own.length_eq;rw [td] at ad af;rw [r_,NQ] at ad;have aG:=Xj (Hw S) l;omega
def KP (S:List Int) (l:Row):Row:=let c:=posOf (fun p=>!Hw S p) l 0;if 0≤c then l.drop (c+1).toNat++l.take (c+1).toNat else l
theorem aiH (l:Row):(KP S l=l∧∀ p∈l,Hw S p=true)∨∃ dL q kV,l=dL++q::kV∧Hw S q=false∧KP S l=(kV++dL)++[q]:=by
 unfold KP;rcases TK (fun p=>!Hw S p) l 0 with ⟨ad,af⟩ | ⟨dL,q,kV,rfl,af,aG⟩
 ·left;rw [ad];exact ⟨rfl,fun p aB=>by simpa using af p aB⟩
 ·right;refine ⟨dL,q,kV,rfl,by simpa using af,?_⟩;rw [aG];simp only [tg];rw [if_pos (by omega),show ((dL.length:Int)+1).toNat=dL.length+1 by omega];have e:dL++q::kV=(dL++[q])++kV:=by simp
  rw [e,List.drop_left' (by simp),List.take_left' (by simp),sH]
structure VR (b:p9) (S:List Int) (R:List Row):Prop extends RowsOf b S R where
 ne:∀ r∈R,r≠[]
 len:R.length=max 1 ((rF b S).length / 2)
theorem YF (p5:qS b) (cm:sa b S) (aV:S≠[]) {l:Row} {a:Int} (bF:Full (sh b S) l) (aO:qN (sh b S) a l=some a):VR b S (sc S [] (KP S l)):=by
 have Mk:0<S.length:=tS.2 aV;have Tn:=bF.threads;have mc:=Qm p5 cm;rcases aiH (S:=S) l with ⟨ad,af⟩ | ⟨dL,q,kV,rfl,af,aG⟩
 ·rw [ad];have jD:RowsOf b S (sc S [] l):=⟨QW cm l [] (fun p aB=>absurd aB (by simp)) bF.ok,QV l [] a a a rfl aO bF.ok,by rw [QU];simpa using bF.own⟩;have e:(l.filter fun p=>!Hw S p)=[]:=wO.2 fun p aB=>by simp [af p aB]
  rw [e] at Tn;simp only [uV] at Tn;have ao:0<l.length:=by
   have:=bF.upto.length_eq;rw [td,r_,NQ] at this;omega
  have ai:sc S [] l=[l.map fun p=>(ix S p.1,p.2)]:=by
   have:=Zv (S:=S) l [] [] fun p aB=>of_decide_eq_true (af p aB);rw [sW,t_] at this;rw [this,sc,if_pos (by simpa using ao)]
  refine ⟨jD,fun r aj=>?_,?_⟩
  ·rw [ai] at aj;rw [ta.1 aj];intro e;have:=congrArg List.length e;simp at this;rw [this] at ao;simp at ao
  ·rw [ai,←Tn];rfl
 ·rw [aG];have JB:(kV++dL++[q]).Perm (dL++q::kV):=by
   rw [show dL++q::kV=(dL++[q])++kV by simp,sH];exact wb
  have PX:=bF.perm JB;have Tf:∃ aM,qN (sh b S) aM (kV++dL++[q])=some aM:=by
   rw [show dL++q::kV=(dL++[q])++kV by simp,JG] at aO;obtain ⟨c,cb,b6⟩:=qm aO;refine ⟨c,?_⟩;rw [sH,JG,b6];exact cb
  obtain ⟨aM,Tf⟩:=Tf;have jD:RowsOf b S (sc S [] (kV++dL++[q])):=⟨QW cm _ [] (fun p aB=>absurd aB (by simp)) PX.ok,QV _ [] aM aM aM rfl Tf PX.ok,by rw [QU];simpa using PX.own⟩;have afN:=PX.threads;rw [uy,sC] at afN;have afG:([q].filter fun p=>!Hw S p).length=1:=by simp [af]
  have hlen:=U_ af (kV++dL) [];have XO:=jD.few;have hle:=tW (fun r:Row=>!r.isEmpty) (sc S [] (kV++dL++[q]));refine ⟨jD,fun r aj=>?_,by omega⟩;have heq:((sc S [] (kV++dL++[q])).filter fun r=>!r.isEmpty).length=(sc S [] (kV++dL++[q])).length:=by omega
  have:=List.length_filter_eq_length_iff.1 heq r aj;intro e;rw [e] at this;simp at this
end
end Go.Proofs.YtfakoboiahbhaaaGreat.Ab


namespace Go.Proofs.YtfakoboiahbhaaaGreat.Ab
open Go
set_option maxRecDepth 20000
set_option maxHeartbeats 4000000
theorem Rel.TA {J:List Nat} {S:Nat→Nat→Prop} {w:World} {cells:List I} {v:Value} (h:Rel J S w (.bU cells) v):Rel J S w (.bU (cells.map I.g0)) v:=by
 cases h with
 | bU _ b o f k eX =>
   refine .bU _ b o f (fun j u aw=>?_) (fun j u aw=>?_)
   ·rw [sN] at aw;simp only [su] at aw;obtain ⟨x,ak,rfl⟩:=aw;obtain ⟨aC,aI,aR,bl⟩:=k j x ak;exact ⟨aC,aI,yA aR,bl⟩
   ·rw [sN] at aw;simp only [su] at aw;obtain ⟨x,ak,rfl⟩:=aw;exact (eX j x ak).g0
theorem lE.TA {P:Program} {k:FuncId} {cs:List I} {v:I} (h:lE P k [.bU (cs.map I.g0)] v):lE P k [.bU cs] v :=
 ⟨⟨h.1.1,h.1.2.1,fun B U J S w vs ah aN ae=>h.1.2.2 B U J S w vs ah aN ⟨by simpa using ae.len,fun i u x hu ak=>by
   cases i with
   | zero =>
     obtain rfl:=Option.some.inj hu;exact (ae.rel 0 _ x rfl ak).TA
   | succ i=>simp at hu,fun i u x hu ak=>by
   cases i with
   | zero=>obtain rfl:=Option.some.inj hu;exact aW.b4 rfl
   | succ i=>simp at hu⟩⟩,h.2⟩
theorem call7 {P:Program} {k:FuncId} {H:List ar} {lo id:Nat} {l cs:List I} {v:I} (bC:lo≤id) (ah:H[id]?=some (.cells l)) (al:l.map I.view=cs) (aB:cj 8 (.bU cs)=true) {ds:List I} (a3:cs.map I.g0=ds) (h:lE P k [.bU ds] v):oL P 7 lo (.fn k) [.ptr id 0] H v.cr (H.set id .dead):=by
 have h:lE P k [.bU cs] v:=lE.TA (by rw [a3];exact h);refine ⟨_,Ew (Zj (by simp [aB]) h []),?_⟩;simp only [e3,bC,if_true,ah,al,aB];show ((k2 (.fn k) [.bU cs] [] 0 v []) (.fn k) [.bU cs] [] 0).bind _=_;rw [Ev,sx];show (bJ [] 0 0 0 8 v).map _=_;rw [o' h.2];rfl
theorem aeL:((List.range 24).all fun n=>match QM [] 129 [.ax [] 0 .full,.int .i64 ((n+1:Nat):Int)] with | some v=>I_ 3 v (.ax [] 0 (.own 2)) | none=>false)=true:=by kernel_rfl
def Vp (s:List (Int×Int)) (n:Int):Option (List (Int×Int)):=qg (s=[]∧0<n∧n≤24) (some s)
theorem akt {s v:List (Int×Int)} {n:Int} (h:Vp s n=some v):qB 129 [.ax [] 0 .full,hW n] (.ax (v.flatMap p0) v.length (.own 2)):=by
 obtain ⟨⟨rfl,aV,ad⟩,h⟩:=qC h;obtain rfl:=Option.some.inj h;obtain ⟨k,rfl⟩:∃ k:Nat,n=((k+1:Nat):Int):=⟨n.toNat-1,by omega⟩;have:=sR.1 aeL k (sX.2 (by omega));split at this
 ·rename_i v ae;rw [M7 _ _ _ this] at ae;exact Hp (l:=[]) (by simp) ae
 ·cases this

noncomputable def abB:fW :=
 pZ [GC 2 [.jh 0] .box,GC 3 [.lT (.bool false)] .mP] (pZ [qW 4 2 0,qo 5 4,qo 6 1,qI 7 6,qT 8 5 7 .geq,pY 3 8] .ret)
theorem agk:zE Tryz.prog V8 105=some (abB,9,[.tmp 3]):=by kernel_rfl
def Pd (p:(Int×Int)) (c0:qt):Option Bool :=
 some (decide ((c0.length:Int)≤p.1))
theorem Vl {p:(Int×Int)} {c0:qt} {v:Bool} (h:Pd p c0=some v):qB 105 [(.agg [(hW p.1),(hW p.2)]),(.bU [(.ax (c0.map hW) c0.length .shared)])] (B v):=by
 refine q5 et agk rfl rfl fun Q bp=>?_;have jD:qR [.tmp 3] Q (fun v=>(B v)) v:=fun T H bI=>bp _ T H bI;unfold Pd at h;unfold abB;conv=>whnf
 exact qi h jD rfl rfl

noncomputable def Rn:fW :=
 .loop (some (qb false [0, 1, 2, 1, 5, 3, 24])) (pZ [GC 12 [.sl 11, .sl 10] (.bin .lss)] (.seq (.cond (.sl 12) .skip (.exit 0)) (.seq (.block 1 (pZ [GC 13 [.sl 9, .sl 11] (.kR 1), qo 14 13, pY 5 14] (pZ [pY 15 3, pY 16 5, qI 17 16, qT 18 15 17 .add, pY 3 18] (pZ [p1 19 3, qA 20 19 0 .lss] (.cond (.sl 20) (qK [GC 21 [.lT (.str (ByteArray.mk (Array.mk [108, 101, 110, 32, 111, 117, 116, 32, 111, 102, 32, 114, 97, 110, 103, 101])))] (.other (Oper.mk (some 21) (Op.makeInterface 9 (Operand.const (Value.string (ByteArray.mk (Array.mk [108, 101, 110, 32, 111, 117, 116, 32, 111, 102, 32, 114, 97, 110, 103, 101]))))) 20 "slices.go:496" (Array.mk []) none) 0), ⟨none, [.Bt 21], none, none, .other (Oper.mk none (Op.panic (Operand.tmp 21)) 0 "slices.go:496" (Array.mk [Edge.mk 0 Ground.data]) none) 0⟩]) .skip))))) (qK [qU 22 11 1, pY 11 22]))))
noncomputable def Ro:fW :=
 .loop (some (qb false [6,1,18,3,8])) (pZ [GC 28 [.sl 27,.sl 26] (.bin .lss)] (.seq (.cond (.sl 28) .skip (.exit 2)) (.seq (.block 3 (pZ [GC 29 [.sl 25,.sl 27] (.kR 1),qo 30 29,pY 8 30] (qK [pY 31 6,pY 32 8,GC 33 [.jh 31,.jh 32] (.app 2 16),pY 6 33]))) (qK [qU 34 27 1,pY 27 34]))))
noncomputable def abC:fW :=
 pZ [GC 2 [.lT (.ax [] 0 .full)] (.nil 2)] (pZ [qd 3 0] (.seq (pZ [p1 9 0,GC 10 [.sl 9] .zD,qd 11 0] (.block 0 Rn)) (pZ [pY 23 3,GC 24 [.lT (.func 129 [] []),.lT (.ax [] 0 .full),.sl 23] (.call 0),pY 6 24] (.seq (pZ [pY 25 0,GC 26 [.sl 25] .zD,qd 27 0] (.block 2 Ro)) (pZ [pY 35 6,pY 2 35] .ret)))))
theorem agl:zE Tryz.prog Py 106=some (abC,36,[.tmp 2]):=by kernel_rfl
def LL (slices:qh) (qq:Int→Option p8):Nat→Int→Int→Option p8
 | 0,_,_=>none
 | m+1,s1,s2 =>
   if (decide (s2<(slices.length:Int)))=true then
    qg (0≤s2∧s2<(slices.length:Int)) <|
    if (decide ((w (s1+((ix slices s2).length:Int)))<(0:Int)))=true then
     none
    else
     LL slices qq m (w (s1+((ix slices s2).length:Int))) (w (s2+(1:Int)))
   else
    qq s1
def LM (slices:qh) (qM:p8→Option p8):Nat→p8→Int→Option p8
 | 0,_,_=>none
 | m+1,di,G' =>
   if (decide (G'<(slices.length:Int)))=true then
    qg (0≤G'∧G'<(slices.length:Int)) <|
    qg ((di.length+(ix slices G').length)*16≤140737488355328) <|
    LM slices qM m (di++(ix slices G')) (w (G'+(1:Int)))
   else
    qM di
def NZ (slices:qh):Option p8 :=
 LL slices (fun yh =>
   (Vp [] yh).bind fun aT =>
   LM slices (fun oJ =>
     some oJ) qc aT (0:Int)) qc (0:Int) (0:Int)
theorem akj {slices:qh} {qq:Int→Option p8} {s1:Int} {s2:Int} {v:p8} {Q:rf}   (r9:∀ (yh:Int) (p7:List I),qq yh=some v→qQ 36 [(0,(.ax (slices.map (qk p0)) slices.length .shared)),(3,(hW yh))] p7→Q (.exit 0) p7 []) {T:List I} (bX:e0 (qb false [0,1,2,1,5,3,24]) T=Hc 36 [(0,(.ax (slices.map (qk p0)) slices.length .shared)),(3,(hW s1)),(9,(.ax (slices.map (qk p0)) slices.length .shared)),(10,(hW (slices.length:Int))),(11,(hW s2))]) (h:LL slices qq qc s1 s2=some v) :
  dR Tryz.prog Py 106 0 none Rn T [] Q:=by
 unfold Rn;refine wp_loop bX ?_;refine .intro (fun m T H=>∃ (s1 s2:Int),T=Hc 36 [(0,(.ax (slices.map (qk p0)) slices.length .shared)),(3,(hW s1)),(9,(.ax (slices.map (qk p0)) slices.length .shared)),(10,(hW (slices.length:Int))),(11,(hW s2))]∧H=[]∧LL slices qq m s1 s2=some v) qc ⟨s1,s2,rfl,rfl,h⟩ ?_;clear h bX;rintro m T H ⟨s1,s2,rfl,rfl,h⟩;cases m
 ·exact rj h
 rename_i m;rw [LL.eq_2] at h;conv=>whnf
 refine bs h (fun gG h=>?_) fun gG h=>?_
 ·rw [gG];conv=>whnf
  refine qx h id fun gH h=>?_;rw [se (qk p0) slices s2 gH];conv=>whnf
  refine bs h (fun qs h=>?_) fun qs h=>?_
  ·rw [qs];(conv=>whnf);exact rj h
  ·rw [qs];(conv=>whnf);exact ⟨m,sA m,(w (s1+((ix slices s2).length:Int))),(w (s2+(1:Int))),rfl,rfl,h⟩
 ·rw [gG];conv=>whnf
  exact r9 _ _ h ⟨rfl,rfl⟩
theorem akk {slices:qh} {qM:p8→Option p8} {di:p8} {G':Int} {v:p8} {Q:rf}   (Ie:∀ (oJ:p8) (p7:List I),qM oJ=some v→qQ 36 [(6,(p4 oJ (.own 2)))] p7→Q (.exit 2) p7 []) {T:List I} (bX:e0 (qb false [6,1,18,3,8]) T=Hc 36 [(6,(p4 di (.own 2))),(25,(.ax (slices.map (qk p0)) slices.length .shared)),(26,(hW (slices.length:Int))),(27,(hW G'))]) (h:LM slices qM qc di G'=some v) :
  dR Tryz.prog Py 106 0 none Ro T [] Q:=by
 unfold Ro;refine wp_loop bX ?_;refine .intro (fun m T H=>∃ (di:p8) (G':Int),T=Hc 36 [(6,(p4 di (.own 2))),(25,(.ax (slices.map (qk p0)) slices.length .shared)),(26,(hW (slices.length:Int))),(27,(hW G'))]∧H=[]∧LM slices qM m di G'=some v) qc ⟨di,G',rfl,rfl,h⟩ ?_;clear h bX;rintro m T H ⟨di,G',rfl,rfl,h⟩;cases m
 ·exact rj h
 rename_i m;rw [LM.eq_2] at h;conv=>whnf
 refine bs h (fun qH h=>?_) fun qH h=>?_
 ·rw [qH];conv=>whnf
  refine qx h id fun ra h=>?_;rw [se (qk p0) slices G' ra];conv=>whnf
  obtain ⟨q7,h⟩:=qC h;refine ⟨by first | rfl | (simp;done) | exact rz p0 _ qv _,by have:=q7;omega,rfl,q7,?_⟩
  erw [PC p0 di (ix slices G')];conv=>whnf
  exact ⟨m,sA m,(di++(ix slices G')),(w (G'+(1:Int))),rfl,rfl,h⟩
 ·rw [qH];conv=>whnf
  exact Ie _ _ h ⟨rfl,rfl⟩
theorem Vm {slices:qh} {v:p8} (h:NZ slices=some v):qB 106 [(.ax (slices.map (qk p0)) slices.length .shared)] (.ax (v.flatMap p0) v.length .shared):=by
 refine q5 et agl rfl (q4 (fun _=>(p2 rfl (p2 rfl rfl))) _ _ _) fun Q bp=>?_;have jD:qR [.tmp 2] Q (fun v=>(p4 v .shared)) v:=fun T H bI=>bp _ T H bI;unfold NZ at h;unfold abC;obtain ⟨II,q'⟩:∃ c,Rn=c:=⟨_,rfl⟩;rw [q'];obtain ⟨L7,Hj⟩:∃ c,Ro=c:=⟨_,rfl⟩;rw [Hj];conv=>whnf
 subst q';refine akj ?_ (by exact rfl) h;intro yh p7 h qe;obtain ⟨qG,rfl⟩:=qe.ex;conv=>whnf
 obtain ⟨aT,qF,h⟩:=qm h;refine ⟨_,_,adP (p2 rfl (p2 rfl rfl)) (akt qF) _ _,?_⟩;conv=>whnf
 subst Hj;refine akk ?_ (by exact rfl) h;intro oJ p7 h qe;obtain ⟨qG,rfl⟩:=qe.ex;conv=>whnf
 exact qi h jD rfl rfl

noncomputable def RF:fW :=
 .loop (some (qb false [0,1,2,1,1,2,12,3,10,3,98])) (pZ [GC 35 [.sl 34,.sl 33] (.bin .lss)] (.seq (.cond (.sl 35) .skip (.exit 2)) (.seq (.block 3 (pZ [GC 36 [.sl 32,.sl 34] (.kR 1),qo 37 36,pY 8 37] (sj [GC 38 [.sl 6] (.yH 0),qW 39 38 1,GC 40 [.Bt 39] .take,p1 41 0,GC 42 [.Bt 41] .zY,qW 43 42 0,qW 44 43 1,qo 45 44,pY 46 8,qZ 47 45 46 2,GC 48 [.Bt 47] (.zy (.str 2)),GC 49 [.Bt 48] (.yv 1 2 [.int .i64 0,.int .i64 0] [0]),GC 50 [.jh 40,.jh 49] (.app 2 16),GC 51 [.sl 6] (.yH 0),qW 52 51 1,⟨none,[.jh 52,.jh 50],none,none,.st 1⟩]))) (qK [qU 53 34 1,pY 34 53]))))
noncomputable def N9:fW :=
 .loop (some (qb false [0,1,2,1,1,2,2,2,8,3,111])) (.seq (pZ [p1 57 10,qU 58 57 1,p1 59 9,qI 60 59,qT 61 58 60 .lss] (.cond (.sl 61) .skip (.exit 4))) (.seq (.block 5 (sj [GC 64 [.sl 6] (.yH 0),qW 65 64 1,GC 66 [.Bt 65] .take,p1 67 9,p1 68 10,qZ 69 67 68 1,qo 70 69,p1 71 9,p1 72 10,qU 73 72 1,qZ 74 71 73 1,qo 75 74,GC 76 [.Bt 70,.Bt 75] (.build [.int .i64 0,.int .i64 0] [(0,1),(1,1)]),GC 77 [.Bt 76] (.yv 1 2 [.int .i64 0,.int .i64 0] [0]),GC 78 [.jh 66,.jh 77] (.app 2 16),GC 79 [.sl 6] (.yH 0),qW 80 79 1,⟨none,[.jh 80,.jh 78],none,none,.st 1⟩])) (qK [pY 62 10,qU 63 62 2,pY 10 63])))
noncomputable def RG:fW :=
 .loop (some (qb false [0,1,2,1,1,1,7,1,5,3,75,3,33])) (pZ [GC 100 [.sl 99,.sl 98] (.bin .lss)] (.seq (.cond (.sl 100) .skip (.exit 6)) (.seq (.block 7 (pZ [GC 101 [.sl 97,.sl 99] (.kR 2),GC 102 [.Bt 101] (.zy (.str 2)),GC 15 [] (.alloc [.int .i64 0,.int .i64 0]),⟨none,[.sl 15,.jh 102],none,none,.st 2⟩] (.seq (pZ [GC 103 [.sl 15] (.yH 0),qo 104 103,GC 105 [.sl 5] (.zy .one),qI 106 105,qT 107 104 106 .lss] (.cond (.sl 107) (.seq (sj [pY 108 13,GC 109 [.sl 5] (.zy .one),GC 110 [.sl 15] (.yH 0),qo 111 110,qZ 112 109 111 1,qo 113 112,GC 114 [.sl 15] (.yH 1),qo 115 114,GC 116 [.Bt 113,.Bt 115] (.build [.int .i64 0,.int .i64 0] [(0,1),(1,1)]),GC 117 [.Bt 116] (.yv 1 2 [.int .i64 0,.int .i64 0] [0]),GC 118 [.jh 108,.jh 117] (.app 2 16),pY 13 118]) (.exit 7)) .skip)) (qK [pY 119 3,pY 120 13,GC 121 [.Bt 120] (.yv 1 1 [.ax [] 0 .full] [0]),GC 122 [.jh 119,.jh 121] (.app 1 24),pY 3 122,GC 13 [.lT (.ax [] 0 .full)] (.nil 2)])))) (qK [qU 123 99 1,pY 99 123]))))
noncomputable def RH:fW :=
 pZ [GC 13 [.lT (.ax [] 0 .full)] (.nil 2)] (.seq (pZ [pY 97 11,GC 98 [.sl 97] .zD,qd 99 0] (.block 6 RG)) (pZ [p1 124 13,qI 125 124,qA 126 125 0 .gtr] (.cond (.sl 126) (qK [pY 127 3,pY 128 13,GC 129 [.Bt 128] (.yv 1 1 [.ax [] 0 .full] [0]),GC 130 [.jh 127,.jh 129] (.app 1 24),pY 3 130]) .skip)))
noncomputable def RI:fW :=
 .loop (some (qb false [0,1,2,1,15,3,111])) (pZ [GC 22 [.sl 21,.sl 20] (.bin .lss)] (.seq (.cond (.sl 22) .skip (.exit 0)) (.seq (.block 1 (pZ [GC 23 [.sl 19,.sl 21] (.kR 1),qo 24 23,GC 5 [] (.alloc [.ax [] 0 .full]),⟨none,[.sl 5,.jh 24],none,none,.st 1⟩] (pZ [p1 25 0,GC 26 [.Bt 25] .zY,qW 27 26 0,qW 28 27 0,qo 29 28,GC 30 [.Bt 29] (.build [.int .i64 0,.ax [] 0 .full] [(0,1)]),GC 31 [.Bt 30] (.build [.int .i64 0,.ax [] 0 .full] [(0,2)]),GC 6 [] (.alloc [.int .i64 0,.ax [] 0 .full]),⟨none,[.sl 6,.jh 31],none,none,.st 2⟩] (.seq (pZ [GC 32 [.sl 5] (.zy .one),GC 33 [.sl 32] .zD,qd 34 0] (.block 2 RF)) (pZ [p1 54 0,GC 55 [.sl 5] (.zy .one),GC 56 [.lT (.func 76 [] []),.sl 54,.sl 55] (.call 3),pY 9 56] (.seq (pZ [qd 10 0] (.block 4 N9)) (pZ [GC 81 [.lT (.func 104 [] []),.sl 6] (.call 7),pY 11 81] (.seq (pZ [p1 82 11,GC 83 [.sl 5] (.zS 105 0 1),GC 84 [.lT (.func 94 [] []),.sl 82,.sl 83] (.call 6),pY 12 84] (pZ [p1 85 12,qA 86 85 0 .geq] (.cond (.sl 86) (sj [p1 87 11,p1 88 12,qU 89 88 1,GC 90 [.jh 87,.jh 89] (.Bh 2 true false false),p1 91 11,p1 92 12,qU 93 92 1,GC 94 [.jh 91,.jh 93] (.Bh 2 false true false),GC 95 [.Bt 90,.Bt 94] (.yv 2 1 [.ax [] 0 .full] [0,1]),GC 96 [.lT (.func 106 [] []),.sl 95] (.call 3),pY 11 96]) .skip))) RH)))))))) (qK [qU 131 21 1,pY 21 131]))))
noncomputable def acd:fW :=
 pZ [GC 2 [.lT (.ax [] 0 .full)] (.nil 1)] (pZ [GC 3 [.lT (.ax [] 0 .full)] (.nil 1)] (.seq (pZ [p1 16 0,p1 17 0,GC 18 [.lT (.func 77 [] []),.sl 17] (.call 3),GC 19 [.lT (.func 79 [] []),.sl 16,.sl 18] (.call 3),GC 20 [.sl 19] .zD,qd 21 0] (.block 0 RI)) (pZ [pY 132 3,pY 2 132] .ret)))
theorem agW:zE Tryz.prog Ll 83=some (acd,133,[.tmp 2]):=by kernel_rfl
def MR (t:qn) (r2:Ku) (s2:Int) (qM:p8→Option qh):Nat→Int→p8→Option qh
 | 0,_,_=>none
 | m+1,di,G' =>
   if (decide (di<((ix r2 s2).length:Int)))=true then
    qg (0≤di∧di<((ix r2 s2).length:Int)) <|
    qg (0≤(ix (ix r2 s2) di)∧(ix (ix r2 s2) di)<(t.2.length:Int)) <|
    qg ((G'.length+1)*16≤140737488355328) <|
    MR t r2 s2 qM m (w (di+(1:Int))) (G'++[(ix t.2 (ix (ix r2 s2) di))])
   else
    qM G'
def Ko (eL:qt) (rk:p8→Option qh):Nat→Int→p8→Option qh
 | 0,_,_=>none
 | m+1,qu,p' =>
   if (decide ((w (qu+(1:Int)))<(eL.length:Int)))=true then
    qg (0≤qu∧qu<(eL.length:Int)) <|
    qg (0≤(w (qu+(1:Int)))∧(w (qu+(1:Int)))<(eL.length:Int)) <|
    qg ((p'.length+1)*16≤140737488355328) <|
    Ko eL rk m (w (qu+(2:Int))) (p'++[((ix eL qu),(ix eL (w (qu+(1:Int)))))])
   else
    rk p'
def LX (r2:Ku) (s2:Int) (dB:p8) (Mq:qh→p8→Option qh):Nat→qh→p8→Int→Option qh
 | 0,_,_,_=>none
 | m+1,q_,qa,qj =>
   if (decide (qj<(dB.length:Int)))=true then
    qg (0≤qj∧qj<(dB.length:Int)) <|
    if (decide ((ix dB qj).1<((ix r2 s2).length:Int)))=true then
     qg (0≤(ix dB qj).1∧(ix dB qj).1<((ix r2 s2).length:Int)) <|
     qg ((qa.length+1)*16≤140737488355328) <|
     LX r2 s2 dB Mq m q_ (qa++[((ix (ix r2 s2) ((ix dB qj).1)),(ix dB qj).2)]) (w (qj+(1:Int)))
    else
     qg ((q_.length+1)*24≤140737488355328) <|
     LX r2 s2 dB Mq m (q_++[qa]) [] (w (qj+(1:Int)))
   else
    Mq q_ qa
def LW (r2:Ku) (s1:qh) (s2:Int) (OP:qh→Option qh) (dB:p8):Option qh :=
 LX r2 s2 dB (fun yh oJ =>
   if (decide ((0:Int)<(oJ.length:Int)))=true then
    qg ((yh.length+1)*24≤140737488355328) <|
    OP (yh++[oJ])
   else
    OP yh) qc s1 ([]:List (Int×Int)) (0:Int)
def Jp (t:qn) (r2:Ku) (qq:qh→Option qh):Nat→qh→Int→Option qh
 | 0,_,_=>none
 | m+1,s1,s2 =>
   if (decide (s2<(r2.length:Int)))=true then
    qg (0≤s2∧s2<(r2.length:Int)) <|
    MR t r2 s2 (fun yh =>
      (MO t (ix r2 s2)).bind fun eL =>
      Ko eL (fun yh =>
        (Mw (t.1,yh)).bind fun q6 =>
        (LY q6 (fun qV=>Pd qV (ix r2 s2))).bind fun r5 =>
        if (decide ((0:Int)≤r5))=true then
         qg (0≤(w (r5+(1:Int)))∧(w (r5+(1:Int)))≤(q6.length:Int)) <|
         qg (0≤(w (r5+(1:Int)))∧(w (r5+(1:Int)))≤(q6.length:Int)) <|
         (NZ [(q6.drop (w (r5+(1:Int))).toNat),(q6.take (w (r5+(1:Int))).toNat)]).bind fun IC =>
         LW r2 s1 s2 (fun Gx =>
           Jp t r2 qq m Gx (w (s2+(1:Int)))) IC
        else
         LW r2 s1 s2 (fun Gx =>
           Jp t r2 qq m Gx (w (s2+(1:Int)))) q6) qc (0:Int) yh) qc (0:Int) ([]:List (Int×Int))
   else
    qq s1
def KV (t:qn):Option qh :=
 (Rb t).bind fun aT =>
 (LV t aT).bind fun r2 =>
 Jp t r2 (fun HR =>
   some HR) qc ([]:List p8) (0:Int)
theorem alv {t:qn} {r2:Ku} {s2:Int} {qM:p8→Option qh} {di:Int} {G':p8} {s1:qh} {v:qh} {Q:rf}  {rm:List ar} {Io:hv} (Ie:∀ (yh:p8) (p7:List I),qM yh=some v→qQ 133 [(0,(.bU [(hW t.1),(p4 t.2 .shared)])),(3,(.ax (s1.map (qk p0)) s1.length (.uniq 1))),(5,(.ptr (rm).length 0)),(6,(.ptr ((rm)++[ar.cells [(qJ (ix r2 s2) .shared)]]).length 0)),(19,(.ax (r2.map oN) r2.length .shared)),(20,(hW (r2.length:Int))),(21,(hW s2))] p7→Q (.exit 2) p7 (((rm)++[ar.cells [(qJ (ix r2 s2) .shared)]])++[ar.cells [(hW t.1),(p4 yh .full)]])) (Mj:∀ (yh:p8) (p7:List I),qM yh=some v→qQ 133 [(0,(.bU [(hW t.1),(p4 t.2 .shared)])),(3,(.ax (s1.map (qk p0)) s1.length (.uniq 1))),(5,(.ptr (rm).length 0)),(6,(.ptr ((rm)++[ar.cells [(qJ (ix r2 s2) .shared)]]).length 0)),(19,(.ax (r2.map oN) r2.length .shared)),(20,(hW (r2.length:Int))),(21,(hW s2))] p7→Q (.exit 2) p7 (((rm)++[ar.cells [(qJ (ix r2 s2) .shared)]])++[ar.cells [(hW t.1),(p4 yh (.own 2))]])) (Mf:(Io=hv.full∨Io=(.own 2))) {T:List I} (bX:e0 (qb false [0,1,2,1,1,2,12,3,10,3,98]) T=Hc 133 [(0,(.bU [(hW t.1),(p4 t.2 .shared)])),(3,(.ax (s1.map (qk p0)) s1.length (.uniq 1))),(5,(.ptr (rm).length 0)),(6,(.ptr ((rm)++[ar.cells [(qJ (ix r2 s2) .shared)]]).length 0)),(19,(.ax (r2.map oN) r2.length .shared)),(20,(hW (r2.length:Int))),(21,(hW s2)),(32,(qJ (ix r2 s2) .shared)),(33,(hW ((ix r2 s2).length:Int))),(34,(hW di))]) (h:MR t r2 s2 qM qc di G'=some v) :
  dR Tryz.prog Ll 83 0 none RF T (((rm)++[ar.cells [(qJ (ix r2 s2) .shared)]])++[ar.cells [(hW t.1),(.ax (G'.flatMap p0) G'.length Io)]]) Q:=by
 unfold RF;refine wp_loop bX ?_;refine .intro (fun m T H=>∃ (di:Int) (G':p8) (Io:hv),(Io=hv.full∨Io=(.own 2))∧T=Hc 133 [(0,(.bU [(hW t.1),(p4 t.2 .shared)])),(3,(.ax (s1.map (qk p0)) s1.length (.uniq 1))),(5,(.ptr (rm).length 0)),(6,(.ptr ((rm)++[ar.cells [(qJ (ix r2 s2) .shared)]]).length 0)),(19,(.ax (r2.map oN) r2.length .shared)),(20,(hW (r2.length:Int))),(21,(hW s2)),(32,(qJ (ix r2 s2) .shared)),(33,(hW ((ix r2 s2).length:Int))),(34,(hW di))]∧H=(((rm)++[ar.cells [(qJ (ix r2 s2) .shared)]])++[ar.cells [(hW t.1),(.ax (G'.flatMap p0) G'.length Io)]])∧MR t r2 s2 qM m di G'=some v) qc ⟨di,G',_,Mf,rfl,rfl,h⟩ ?_;clear h bX;rintro m T H ⟨di,G',Io,Mf,rfl,rfl,h⟩;cases m
 ·exact rj h
 rename_i m;rw [MR.eq_2] at h;rcases Mf with rfl | rfl
 ·conv=>whnf
  refine bs h (fun qH h=>?_) fun qH h=>?_
  ·rw [qH];(conv=>whnf);refine qx h id fun ra h=>?_;rw [se hW (ix r2 s2) di ra];(conv=>whnf);refine Es (x:=ar.cells [(hW t.1),(p4 G' .full)]) (by first | exact qy.h | rfl | (simp [sy,I.settle];done)) ?_
   (conv=>whnf);refine qx h id fun q7 h=>?_;rw [qX p0 2 qv t.2 (ix (ix r2 s2) di) q7];(conv=>whnf);obtain ⟨q8,h⟩:=qC h;refine ⟨by first | rfl | (simp;done) | exact rz p0 _ qv _,by have:=q8;omega,by decide,q8,by first | rfl | (simp;done) | exact rz p0 _ qv _,?_⟩
   erw [rK p0 G' (ix t.2 (ix (ix r2 s2) di))];(conv=>whnf);refine Es (x:=ar.cells [(hW t.1),(p4 G' .full)]) (by first | exact qy.h | rfl | (simp [sy,I.settle];done)) ?_
   (conv=>whnf);rw [rB];exact ⟨m,sA m,(w (di+(1:Int))),(G'++[(ix t.2 (ix (ix r2 s2) di))]),_,(.inr rfl),rfl,rfl,h⟩
  ·rw [qH];(conv=>whnf);exact Ie _ _ h ⟨rfl,rfl⟩
 ·conv=>whnf
  refine bs h (fun qH h=>?_) fun qH h=>?_
  ·rw [qH];(conv=>whnf);refine qx h id fun ra h=>?_;rw [se hW (ix r2 s2) di ra];(conv=>whnf);refine Es (x:=ar.cells [(hW t.1),(p4 G' (.own 2))]) (by first | exact qy.h | rfl | (simp [sy,I.settle];done)) ?_
   (conv=>whnf);rw [rB];refine qx h id fun q7 h=>?_;rw [qX p0 2 qv t.2 (ix (ix r2 s2) di) q7];(conv=>whnf);obtain ⟨q8,h⟩:=qC h;refine ⟨by first | rfl | (simp;done) | exact rz p0 _ qv _,by have:=q8;omega,rfl,q8,?_⟩
   erw [rK p0 G' (ix t.2 (ix (ix r2 s2) di))];(conv=>whnf);refine Es (x:=ar.cells [(hW t.1),(p4 G' .shared)]) (by first | exact qy.h | rfl | (simp [sy,I.settle];done)) ?_
   (conv=>whnf);rw [rB];exact ⟨m,sA m,(w (di+(1:Int))),(G'++[(ix t.2 (ix (ix r2 s2) di))]),_,(.inr rfl),rfl,rfl,h⟩
  ·rw [qH];(conv=>whnf);exact Mj _ _ h ⟨rfl,rfl⟩
theorem alw {eL:qt} {rk:p8→Option qh} {qu:Int} {p':p8} {t:qn} {r2:Ku} {s1:qh} {s2:Int} {v:qh} {Q:rf}  {rm:List ar} {Io:hv} (I3:∀ (yh:p8) (p7:List I),rk yh=some v→qQ 133 [(0,(.bU [(hW t.1),(p4 t.2 .shared)])),(3,(.ax (s1.map (qk p0)) s1.length (.uniq 1))),(5,(.ptr (rm).length 0)),(6,(.ptr ((rm)++[ar.cells [(qJ (ix r2 s2) .shared)]]).length 0)),(19,(.ax (r2.map oN) r2.length .shared)),(20,(hW (r2.length:Int))),(21,(hW s2))] p7→Q (.exit 4) p7 (((rm)++[ar.cells [(qJ (ix r2 s2) .shared)]])++[ar.cells [(hW t.1),(p4 yh .full)]])) (OL:∀ (yh:p8) (p7:List I),rk yh=some v→qQ 133 [(0,(.bU [(hW t.1),(p4 t.2 .shared)])),(3,(.ax (s1.map (qk p0)) s1.length (.uniq 1))),(5,(.ptr (rm).length 0)),(6,(.ptr ((rm)++[ar.cells [(qJ (ix r2 s2) .shared)]]).length 0)),(19,(.ax (r2.map oN) r2.length .shared)),(20,(hW (r2.length:Int))),(21,(hW s2))] p7→Q (.exit 4) p7 (((rm)++[ar.cells [(qJ (ix r2 s2) .shared)]])++[ar.cells [(hW t.1),(p4 yh (.own 2))]])) (Mf:(Io=hv.full∨Io=(.own 2))) {T:List I} (bX:e0 (qb false [0,1,2,1,1,2,2,2,8,3,111]) T=Hc 133 [(0,(.bU [(hW t.1),(p4 t.2 .shared)])),(3,(.ax (s1.map (qk p0)) s1.length (.uniq 1))),(5,(.ptr (rm).length 0)),(6,(.ptr ((rm)++[ar.cells [(qJ (ix r2 s2) .shared)]]).length 0)),(9,(qJ eL .shared)),(10,(hW qu)),(19,(.ax (r2.map oN) r2.length .shared)),(20,(hW (r2.length:Int))),(21,(hW s2))]) (h:Ko eL rk qc qu p'=some v) :
  dR Tryz.prog Ll 83 0 none N9 T (((rm)++[ar.cells [(qJ (ix r2 s2) .shared)]])++[ar.cells [(hW t.1),(.ax (p'.flatMap p0) p'.length Io)]]) Q:=by
 unfold N9;refine wp_loop bX ?_;refine .intro (fun m T H=>∃ (qu:Int) (p':p8) (Io:hv),(Io=hv.full∨Io=(.own 2))∧T=Hc 133 [(0,(.bU [(hW t.1),(p4 t.2 .shared)])),(3,(.ax (s1.map (qk p0)) s1.length (.uniq 1))),(5,(.ptr (rm).length 0)),(6,(.ptr ((rm)++[ar.cells [(qJ (ix r2 s2) .shared)]]).length 0)),(9,(qJ eL .shared)),(10,(hW qu)),(19,(.ax (r2.map oN) r2.length .shared)),(20,(hW (r2.length:Int))),(21,(hW s2))]∧H=(((rm)++[ar.cells [(qJ (ix r2 s2) .shared)]])++[ar.cells [(hW t.1),(.ax (p'.flatMap p0) p'.length Io)]])∧Ko eL rk m qu p'=some v) qc ⟨qu,p',_,Mf,rfl,rfl,h⟩ ?_;clear h bX;rintro m T H ⟨qu,p',Io,Mf,rfl,rfl,h⟩;cases m
 ·exact rj h
 rename_i m;rw [Ko.eq_2] at h;rcases Mf with rfl | rfl
 ·conv=>whnf
  refine bs h (fun qP h=>?_) fun qP h=>?_
  ·rw [qP];(conv=>whnf);refine Es (x:=ar.cells [(hW t.1),(p4 p' .full)]) (by first | exact qy.h | rfl | (simp [sy,I.settle];done)) ?_
   (conv=>whnf);refine qx h id fun rq h=>?_;rw [se hW eL qu rq];(conv=>whnf);refine qx h id fun rV h=>?_;rw [se hW eL (w (qu+(1:Int))) rV];(conv=>whnf);obtain ⟨rD,h⟩:=qC h;refine ⟨by first | rfl | (simp;done) | exact rz p0 _ qv _,by have:=rD;omega,by decide,rD,by first | rfl | (simp;done) | exact rz p0 _ qv _,?_⟩
   erw [rK p0 p' ((ix eL qu),(ix eL (w (qu+(1:Int)))))];(conv=>whnf);refine Es (x:=ar.cells [(hW t.1),(p4 p' .full)]) (by first | exact qy.h | rfl | (simp [sy,I.settle];done)) ?_
   (conv=>whnf);rw [rB];exact ⟨m,sA m,(w (qu+(2:Int))),(p'++[((ix eL qu),(ix eL (w (qu+(1:Int)))))]),_,(.inr rfl),rfl,rfl,h⟩
  ·rw [qP];(conv=>whnf);exact I3 _ _ h ⟨rfl,rfl⟩
 ·conv=>whnf
  refine bs h (fun qP h=>?_) fun qP h=>?_
  ·rw [qP];(conv=>whnf);refine Es (x:=ar.cells [(hW t.1),(p4 p' (.own 2))]) (by first | exact qy.h | rfl | (simp [sy,I.settle];done)) ?_
   (conv=>whnf);rw [rB];refine qx h id fun rq h=>?_;rw [se hW eL qu rq];(conv=>whnf);refine qx h id fun rV h=>?_;rw [se hW eL (w (qu+(1:Int))) rV];(conv=>whnf);obtain ⟨rD,h⟩:=qC h;refine ⟨by first | rfl | (simp;done) | exact rz p0 _ qv _,by have:=rD;omega,rfl,rD,?_⟩
   erw [rK p0 p' ((ix eL qu),(ix eL (w (qu+(1:Int)))))];(conv=>whnf);refine Es (x:=ar.cells [(hW t.1),(p4 p' .shared)]) (by first | exact qy.h | rfl | (simp [sy,I.settle];done)) ?_
   (conv=>whnf);rw [rB];exact ⟨m,sA m,(w (qu+(2:Int))),(p'++[((ix eL qu),(ix eL (w (qu+(1:Int)))))]),_,(.inr rfl),rfl,rfl,h⟩
  ·rw [qP];(conv=>whnf);exact OL _ _ h ⟨rfl,rfl⟩
theorem aly {r2:Ku} {s2:Int} {dB:p8} {Mq:qh→p8→Option qh} {q_:qh} {qa:p8} {qj:Int} {t:qn} {v:qh} {Q:rf} {bR:ar} {rm:List ar} {Oc:List ar} (afo:∀ (yh:qh) (oJ:p8) (ql:List ar) (p7:List I),Mq yh oJ=some v→qQ 133 [(0,(.bU [(hW t.1),(p4 t.2 .shared)])),(3,(.ax (yh.map (qk p0)) yh.length (.uniq 1))),(13,(p4 oJ (.uniq 2))),(19,(.ax (r2.map oN) r2.length .shared)),(20,(hW (r2.length:Int))),(21,(hW s2))] p7→Q (.exit 6) p7 (ql)) {T:List I} (bX:e0 (qb false [0,1,2,1,1,1,7,1,5,3,75,3,33]) T=Hc 133 [(0,(.bU [(hW t.1),(p4 t.2 .shared)])),(3,(.ax (q_.map (qk p0)) q_.length (.uniq 1))),(5,(.ptr (rm).length 0)),(13,(p4 qa (.uniq 2))),(19,(.ax (r2.map oN) r2.length .shared)),(20,(hW (r2.length:Int))),(21,(hW s2)),(97,(p4 dB .shared)),(98,(hW (dB.length:Int))),(99,(hW qj))]) (h:LX r2 s2 dB Mq qc q_ qa qj=some v) :
  dR Tryz.prog Ll 83 0 none RG T ((((rm)++[ar.cells [(qJ (ix r2 s2) .shared)]])++[bR])++Oc) Q:=by
 unfold RG;refine wp_loop bX ?_;refine .intro (fun m T H=>∃ (q_:qh) (qa:p8) (qj:Int) (Oc:List ar),T=Hc 133 [(0,(.bU [(hW t.1),(p4 t.2 .shared)])),(3,(.ax (q_.map (qk p0)) q_.length (.uniq 1))),(5,(.ptr (rm).length 0)),(13,(p4 qa (.uniq 2))),(19,(.ax (r2.map oN) r2.length .shared)),(20,(hW (r2.length:Int))),(21,(hW s2)),(97,(p4 dB .shared)),(98,(hW (dB.length:Int))),(99,(hW qj))]∧H=((((rm)++[ar.cells [(qJ (ix r2 s2) .shared)]])++[bR])++Oc)∧LX r2 s2 dB Mq m q_ qa qj=some v) qc ⟨q_,qa,qj,Oc,rfl,rfl,h⟩ ?_;clear h bX;rintro m T H ⟨q_,qa,qj,Oc,rfl,rfl,h⟩;cases m
 ·exact rj h
 rename_i m;rw [LX.eq_2] at h;conv=>whnf
 refine bs h (fun Hn h=>?_) fun Hn h=>?_
 ·rw [Hn];conv=>whnf
  refine qx h id fun HW h=>?_;rw [qX p0 2 qv dB qj HW];conv=>whnf
  refine Es (x:=ar.cells [(hW (0:Int)),(hW (0:Int))]) (by first | exact qy.h | rfl | (simp [sy,I.settle];done)) ?_
  conv=>whnf
  rw [rB];refine Es (x:=ar.cells [(hW (ix dB qj).1),(hW (ix dB qj).2)]) (by first | exact qy.h | rfl | (simp [sy,I.settle];done)) ?_
  conv=>whnf
  refine Es (x:=ar.cells [(qJ (ix r2 s2) .shared)]) (by first | exact qy.h | rfl | (simp [sy,I.settle];done)) ?_
  conv=>whnf
  refine bs h (fun HO h=>?_) fun HO h=>?_
  ·rw [HO];(conv=>whnf);refine Es (x:=ar.cells [(qJ (ix r2 s2) .shared)]) (by first | exact qy.h | rfl | (simp [sy,I.settle];done)) ?_
   (conv=>whnf);refine Es (x:=ar.cells [(hW (ix dB qj).1),(hW (ix dB qj).2)]) (by first | exact qy.h | rfl | (simp [sy,I.settle];done)) ?_
   (conv=>whnf);refine qx h id fun Jz h=>?_;rw [se hW (ix r2 s2) ((ix dB qj).1) Jz];(conv=>whnf);refine Es (x:=ar.cells [(hW (ix dB qj).1),(hW (ix dB qj).2)]) (by first | exact qy.h | rfl | (simp [sy,I.settle];done)) ?_
   (conv=>whnf);obtain ⟨JV,h⟩:=qC h;refine ⟨by first | rfl | (simp;done) | exact rz p0 _ qv _,by have:=JV;omega,rfl,JV,?_⟩
   erw [rK p0 qa ((ix (ix r2 s2) ((ix dB qj).1)),(ix dB qj).2)];(conv=>whnf);exact ⟨m,sA m,q_,(qa++[((ix (ix r2 s2) ((ix dB qj).1)),(ix dB qj).2)]),(w (qj+(1:Int))),_,rfl,(WQ _ _ _),h⟩
  ·rw [HO];(conv=>whnf);obtain ⟨JW,h⟩:=qC h;refine ⟨by first | rfl | simp,by have:=JW;omega,rfl,JW,?_⟩
   erw [Kx (qk p0) q_ qa];(conv=>whnf);exact ⟨m,sA m,(q_++[qa]),[],(w (qj+(1:Int))),_,rfl,(WQ _ _ _),h⟩
 ·rw [Hn];conv=>whnf
  exact afo _ _ _ _ h ⟨rfl,rfl⟩
theorem N7 {r2:Ku} {s1:qh} {s2:Int} {OP:qh→Option qh} {dB:p8} {t:qn} {v:qh} {Q:rf} {bR:ar} {p7:List I} {rm:List ar} (XV:∀ (Gx:qh) (ql:List ar) (p7:List I),OP Gx=some v→qQ 133 [(0,(.bU [(hW t.1),(p4 t.2 .shared)])),(3,(.ax (Gx.map (qk p0)) Gx.length (.uniq 1))),(19,(.ax (r2.map oN) r2.length .shared)),(20,(hW (r2.length:Int))),(21,(hW s2))] p7→Q .normal p7 (ql)) (qe:qQ 133 [(0,(.bU [(hW t.1),(p4 t.2 .shared)])),(3,(.ax (s1.map (qk p0)) s1.length (.uniq 1))),(5,(.ptr (rm).length 0)),(11,(p4 dB .shared)),(19,(.ax (r2.map oN) r2.length .shared)),(20,(hW (r2.length:Int))),(21,(hW s2))] p7) (h:LW r2 s1 s2 OP dB=some v) :
  dR Tryz.prog Ll 83 0 none RH p7 (((rm)++[ar.cells [(qJ (ix r2 s2) .shared)]])++[bR]) Q:=by
 obtain ⟨qG,rfl⟩:=qe.ex;unfold LW at h;unfold RH;obtain ⟨W0,Ln⟩:∃ c,RG=c:=⟨_,rfl⟩;rw [Ln];conv=>whnf
 subst Ln;refine akf ?_;refine aly ?_ (by exact rfl) h;intro yh oJ ql p7 h qe;obtain ⟨qG,rfl⟩:=qe.ex;conv=>whnf
 refine bs h (fun Iy h=>?_) fun Iy h=>?_
 ·rw [Iy];conv=>whnf
  obtain ⟨JX,h⟩:=qC h;refine ⟨by first | rfl | simp,by have:=JX;omega,rfl,JX,?_⟩
  erw [Kx (qk p0) yh oJ];conv=>whnf
  exact XV _ _ _ h ⟨rfl,rfl⟩
 ·rw [Iy];conv=>whnf
  exact XV _ _ _ h ⟨rfl,rfl⟩
theorem alx {H9:qt} {rk:p8→Option qh} {Ji:Int} {Ki:p8} {t:qn} {r2:Ku} {s1:qh} {s2:Int} {v:qh} {Q:rf}  {rm:List ar} (I3:∀ (si:p8) (p7:List I),rk si=some v→qQ 133 [(0,(.bU [(hW t.1),(p4 t.2 .shared)])),(3,(.ax (s1.map (qk p0)) s1.length (.uniq 1))),(5,(.ptr (rm).length 0)),(6,(.ptr ((rm)++[ar.cells [(qJ (ix r2 s2) .shared)]]).length 0)),(19,(.ax (r2.map oN) r2.length .shared)),(20,(hW (r2.length:Int))),(21,(hW s2))] p7→Q (.exit 4) p7 (((rm)++[ar.cells [(qJ (ix r2 s2) .shared)]])++[ar.cells [(hW t.1),(p4 si (.own 2))]])) {T:List I} (bX:e0 (qb false [0,1,2,1,1,2,2,2,8,3,111]) T=Hc 133 [(0,(.bU [(hW t.1),(p4 t.2 .shared)])),(3,(.ax (s1.map (qk p0)) s1.length (.uniq 1))),(5,(.ptr (rm).length 0)),(6,(.ptr ((rm)++[ar.cells [(qJ (ix r2 s2) .shared)]]).length 0)),(9,(qJ H9 .shared)),(10,(hW Ji)),(19,(.ax (r2.map oN) r2.length .shared)),(20,(hW (r2.length:Int))),(21,(hW s2))]) (h:Ko H9 rk qc Ji Ki=some v) :
  dR Tryz.prog Ll 83 0 none N9 T (((rm)++[ar.cells [(qJ (ix r2 s2) .shared)]])++[ar.cells [(hW t.1),(p4 Ki (.own 2))]]) Q:=by
 unfold N9;refine wp_loop bX ?_;refine .intro (fun m T H=>∃ (Ji:Int) (Ki:p8),T=Hc 133 [(0,(.bU [(hW t.1),(p4 t.2 .shared)])),(3,(.ax (s1.map (qk p0)) s1.length (.uniq 1))),(5,(.ptr (rm).length 0)),(6,(.ptr ((rm)++[ar.cells [(qJ (ix r2 s2) .shared)]]).length 0)),(9,(qJ H9 .shared)),(10,(hW Ji)),(19,(.ax (r2.map oN) r2.length .shared)),(20,(hW (r2.length:Int))),(21,(hW s2))]∧H=(((rm)++[ar.cells [(qJ (ix r2 s2) .shared)]])++[ar.cells [(hW t.1),(p4 Ki (.own 2))]])∧Ko H9 rk m Ji Ki=some v) qc ⟨Ji,Ki,rfl,rfl,h⟩ ?_;clear h bX;rintro m T H ⟨Ji,Ki,rfl,rfl,h⟩;cases m
 ·exact rj h
 rename_i m;rw [Ko.eq_2] at h;conv=>whnf
 refine bs h (fun S8 h=>?_) fun S8 h=>?_
 ·rw [S8];conv=>whnf
  refine Es (x:=ar.cells [(hW t.1),(p4 Ki (.own 2))]) (by first | exact qy.h | rfl | (simp [sy,I.settle];done)) ?_
  conv=>whnf
  rw [rB];refine qx h id fun ae4 h=>?_;rw [se hW H9 Ji ae4];conv=>whnf
  refine qx h id fun ae5 h=>?_;rw [se hW H9 (w (Ji+(1:Int))) ae5];conv=>whnf
  obtain ⟨XN,h⟩:=qC h;refine ⟨by first | rfl | (simp;done) | exact rz p0 _ qv _,by have:=XN;omega,rfl,XN,?_⟩
  erw [rK p0 Ki ((ix H9 Ji),(ix H9 (w (Ji+(1:Int)))))];conv=>whnf
  refine Es (x:=ar.cells [(hW t.1),(p4 Ki .shared)]) (by first | exact qy.h | rfl | (simp [sy,I.settle];done)) ?_
  conv=>whnf
  rw [rB];exact ⟨m,sA m,(w (Ji+(2:Int))),(Ki++[((ix H9 Ji),(ix H9 (w (Ji+(1:Int)))))]),rfl,rfl,h⟩
 ·rw [S8];conv=>whnf
  exact I3 _ _ h ⟨rfl,rfl⟩
theorem alu {t:qn} {r2:Ku} {qq:qh→Option qh} {s1:qh} {s2:Int} {v:qh} {Q:rf}   (r9:∀ (HR:qh) (ql:List ar) (p7:List I),qq HR=some v→qQ 133 [(3,(.ax (HR.map (qk p0)) HR.length (.uniq 1)))] p7→Q (.exit 0) p7 (ql)) {T:List I} (bX:e0 (qb false [0,1,2,1,15,3,111]) T=Hc 133 [(0,(.bU [(hW t.1),(p4 t.2 .shared)])),(3,(.ax (s1.map (qk p0)) s1.length (.uniq 1))),(19,(.ax (r2.map oN) r2.length .shared)),(20,(hW (r2.length:Int))),(21,(hW s2))]) (h:Jp t r2 qq qc s1 s2=some v) :
  dR Tryz.prog Ll 83 0 none RI T [] Q:=by
 unfold RI;obtain ⟨II,q'⟩:∃ c,RF=c:=⟨_,rfl⟩;rw [q'];obtain ⟨L7,Hj⟩:∃ c,N9=c:=⟨_,rfl⟩;rw [Hj];obtain ⟨adK,KA⟩:∃ c,RH=c:=⟨_,rfl⟩;rw [KA];refine wp_loop bX ?_;refine .intro (fun m T H=>∃ (s1:qh) (s2:Int) (rm:List ar),T=Hc 133 [(0,(.bU [(hW t.1),(p4 t.2 .shared)])),(3,(.ax (s1.map (qk p0)) s1.length (.uniq 1))),(19,(.ax (r2.map oN) r2.length .shared)),(20,(hW (r2.length:Int))),(21,(hW s2))]∧H=(rm)∧Jp t r2 qq m s1 s2=some v) qc ⟨s1,s2,[],rfl,rfl,h⟩ ?_;clear h bX;rintro m T H ⟨s1,s2,rm,rfl,rfl,h⟩;cases m
 ·exact rj h
 rename_i m;rw [Jp.eq_2] at h;conv=>whnf
 refine bs h (fun qs h=>?_) fun qs h=>?_
 ·rw [qs];conv=>whnf
  refine qx h id fun qF h=>?_;rw [se oN r2 s2 qF];conv=>whnf
  refine Es (x:=ar.cells [(.ax [] 0 .full)]) (by first | exact qy.h | rfl | (simp [sy,I.settle];done)) ?_
  conv=>whnf
  rw [rB];refine Es (x:=ar.cells [(hW (0:Int)),(.ax [] 0 .full)]) (by first | exact qy.h | rfl | (simp [sy,I.settle];done)) ?_
  conv=>whnf
  rw [rB];refine Es (x:=ar.cells [(qJ (ix r2 s2) .shared)]) (by first | exact qy.h | rfl | (simp [sy,I.settle];done)) ?_
  conv=>whnf
  subst q';refine alv ?_ ?_ (.inl rfl) (by exact rfl) h
  ·intro yh p7 h qe;obtain ⟨qG,rfl⟩:=qe.ex;(conv=>whnf);refine Es (x:=ar.cells [(qJ (ix r2 s2) .shared)]) (by first | exact qy.h | rfl | (simp [sy,I.settle];done)) ?_
   (conv=>whnf);obtain ⟨eL,rp,h⟩:=qm h;refine ⟨qw.pl,_,VA rp,?_⟩;(conv=>whnf);subst Hj;refine alw ?_ ?_ (.inl rfl) (by exact rfl) h
   ·intro yh p7 h qe;obtain ⟨qG,rfl⟩:=qe.ex;(conv=>whnf);obtain ⟨q6,HF,h⟩:=qm h;refine ⟨_,_,call7 (l:=[(hW t.1),(p4 yh .full)]) (cs:=[(hW t.1),(p4 yh .full)]) (sP _) (by first | exact qy.h | rfl | (simp [sy,I.settle];done)) rfl (re (p2 rfl (p2 (q4 (fun _=>(p2 rfl (p2 rfl rfl))) _ _ _) rfl))) (ds:=[(hW t.1),(p4 yh .shared)]) rfl (Vk HF),?_⟩
    rw [rB];(conv=>whnf);obtain ⟨r5,IK,h⟩:=qm h;refine ⟨_,_,Ja (cs:=[(p4 q6 .shared),(.func 105 [] [(.bU [(qJ (ix r2 s2) .shared)])])]) (bs:=[(p4 q6 .shared),(.func 105 [] [(.bU [(qJ (ix r2 s2) .shared)])])]) (rA rfl (rA (KQ rY (rA (Jk (cs:=[(qJ (ix r2 s2) .shared)]) (by first | exact qy.h | rfl | (simp [sy,I.settle];done)) rfl) rY)) rY)) (by rfl) (by exact (p2 (q4 (fun _=>(p2 rfl (p2 rfl rfl))) _ _ _) (p2 (Kg rfl (p2 (re (p2 (r7 (fun _=>rfl) _ _ _) rfl)) rfl)) rfl))) (Rj ⟨(p2 (re (p2 (r7 (fun _=>rfl) _ _ _) rfl)) rfl),by simp⟩ (fun _ _ aZ=>Vl aZ) IK) rfl,?_⟩
    (conv=>whnf);refine bs h (fun HV h=>?_) fun HV h=>?_
    ·rw [HV];(conv=>whnf);refine qx h id fun Ix h=>?_;erw [QQ p0 2 qv q6 (w (r5+(1:Int))) Ix];(conv=>whnf);refine qx h id fun sg h=>?_;erw [NP p0 2 qv q6 (w (r5+(1:Int))) sg];(conv=>whnf);obtain ⟨IC,H7,h⟩:=qm h;refine ⟨(p2 (TN (p2 (q4 (fun _=>(p2 rfl (p2 rfl rfl))) _ _ _) (p2 (q4 (fun _=>(p2 rfl (p2 rfl rfl))) _ _ _) rfl))) rfl),_,Vm H7,HS,?_⟩;(conv=>whnf);subst KA;refine N7 ?_ (by exact ⟨rfl,rfl⟩) h;intro Gx ql p7 h qe;obtain ⟨qG,rfl⟩:=qe.ex;(conv=>whnf);exact ⟨m,sA m,Gx,(w (s2+(1:Int))),_,rfl,rfl,h⟩
    ·rw [HV];(conv=>whnf);subst KA;refine N7 ?_ (by exact ⟨rfl,rfl⟩) h;intro Gx ql p7 h qe;obtain ⟨qG,rfl⟩:=qe.ex;(conv=>whnf);exact ⟨m,sA m,Gx,(w (s2+(1:Int))),_,rfl,rfl,h⟩
   ·intro yh p7 h qe;obtain ⟨qG,rfl⟩:=qe.ex;(conv=>whnf);obtain ⟨rr,Lt,h⟩:=qm h;refine ⟨_,_,call7 (l:=[(hW t.1),(p4 yh (.own 2))]) (cs:=[(hW t.1),(p4 yh .shared)]) (sP _) (by first | exact qy.h | rfl | (simp [sy,I.settle];done)) rfl (re (p2 rfl (p2 (q4 (fun _=>(p2 rfl (p2 rfl rfl))) _ _ _) rfl))) (ds:=[(hW t.1),(p4 yh .shared)]) rfl (Vk Lt),?_⟩
    rw [rB];(conv=>whnf);obtain ⟨Mt,KF,h⟩:=qm h;refine ⟨_,_,Ja (cs:=[(p4 rr .shared),(.func 105 [] [(.bU [(qJ (ix r2 s2) .shared)])])]) (bs:=[(p4 rr .shared),(.func 105 [] [(.bU [(qJ (ix r2 s2) .shared)])])]) (rA rfl (rA (KQ rY (rA (Jk (cs:=[(qJ (ix r2 s2) .shared)]) (by first | exact qy.h | rfl | (simp [sy,I.settle];done)) rfl) rY)) rY)) (by rfl) (by exact (p2 (q4 (fun _=>(p2 rfl (p2 rfl rfl))) _ _ _) (p2 (Kg rfl (p2 (re (p2 (r7 (fun _=>rfl) _ _ _) rfl)) rfl)) rfl))) (Rj ⟨(p2 (re (p2 (r7 (fun _=>rfl) _ _ _) rfl)) rfl),by simp⟩ (fun _ _ aZ=>Vl aZ) KF) rfl,?_⟩
    (conv=>whnf);refine bs h (fun Nd h=>?_) fun Nd h=>?_
    ·rw [Nd];(conv=>whnf);refine qx h id fun SY h=>?_;erw [QQ p0 2 qv rr (w (Mt+(1:Int))) SY];(conv=>whnf);refine qx h id fun SZ h=>?_;erw [NP p0 2 qv rr (w (Mt+(1:Int))) SZ];(conv=>whnf);obtain ⟨LD,OH,h⟩:=qm h;refine ⟨(p2 (TN (p2 (q4 (fun _=>(p2 rfl (p2 rfl rfl))) _ _ _) (p2 (q4 (fun _=>(p2 rfl (p2 rfl rfl))) _ _ _) rfl))) rfl),_,Vm OH,HS,?_⟩;(conv=>whnf);subst KA;refine N7 ?_ (by exact ⟨rfl,rfl⟩) h;intro r0 ql p7 h qe;obtain ⟨qG,rfl⟩:=qe.ex;(conv=>whnf);exact ⟨m,sA m,r0,(w (s2+(1:Int))),_,rfl,rfl,h⟩
    ·rw [Nd];(conv=>whnf);subst KA;refine N7 ?_ (by exact ⟨rfl,rfl⟩) h;intro r0 ql p7 h qe;obtain ⟨qG,rfl⟩:=qe.ex;(conv=>whnf);exact ⟨m,sA m,r0,(w (s2+(1:Int))),_,rfl,rfl,h⟩
  ·intro yh p7 h qe;obtain ⟨qG,rfl⟩:=qe.ex;(conv=>whnf);refine Es (x:=ar.cells [(qJ (ix r2 s2) .shared)]) (by first | exact qy.h | rfl | (simp [sy,I.settle];done)) ?_
   (conv=>whnf);obtain ⟨H9,S7,h⟩:=qm h;refine ⟨qw.pl,_,VA S7,?_⟩;(conv=>whnf);subst Hj;refine alx ?_ (by exact rfl) h;intro si p7 h qe;obtain ⟨qG,rfl⟩:=qe.ex;(conv=>whnf);obtain ⟨J0,ae6,h⟩:=qm h;refine ⟨_,_,call7 (l:=[(hW t.1),(p4 si (.own 2))]) (cs:=[(hW t.1),(p4 si .shared)]) (sP _) (by first | exact qy.h | rfl | (simp [sy,I.settle];done)) rfl (re (p2 rfl (p2 (q4 (fun _=>(p2 rfl (p2 rfl rfl))) _ _ _) rfl))) (ds:=[(hW t.1),(p4 si .shared)]) rfl (Vk ae6),?_⟩
   rw [rB];(conv=>whnf);obtain ⟨LC,ae7,h⟩:=qm h;refine ⟨_,_,Ja (cs:=[(p4 J0 .shared),(.func 105 [] [(.bU [(qJ (ix r2 s2) .shared)])])]) (bs:=[(p4 J0 .shared),(.func 105 [] [(.bU [(qJ (ix r2 s2) .shared)])])]) (rA rfl (rA (KQ rY (rA (Jk (cs:=[(qJ (ix r2 s2) .shared)]) (by first | exact qy.h | rfl | (simp [sy,I.settle];done)) rfl) rY)) rY)) (by rfl) (by exact (p2 (q4 (fun _=>(p2 rfl (p2 rfl rfl))) _ _ _) (p2 (Kg rfl (p2 (re (p2 (r7 (fun _=>rfl) _ _ _) rfl)) rfl)) rfl))) (Rj ⟨(p2 (re (p2 (r7 (fun _=>rfl) _ _ _) rfl)) rfl),by simp⟩ (fun _ _ aZ=>Vl aZ) ae7) rfl,?_⟩
   (conv=>whnf);refine bs h (fun S9 h=>?_) fun S9 h=>?_
   ·rw [S9];(conv=>whnf);refine qx h id fun ae8 h=>?_;erw [QQ p0 2 qv J0 (w (LC+(1:Int))) ae8];(conv=>whnf);refine qx h id fun ae9 h=>?_;erw [NP p0 2 qv J0 (w (LC+(1:Int))) ae9];(conv=>whnf);obtain ⟨NH,ae_,h⟩:=qm h;refine ⟨(p2 (TN (p2 (q4 (fun _=>(p2 rfl (p2 rfl rfl))) _ _ _) (p2 (q4 (fun _=>(p2 rfl (p2 rfl rfl))) _ _ _) rfl))) rfl),_,Vm ae_,HS,?_⟩;(conv=>whnf);subst KA;refine N7 ?_ (by exact ⟨rfl,rfl⟩) h;intro IG ql p7 h qe;obtain ⟨qG,rfl⟩:=qe.ex;(conv=>whnf);exact ⟨m,sA m,IG,(w (s2+(1:Int))),_,rfl,rfl,h⟩
   ·rw [S9];(conv=>whnf);subst KA;refine N7 ?_ (by exact ⟨rfl,rfl⟩) h;intro IG ql p7 h qe;obtain ⟨qG,rfl⟩:=qe.ex;(conv=>whnf);exact ⟨m,sA m,IG,(w (s2+(1:Int))),_,rfl,rfl,h⟩
 ·rw [qs];conv=>whnf
  exact r9 _ _ _ h ⟨rfl,rfl⟩
theorem VE {t:qn} {v:qh} (h:KV t=some v):qB 83 [(.bU [(hW t.1),(.ax (t.2.flatMap p0) t.2.length .shared)])] (.ax (v.map (qk p0)) v.length .shared):=by
 refine q5 et agW rfl (r7 (fun _=>(q4 (fun _=>(p2 rfl (p2 rfl rfl))) _ _ _)) _ _ _) fun Q bp=>?_;have jD:qR [.tmp 2] Q (fun v=>(.ax (v.map (qk p0)) v.length .shared)) v:=fun T H bI=>bp _ T H bI;unfold KV at h;unfold acd;obtain ⟨adL,Oz⟩:∃ c,RI=c:=⟨_,rfl⟩;rw [Oz];conv=>whnf
 obtain ⟨aT,gG,h⟩:=qm h;refine ⟨qw.pl,_,alq gG,?_⟩;conv=>whnf
 obtain ⟨r2,gH,h⟩:=qm h;refine ⟨qw.pl,_,VC gH,?_⟩;conv=>whnf
 subst Oz;refine alu ?_ (by exact rfl) h;intro HR ql p7 h qe;obtain ⟨qG,rfl⟩:=qe.ex;conv=>whnf
 exact qi h jD rfl rfl
end Go.Proofs.YtfakoboiahbhaaaGreat.Ab


namespace Go.Proofs.YtfakoboiahbhaaaGreat.Ab
open Go
theorem akl {x y:Row} (h:0<x.length+y.length) (af:x.length+y.length≤24):NZ [x,y]=some (x++y):=by
 have f':ix [x,y] (0:Int)=x:=rfl;have e1:ix [x,y] (1:Int)=y:=rfl;have w0:w ((0:Int)+1)=1:=by decide
 have bH:w ((1:Int)+1)=2:=by decide
 have ao:([x,y]:List Row).length=2:=rfl;rw [NZ,show qc=18446744073709551613+3 from rfl,LL,ao,if_pos (by decide),qz (by decide),f',JH (n:=(0:Int)+(x.length:Int)) (by omega),if_neg (by simp),w0,LL,ao,if_pos (by decide),qz (by decide),e1,JH (n:=(0:Int)+(x.length:Int)+(y.length:Int)) (by omega),if_neg (by simp;omega),bH,LL,ao,if_neg (by decide),Vp,qz ⟨rfl,by omega,by omega⟩,sx,LM,ao,if_pos (by decide),qz (by decide),f',qz (by simp;omega),w0,LM,ao,if_pos (by decide),qz (by decide),e1,qz (by simp;omega),bH,LM,ao,if_neg (by decide)];rfl
section
variable {b t:p9} {S:List Int} {r2:List (List Int)} {s2:Int}
theorem abq (he:ix r2 s2=S) (cm:sa t S) (ao:S.length≤1000) {k:Row→Option (List Row)}:∀ (m i:Nat) (z:Int),z=i→i≤S.length→S.length-i<m→MR t r2 s2 k m z ((S.take i).map (ix t.2))=k (S.map (ix t.2))
 | 0,_,_,_,_,h=>absurd h (by omega)
 | m+1,i,_,rfl,hi,hm=>by
   rw [MR,he];by_cases h:(i:Int)<(S.length:Int)
   ·(have rn:i<S.length:=by omega);have ai:=cm _ (sU rn);rw [if_pos (decide_eq_true h),qz ⟨by omega,h⟩,ry rn,qz ai,qz (by simp;omega),sm i (by omega)];(have e:(S.take i).map (ix t.2)++[ix t.2 S[i]]=(S.take (i+1)).map (ix t.2):=by rw [LJ rn,tj];rfl);rw [e];exact abq he cm ao m (i+1) _ rfl (by omega) (by omega)
   ·rw [if_neg (by simpa using h),show i=S.length by omega,tU]
theorem abr {o:List Int} (aq:o.length≤1000) {k:Row→Option (List Row)}:∀ (m i:Nat) (z:Int) (acc:Row),z=i→acc.length+o.length≤10000+i→o.length+2-i<m→i≤o.length+1→acc.length≤10000+i→Ko o k m z acc=k (acc++HQ (o.drop i))
 | 0,_,_,_,_,_,h,_,_=>absurd h (by omega)
 | m+1,i,_,acc,rfl,cc,hm,hi,amc=>by
   rw [Ko,sm i (by omega)];by_cases h:((i+1:Nat):Int)<(o.length:Int)
   ·(have ad:i<o.length:=by omega);(have af:i+1<o.length:=by omega);rw [if_pos (decide_eq_true h),qz ⟨by omega,by omega⟩,qz ⟨by omega,h⟩,qz (by omega),ry ad,ry af,JH (n:=(i:Int)+2) (by omega),abr aq m (i+2) _ _ (by omega) (by simp;omega) (by omega) (by omega) (by simp;omega)];rw [tn ad,tn af,HQ];simp
   ·rw [if_neg (by simpa using h)]
    have:HQ (o.drop i)=[]:=by
     have ao:(o.drop i).length≤1:=by simp;omega
     match o.drop i,ao with
     | [],_=>rfl
     | [_],_=>rfl
     | _::_::_,h=>simp at h
    rw [this,sW]
theorem VD (he:ix r2 s2=S) {dB:Row} {T:p9} (aw:∀ p∈dB,Hx T p) (ao:dB.length≤1000) {k:List Row→Option (List Row)}:∀ (m i:Nat) (z:Int) (out:List Row) (own:Row),z=i→i≤dB.length→dB.length-i<m→out.length≤1000+i→own.length≤i →
  LX r2 s2 dB (fun yh oJ=>if (decide ((0:Int)<(oJ.length:Int)))=true then qg ((yh.length+1)*24≤140737488355328) <| k (yh++[oJ]) else k yh) m out own z=k (out++sc S own (dB.drop i))
 | 0,_,_,_,_,_,_,h,_,_=>absurd h (by omega)
 | m+1,i,_,out,own,rfl,hi,hm,ad,af=>by
   rw [LX,he];by_cases h:(i:Int)<(dB.length:Int)
   ·(have rn:i<dB.length:=by omega);have aB:=aw _ (sU rn);rw [if_pos (decide_eq_true h),qz ⟨by omega,h⟩,ry rn,tn rn,sc,sm i (by omega)];by_cases aS:dB[i].1<(S.length:Int)
    ·rw [if_pos (decide_eq_true aS),if_pos aS,qz ⟨aB.1,aS⟩,qz (by omega)];exact VD he aw ao m (i+1) _ out _ rfl (by omega) (by omega) (by omega) (by simp;omega)
    ·rw [if_neg (by simpa using aS),if_neg aS,qz (by omega),VD he aw ao m (i+1) _ (out++[own]) [] rfl (by omega) (by omega) (by simp;omega) (by simp)];simp
   ·rw [if_neg (by simpa using h),List.drop_eq_nil_of_le (by omega),sc];by_cases aV:0<own.length
    ·rw [if_pos (by simpa using aV),if_pos aV,qz (by omega)]
    ·rw [if_neg (by simpa using aV),if_neg aV,sW]
theorem alD {s:List (Int×Int)} {f:Int×Int→Option Bool} {p:Int×Int→Bool} (aP:∀ x∈s,f x=some (p x)) (ai:s.length≤140737488355328):LY s f=some (posOf p s 0):=by
 have:=VG aP ai qc 0 0 rfl (sP _) (r6 (by omega));rw [th] at this;rw [LY,this]
def JY (b:p9) (r:List Int):Nat:=max 1 ((rF b r).length / 2)
theorem ag8 (r:List Int):JY b r≤3:=by
 have aq:(rF b r).length≤6:=tb (tW _ _) (by rw [r_];omega);unfold JY;omega
def H2 (b:p9):Nat:=((parts b).map (JY b)).sum
theorem abp (p5:qS b) {P:List (List Int)} (CD:rE b (upto b.2.length) P) {k:List Row→Option (List Row)}:∀ (m i:Nat) (z:Int) (out:List Row),z=i→i≤P.length→P.length-i<m→RowsOf b (P.take i).flatten out→(∀ r∈out,r≠[])→out.length=((P.take i).map (JY b)).sum →
  ∃ Ho,Jp b P k m out z=k Ho∧RowsOf b P.flatten Ho∧(∀ r∈Ho,r≠[])∧Ho.length=(P.map (JY b)).sum
 | 0,_,_,_,_,_,h,_,_,_=>absurd h (by omega)
 | m+1,i,_,out,rfl,hi,hm,jD,bO,hlen=>by
   have dm:=p5.len;have bT:=p5.f6;have XO:=CD.few LK;rw [Jp];by_cases h:(i:Int)<(P.length:Int)
   ·(have rn:i<P.length:=by omega);obtain ⟨S,PY⟩:∃ S,S=P[i]:=⟨_,rfl⟩;(have P0:S∈P:=by rw [PY];exact sU rn);(have he:ix P (i:Int)=S:=by rw [ry rn,PY]);have OG:sa b S:=CD.Qd LK S P0;(have aeS:S.Nodup:=(CD.so S P0).imp fun h e=>by omega);have PZ:S.length≤b.2.length:=Lx aeS OG;have KD:=CD.ne S P0;obtain ⟨l,a,ak,bF,aO⟩:=round_part p5 OG (by omega) KD (CD.aef P0);have SW:=YF p5 OG KD bF aO;have aq:(rF b S).length≤6:=tb (tW _ _) (by rw [r_];omega);have GV:l.length=S.length+(rF b S).length / 2:=by
     have:=bF.upto.length_eq
     rwa [td,r_,NQ] at this
    (have amn:0<l.length:=by have:=tS.2 KD;omega);have afM:∀ l:List (List Int),(l.map (JY b)).sum≤3*l.length:=fun l=>by
     induction l with
     | nil=>simp
     | cons x l a_=>rw [sG,tX,sV];have:=ag8 (b:=b) x;omega
    have pT:out.length≤30:=by
     have:=afM (P.take i);rw [tf] at this;omega
    have KK:∃ Ho,Jp b P k m (out++sc S [] (KP S l)) (w ((i:Int)+1))=k Ho∧RowsOf b P.flatten Ho∧(∀ r∈Ho,r≠[])∧Ho.length=(P.map (JY b)).sum:=by
     rw [sm i (by omega)];refine abp p5 CD m (i+1) _ _ rfl (by omega) (by omega) ?_ ?_ ?_
     ·rw [LJ rn,vJ,←PY];simpa using jD.app SW.toRowsOf
     ·intro r aj;rcases ti.1 aj with aj | aj
      ·exact bO r aj
      ·exact SW.ne r aj
     ·rw [sC,hlen,SW.len,LJ rn,tj,List.sum_append,←PY];simp [JY]
    have aw:∀ (hd:Nat) (l':Row),l'=KP S l→(∀ p∈l',Hx (sh b S) p)→l'.length≤1000→LW P out (i:Int) (fun Gx=>Jp b P k m Gx (w ((i:Int)+1))) l'=Jp b P k m (out++sc S [] (KP S l)) (w ((i:Int)+1)):=fun _ l' e c9 gg=>by
     rw [LW];refine (VD (T:=sh b S) (k:=fun Gx=>Jp b P k m Gx (w ((i:Int)+1))) he c9 gg qc 0 0 out [] rfl (by omega) (r6 (by omega)) (by omega) (by simp)).trans ?_;rw [th,e]
    rw [if_pos (decide_eq_true h),qz ⟨by omega,h⟩]
    have gg:=abq (t:=b) (r2:=P) (s2:=(i:Int)) (S:=S) he OG (by omega) (k:=fun yh =>
      (MO b (ix P (i:Int))).bind fun eL =>
      Ko eL (fun yh =>
        (Mw (b.1,yh)).bind fun q6 =>
        (LY q6 (fun qV=>Pd qV (ix P (i:Int)))).bind fun r5 =>
        if (decide ((0:Int)≤r5))=true then
         qg (0≤(w (r5+(1:Int)))∧(w (r5+(1:Int)))≤(q6.length:Int)) <|
         qg (0≤(w (r5+(1:Int)))∧(w (r5+(1:Int)))≤(q6.length:Int)) <|
         (NZ [(q6.drop (w (r5+(1:Int))).toNat),(q6.take (w (r5+(1:Int))).toNat)]).bind fun IC =>
         LW P out (i:Int) (fun Gx =>
           Jp b P k m Gx (w ((i:Int)+(1:Int)))) IC
        else
         LW P out (i:Int) (fun Gx =>
           Jp b P k m Gx (w ((i:Int)+(1:Int)))) q6) qc (0:Int) yh) qc 0 0 rfl (by omega) (r6 (by omega))
    rw [tD,tL] at gg;rw [gg,he,abi p5 OG (by omega),sx,abr (by omega) qc 0 0 _ rfl (by simp;omega) (r6 (by omega)) (by omega) (by simp;omega),th];have nS:Mw (b.1,S.map (ix b.2)++HQ (rF b S))=some l:=ak;rw [nS,sx,alD (p:=fun p=>!Hw S p) (fun p _=>by rw [Pd];unfold Hw;congr 1;by_cases al:p.1<(S.length:Int) <;> simp [al] <;> omega) (by omega),sx];rcases TK (fun p=>!Hw S p) l 0 with ⟨ad,af⟩ | ⟨dL,q,kV,afp,af,aG⟩
    ·rw [ad,if_neg (by decide),aw 0 l (by unfold KP;rw [ad];rfl) bF.ok (by omega)];exact KK
    ·(have cB:dL.length+1≤l.length:=by rw [afp];simp);have afI:KP S l=l.drop (dL.length+1)++l.take (dL.length+1):=by
      unfold KP;rw [aG];simp only [tg];rw [if_pos (by omega),show ((dL.length:Int)+1).toNat=dL.length+1 by omega]
     rw [aG,tg,if_pos (by simp),sm _ (by omega),qz ⟨by omega,by omega⟩,qz ⟨by omega,by omega⟩,tV,akl (by simp;omega) (by simp;omega),sx,aw 0 _ afI.symm ?_ ?_]
     ·exact KK
     ·intro p aB;rcases ti.1 aB with aB | aB
      ·exact bF.ok p (List.mem_of_mem_drop aB)
      ·exact bF.ok p (List.mem_of_mem_take aB)
     ·simp;omega
   ·rw [if_neg (by simpa using h)]
    have:i=P.length:=by omega
    subst this;rw [tU] at jD hlen;exact ⟨out,rfl,jD,bO,hlen⟩
structure M4 (b:p9) (R:List Row):Prop extends RowsOf b (upto b.2.length) R where
 ne:∀ r∈R,r≠[]
 len:R.length=H2 b
theorem rE.flat {P:List (List Int)} {S:List Int} (cm:S.Nodup) (CD:rE b S P):P.flatten.Perm S:=by
 refine (uR CD.Xo cm).2 fun x=>?_;rw [CD.mem x,List.mem_flatten]
theorem Re (p5:qS b):∃ R,KV b=some R∧M4 b R:=by
 obtain ⟨ad,af,_⟩:=VB p5;have hlen:=p5.len;obtain ⟨R,aT,r2,eL,q6⟩:=abp p5 af (k:=fun HR=>some HR) qc 0 0 [] rfl (by omega) (r6 (by have:=af.few LK;omega)) (by rw [tD];exact RowsOf.nil) (fun r aj=>absurd aj (by simp)) (by simp);refine ⟨R,?_,⟨⟨r2.ok,r2.go,r2.all.trans (af.flat (IQ _))⟩,eL,q6⟩⟩;rw [KV,alo (by omega),sx,ad,sx];exact aT
end
end Go.Proofs.YtfakoboiahbhaaaGreat.Ab


namespace Go.Proofs.YtfakoboiahbhaaaGreat.Ab
open Go
instance {d:Nat} {l:List I} [h:qw d l]:qw d (l.map I.g0):=⟨by
 have h:=h.pl;rw [sR] at h ⊢;intro u hu;obtain ⟨v,ae,rfl⟩:=sM.1 hu;have:=h v ae;cases d with
 | zero=>simp [cj] at this
 | succ d=>cases v with
   | ax cs n c=>cases c <;> exact this
   | _=>exact this⟩
end Go.Proofs.YtfakoboiahbhaaaGreat.Ab


namespace Go.Proofs.YtfakoboiahbhaaaGreat.Ab
open Go
set_option maxRecDepth 20000
set_option maxHeartbeats 4000000

end Go.Proofs.YtfakoboiahbhaaaGreat.Ab


namespace Go.Proofs.YtfakoboiahbhaaaGreat.Ab
open Go
set_option maxRecDepth 20000
set_option maxHeartbeats 4000000
noncomputable def abU:fW :=
 pZ [GC 1 [.jh 0] .box,qd 2 0,qd 3 0] (pZ [GC 7 [.Bt 1] (.zy (.str 2)),GC 8 [.lT (.func 64 [] []),.sl 7] (.call 3),pY 6 8,rI 9 6 0,GC 10 [.Bt 6] (.ext 1),pY 4 9,pY 5 10] (.seq (pZ [p1 11 5,qA 12 11 0 .neq] (.cond (.sl 12) (pZ [pY 13 5,qd 2 0,pY 3 13] .ret) .skip)) (pZ [pY 14 4,GC 15 [.lT (.func 83 [] []),.sl 14] (.call 3),qI 16 15,pY 2 16,qd 3 0] .ret)))
theorem agD:zE Tryz.prog Wq 35=some (abU,17,[.tmp 2,.tmp 3]):=by kernel_rfl
def N4 (b:qn):Option (Int×Int) :=
 (Kl b).bind fun aT =>
 match aT with
 | (none,q1) =>
   if (decide (q1≠(0:Int)))=true then
    some ((0:Int),q1)
   else
    none
 | (some bS,q1) =>
   if (decide (q1≠(0:Int)))=true then
    some ((0:Int),q1)
   else
    (KV bS).bind fun r2 =>
    some ((r2.length:Int),(0:Int))
theorem aa2 {b:qn} {v:(Int×Int)} (h:N4 b=some v):qB 35 [(.agg [(hW b.1),(.ax (b.2.flatMap p0) b.2.length .shared)])] (.tuple [(hW v.1),(hW v.2)]):=by
 refine q5 et agD rfl (JZ (p2 rfl (p2 rfl rfl))) fun Q bp=>?_;have jD:qR [.tmp 2,.tmp 3] Q (fun v=>(.tuple [(hW v.1),(hW v.2)])) v:=fun T H bI=>bp _ T H bI;unfold N4 at h;unfold abU;conv=>whnf
 obtain ⟨aT,gG,h⟩:=qm h;rcases aT with ⟨_ | bS,q1⟩
 ·refine ⟨qw.pl,_,LR gG,?_⟩;conv=>whnf
  refine bs h (fun gH h=>?_) fun gH h=>?_
  ·rw [gH];(conv=>whnf);exact qi h jD rfl rfl
  ·rw [gH];(conv=>whnf);exact rj h
 ·refine ⟨qw.pl,_,LR gG,?_⟩;conv=>whnf
  refine bs h (fun qs h=>?_) fun qs h=>?_
  ·rw [qs];(conv=>whnf);exact qi h jD rfl rfl
  ·rw [qs];(conv=>whnf);obtain ⟨r2,qF,h⟩:=qm h;refine ⟨qw.pl,_,VE qF,?_⟩;(conv=>whnf);exact qi h jD rfl rfl

end Go.Proofs.YtfakoboiahbhaaaGreat.Ab


namespace Go.Proofs.YtfakoboiahbhaaaGreat.Ab
open Go
section
variable {b:p9} {S:List Int}
theorem Vw (p5:qS b):Kl b=some (some b,0):=by
 rw [Kl,Q8 b (by have:=p5.len;omega),sx,I'.2 p5];rfl
theorem Vv (ag:b.2.length≤1000) (h:rQ b≠0):Kl b=some (none,rQ b):=by
 rw [Kl,Q8 b ag,sx,if_pos (by simpa using h)]
def M' (b:p9):Int×Int:=if rQ b≠0 then (0,rQ b) else (H2 b,0)
theorem PK (p5:qS b):M' b=((H2 b:Int),0):=by unfold M';rw [if_neg (by rw [I'.2 p5];simp)]
theorem aev (h:rQ b≠0):M' b=(0,rQ b):=by unfold M';rw [if_pos h]
theorem aa1 (ag:b.2.length≤1000):N4 b=some (M' b):=by
 rw [N4];by_cases h:rQ b=0
 ·have p5:=I'.1 h;obtain ⟨R,ad,af⟩:=Re p5;rw [Vw p5,sx,PK p5];show (if decide ((0:Int)≠0)=true then _ else (KV b).bind fun r2=>some ((r2.length:Int),(0:Int)))=_;rw [if_neg (by decide),ad,sx,af.len]
 ·rw [Vv ag h,sx,aev h];show (if decide (rQ b≠0)=true then some ((0:Int),rQ b) else none)=_;rw [if_pos (by simpa using h)]
def L0 (b:p9) (S:List Int):Prop:=∀ x∈S,∀ y∈S,∀ f g,rb b x f→rb b y g→rT b S f g
theorem rE.one {out:List (List Int)} (h:rE b S out) (aV:S≠[]):out.length=1↔L0 b S:=by
 constructor
 ·intro ad;obtain ⟨r,rfl⟩:∃ r,out=[r]:=List.length_eq_one_iff.1 ad;intro x ak y aZ f g aP aO;have hm:∀ z∈S,z∈r:=fun z bk=>by
   obtain ⟨q,a0,X1⟩:=(h.mem z).1 bk;rw [ta.1 a0] at X1;exact X1
  exact h.Js r (by simp) x (hm x ak) y (hm y aZ) f g aP aO
 ·intro bI;obtain ⟨x,ak⟩:=v8 S aV;obtain ⟨r,aj,Ka⟩:=(h.mem x).1 ak;have all:∀ q∈out,q=r:=fun q a0=>by
   obtain ⟨y,aZ⟩:=v8 q (h.ne q a0);have X0:=(h.mem y).2 ⟨q,a0,aZ⟩;have:=h.closed aj Ka (f:=(ix b.2 x).1) (g:=(ix b.2 y).1) (.inl rfl) (bI x ak y X0 _ _ (.inl rfl) (.inl rfl)) y X0 (.inl rfl);exact h.uniq a0 aj aZ this
  match out,aj,all,h with
  | [q],_,_,_=>rfl
  | q::fT::l,_,all,h =>
    exfalso;have e1:=all q (by simp);have ca:=all fT (by simp);obtain ⟨y,aZ⟩:=v8 q (h.ne q (by simp));exact (List.pairwise_cons.1 h.rS).1 fT (by simp) y aZ (by rw [ca,←e1];exact aZ)
end
end Go.Proofs.YtfakoboiahbhaaaGreat.Ab


namespace Go.Proofs.YtfakoboiahbhaaaGreat.Ab
open Go
set_option maxRecDepth 20000
set_option maxHeartbeats 4000000
noncomputable def abJ:fW :=
 pZ [GC 4 [.lT (.bool false)] .mP] (.seq (sj [GC 5 [.sl 1] (.zy .one),GC 6 [.Bt 5] .zY,qW 7 6 0,qW 8 7 1,qo 9 8,p1 10 0,qZ 11 9 10 2,qW 12 11 0,qo 13 12,GC 14 [.sl 2] (.zy .one),qT 15 13 14 .eql,pY 16 15,cS 17 [.sl 1] 16 false (.zy .one),cS 18 [.Bt 17] 16 false .zY,cS 19 [.Bt 18] 16 false (.yH 0),cS 20 [.Bt 19] 16 false (.yH 1),cS 21 [.Bt 20] 16 false (.zy .one),cS 22 [.sl 0] 16 false .mP,cS 23 [.Bt 21,.Bt 22] 16 false (.kR 2),cS 24 [.Bt 23] 16 false (.yH 1),cS 25 [.Bt 24] 16 false (.zy .one),cS 26 [.sl 2] 16 false (.zy .one),cS 27 [.Bt 25,.Bt 26] 16 false (.bin .eql),GC 28 [.sl 16,.lT (.bool true),.Bt 27] .pick,pY 4 28]) .ret)
theorem ags:zE Tryz.prog Wi 130=some (abJ,29,[.tmp 4]):=by kernel_rfl
def N1 (i:Int) (c0:qn) (a':Int):Option Bool :=
 qg (0≤i∧i<(c0.2.length:Int)) <|
 if (decide ((ix c0.2 i).1=a'))=true then
  some true
 else
  qg (0≤i∧i<(c0.2.length:Int)) <|
  some (decide ((ix c0.2 i).2=a'))
theorem aaN {i:Int} {c0:qn} {a':Int} {v:Bool} (h:N1 i c0 a'=some v):qB 130 [(hW i),(.bU [(.bU [(hW c0.1),(.ax (c0.2.flatMap p0) c0.2.length .shared)])]),(.bU [(hW a')])] (B v):=by
 refine q5 et ags rfl rfl fun Q bp=>?_;have jD:qR [.tmp 4] Q (fun v=>(B v)) v:=fun T H bI=>bp _ T H bI;unfold N1 at h;unfold abJ;conv=>whnf
 refine qx h id fun gG h=>?_;rw [qX p0 2 qv c0.2 i gG];conv=>whnf
 refine bs h (fun gH h=>?_) fun gH h=>?_
 ·rw [gH];conv=>whnf
  exact qi h jD rfl rfl
 ·rw [gH];conv=>whnf
  refine qx h id fun qs h=>?_;rw [qX p0 2 qv c0.2 i qs];conv=>whnf
  exact qi h jD rfl rfl

noncomputable def Rr:fW :=
 .loop (some (qb false [0,2,5,2,10])) (pZ [GC 9 [.sl 8,.sl 7] (.bin .lss)] (.seq (.cond (.sl 9) .skip (.exit 0)) (.seq (.block 1 (pZ [p1 10 8,pY 5 10] (pZ [p1 11 1,p1 12 0,p1 13 5,qZ 14 12 13 1,qo 15 14,qT 16 11 15 .eql] (.cond (.sl 16) (pZ [pY 17 5,pY 4 17] .ret) .skip)))) (qK [qU 18 8 1,pY 8 18]))))
noncomputable def abL:fW :=
 pZ [qd 4 0] (.seq (pZ [p1 6 0,qI 7 6,qd 8 0] (.block 0 Rr)) (pZ [qd 4 (-1)] .ret))
theorem agu:zE Tryz.prog R2 146=some (abL,19,[.tmp 4]):=by kernel_rfl
def Mz (s:qt) (ID:Int) (qq:Unit→Option Int):Nat→Int→Option Int
 | 0,_=>none
 | m+1,s1 =>
   if (decide (s1<(s.length:Int)))=true then
    qg (0≤s1∧s1<(s.length:Int)) <|
    if (decide (ID=(ix s s1)))=true then
     some s1
    else
     Mz s ID qq m (w (s1+(1:Int)))
   else
    qq ()
def Q5 (s:qt) (ID:Int):Option Int :=
 Mz s ID (fun _ =>
   some (-1:Int)) qc (0:Int)
theorem akw {s:qt} {ID:Int} {qq:Unit→Option Int} {s1:Int} {v:Int} {Q:rf}   (jD:qR [.tmp 4] Q (fun v=>(hW v)) v) (r9:∀ (p7:List I),qq ()=some v→qQ 19 [] p7→Q (.exit 0) p7 []) {T:List I} (bX:e0 (qb false [0,2,5,2,10]) T=Hc 19 [(0,(qJ s .shared)),(1,(hW ID)),(7,(hW (s.length:Int))),(8,(hW s1))]) (h:Mz s ID qq qc s1=some v) :
  dR Tryz.prog R2 146 0 none Rr T [] Q:=by
 unfold Rr;refine wp_loop bX ?_;refine .intro (fun m T H=>∃ (s1:Int),T=Hc 19 [(0,(qJ s .shared)),(1,(hW ID)),(7,(hW (s.length:Int))),(8,(hW s1))]∧H=[]∧Mz s ID qq m s1=some v) qc ⟨s1,rfl,rfl,h⟩ ?_;clear h bX;rintro m T H ⟨s1,rfl,rfl,h⟩;cases m
 ·exact rj h
 rename_i m;rw [Mz.eq_2] at h;conv=>whnf
 refine bs h (fun gG h=>?_) fun gG h=>?_
 ·rw [gG];conv=>whnf
  refine qx h id fun gH h=>?_;rw [se hW s s1 gH];conv=>whnf
  refine bs h (fun qs h=>?_) fun qs h=>?_
  ·rw [qs];(conv=>whnf);exact qi h jD rfl rfl
  ·rw [qs];(conv=>whnf);exact ⟨m,sA m,(w (s1+(1:Int))),rfl,rfl,h⟩
 ·rw [gG];conv=>whnf
  exact r9  _ h ⟨rfl,rfl⟩
theorem akx {s:qt} {ID:Int} {v:Int} (h:Q5 s ID=some v):qB 146 [(.ax (s.map hW) s.length .shared),(hW ID)] (hW v):=by
 refine q5 et agu rfl rfl fun Q bp=>?_;have jD:qR [.tmp 4] Q (fun v=>(hW v)) v:=fun T H bI=>bp _ T H bI;unfold Q5 at h;unfold abL;obtain ⟨II,q'⟩:∃ c,Rr=c:=⟨_,rfl⟩;rw [q'];conv=>whnf
 subst q';refine akw ?_ ?_ (by exact rfl) h
 ·exact fun T H bI=>jD T H bI
 ·intro  p7 h qe;obtain ⟨qG,rfl⟩:=qe.ex;conv=>whnf
  exact qi h jD rfl rfl

noncomputable def abK:fW :=
 pZ [GC 4 [.lT (.bool false)] .mP] (pZ [pY 5 0,pY 6 1,GC 7 [.lT (.func 146 [] []),.sl 5,.sl 6] (.call 3),qA 8 7 0 .geq,pY 4 8] .ret)
theorem agt:zE Tryz.prog Wj 131=some (abK,9,[.tmp 4]):=by kernel_rfl
def Pf (s:qt) (ID:Int):Option Bool :=
 (Q5 s ID).bind fun aT =>
 some (decide ((0:Int)≤aT))
theorem akv {s:qt} {ID:Int} {v:Bool} (h:Pf s ID=some v):qB 131 [(.ax (s.map hW) s.length .shared),(hW ID)] (B v):=by
 refine q5 et agt rfl rfl fun Q bp=>?_;have jD:qR [.tmp 4] Q (fun v=>(B v)) v:=fun T H bI=>bp _ T H bI;unfold Pf at h;unfold abK;conv=>whnf
 obtain ⟨aT,gG,h⟩:=qm h;refine ⟨qw.pl,_,akx gG,?_⟩;conv=>whnf
 exact qi h jD rfl rfl

noncomputable def abE:fW :=
 pZ [GC 3 [.jh 0] .box,GC 5 [.jh 2] .box,GC 6 [.lT (.bool false)] .mP] (pZ [GC 9 [.sl 3,.sl 5] (.zS 130 0 2),pY 7 9] (pZ [GC 10 [.sl 3] (.zy .one),p1 11 1,GC 12 [.lT (.func 76 [] []),.sl 10,.sl 11] (.call 3),pY 8 12] (.seq (.block 0 (pZ [p1 14 1,qI 15 14,qA 16 15 0 .eql,pY 13 16] (.cond (.sl 13) (pZ [GC 6 [.lT (.bool true)] .mP] .ret) (pZ [p1 18 8,qI 19 18,qA 20 19 2 .gtr,pY 21 20,cS 22 [.sl 8] 21 false .mP,cS 23 [.jh 22] 21 false .zD,cS 24 [.Bt 23,.lT (.int .i64 2)] 21 false (.bin .eql),cS 25 [.jh 24] 21 false .mP,cS 26 [.jh 8] 25 true .mP,cS 27 [.Bt 5] 25 true (.zy .one),⟨some 28,[.lT (.func 131 [] []),.sl 26,.sl 27],some (25,true),none,.call 3⟩,cS 29 [.Bt 28] 25 true (.un .not),cS 30 [.Bt 25,.Bt 29,.lT (.bool false)] 21 false .pick,GC 31 [.Bt 21,.lT (.bool true),.Bt 30] .pick,pY 32 31,cS 33 [.sl 1] 32 false .mP,cS 34 [.jh 7] 32 false .mP,⟨some 35,[.lT (.func 92 [] []),.sl 33,.sl 34],some (32,false),none,.call 6⟩,cS 36 [.Bt 35] 32 false (.un .not),GC 37 [.Bt 32,.lT (.bool true),.Bt 36] .pick,pY 17 37] (.cond (.sl 17) (pZ [GC 6 [.lT (.bool false)] .mP] .ret) .skip))))) (pZ [qo 38 3,pY 39 1,GC 40 [.lT (.func 79 [] []),.sl 38,.sl 39] (.call 3),qI 41 40,qA 42 41 1 .eql,pY 6 42] .ret))))
theorem agn:zE Tryz.prog V' 109=some (abE,43,[.tmp 6]):=by kernel_rfl
def Mx (t:qn) (qp:qt) (figure:Int):Option Bool :=
 (MO t qp).bind fun aT =>
 if (decide ((qp.length:Int)=(0:Int)))=true then
  some true
 else
  if (decide ((2:Int)<(aT.length:Int)))=true then
   some false
  else
   if (decide ((aT.length:Int)=(2:Int)))=true then
    (Pf aT figure).bind fun r2 =>
    if r2=true then
     (Ld qp (fun qV=>N1 qV t figure)).bind fun eL =>
     if eL=true then
      (LV t qp).bind fun q6 =>
      some (decide ((q6.length:Int)=(1:Int)))
     else
      some false
    else
     some false
   else
    (Ld qp (fun qV=>N1 qV t figure)).bind fun r5 =>
    if r5=true then
     (LV t qp).bind fun IC =>
     some (decide ((IC.length:Int)=(1:Int)))
    else
     some false
theorem aaK {t:qn} {qp:qt} {figure:Int} {v:Bool} (h:Mx t qp figure=some v):qB 109 [(.bU [(hW t.1),(.ax (t.2.flatMap p0) t.2.length .shared)]),(.ax (qp.map hW) qp.length .shared),(hW figure)] (B v):=by
 refine q5 et agn rfl rfl fun Q bp=>?_;have jD:qR [.tmp 6] Q (fun v=>(B v)) v:=fun T H bI=>bp _ T H bI;unfold Mx at h;unfold abE;conv=>whnf
 obtain ⟨aT,gG,h⟩:=qm h;refine ⟨qw.pl,_,VA gG,?_⟩;conv=>whnf
 refine bs h (fun gH h=>?_) fun gH h=>?_
 ·rw [gH];conv=>whnf
  exact qi h jD rfl rfl
 ·rw [gH];conv=>whnf
  refine bs h (fun qs h=>?_) fun qs h=>?_
  ·rw [qs];(conv=>whnf);exact qi h jD rfl rfl
  ·rw [qs];(conv=>whnf);refine bs h (fun qF h=>?_) fun qF h=>?_
   ·rw [qF];(conv=>whnf);obtain ⟨r2,qH,h⟩:=qm h;refine ⟨qw.pl,_,akv qH,?_⟩;(conv=>whnf);cases r2
    ·(conv=>whnf);replace h:=Hl rfl h;exact qi h jD rfl rfl
    ·(conv=>whnf);replace h:=Hm rfl h;obtain ⟨eL,ra,h⟩:=qm h;refine ⟨_,_,Ja (cs:=[(qJ qp .shared),(.func 130 [] [(.bU [(.bU [(hW t.1),(p4 t.2 .shared)])]),(.bU [(hW figure)])])]) (bs:=[(qJ qp .shared),(.func 130 [] [(.bU [(.bU [(hW t.1),(p4 t.2 .shared)])]),(.bU [(hW figure)])])]) (rA rfl (rA (KQ rY (rA (Jk (cs:=[(.bU [(hW t.1),(p4 t.2 .shared)])]) (by first | exact qy.h | rfl | (simp [sy,I.settle];done)) rfl) (rA (Jk (cs:=[(hW figure)]) (by first | exact qy.h | rfl | (simp [sy,I.settle];done)) rfl) rY))) rY)) (by rfl) (by exact (p2 (r7 (fun _=>rfl) _ _ _) (p2 (Kg rfl (p2 (re (p2 (re (p2 rfl (p2 (q4 (fun _=>(p2 rfl (p2 rfl rfl))) _ _ _) rfl))) rfl)) (p2 (re (p2 rfl rfl)) rfl))) rfl))) (Ri ⟨(p2 (re (p2 (re (p2 rfl (p2 (q4 (fun _=>(p2 rfl (p2 rfl rfl))) _ _ _) rfl))) rfl)) (p2 (re (p2 rfl rfl)) rfl)),by simp⟩ (fun _ _ aZ=>aaN aZ) ra) rfl,?_⟩
     (conv=>whnf);cases eL
     ·(conv=>whnf);replace h:=Hl rfl h;exact qi h jD rfl rfl
     ·(conv=>whnf);replace h:=Hm rfl h;obtain ⟨q6,q7,h⟩:=qm h;refine ⟨qw.pl,_,VC q7,?_⟩;(conv=>whnf);exact qi h jD rfl rfl
   ·rw [qF];(conv=>whnf);obtain ⟨r5,q8,h⟩:=qm h;refine ⟨_,_,Ja (cs:=[(qJ qp .shared),(.func 130 [] [(.bU [(.bU [(hW t.1),(p4 t.2 .shared)])]),(.bU [(hW figure)])])]) (bs:=[(qJ qp .shared),(.func 130 [] [(.bU [(.bU [(hW t.1),(p4 t.2 .shared)])]),(.bU [(hW figure)])])]) (rA rfl (rA (KQ rY (rA (Jk (cs:=[(.bU [(hW t.1),(p4 t.2 .shared)])]) (by first | exact qy.h | rfl | (simp [sy,I.settle];done)) rfl) (rA (Jk (cs:=[(hW figure)]) (by first | exact qy.h | rfl | (simp [sy,I.settle];done)) rfl) rY))) rY)) (by rfl) (by exact (p2 (r7 (fun _=>rfl) _ _ _) (p2 (Kg rfl (p2 (re (p2 (re (p2 rfl (p2 (q4 (fun _=>(p2 rfl (p2 rfl rfl))) _ _ _) rfl))) rfl)) (p2 (re (p2 rfl rfl)) rfl))) rfl))) (Ri ⟨(p2 (re (p2 (re (p2 rfl (p2 (q4 (fun _=>(p2 rfl (p2 rfl rfl))) _ _ _) rfl))) rfl)) (p2 (re (p2 rfl rfl)) rfl)),by simp⟩ (fun _ _ aZ=>aaN aZ) q8) rfl,?_⟩
    (conv=>whnf);cases r5
    ·(conv=>whnf);replace h:=Hl rfl h;exact qi h jD rfl rfl
    ·(conv=>whnf);replace h:=Hm rfl h;obtain ⟨IC,rp,h⟩:=qm h;refine ⟨qw.pl,_,VC rp,?_⟩;(conv=>whnf);exact qi h jD rfl rfl

end Go.Proofs.YtfakoboiahbhaaaGreat.Ab
