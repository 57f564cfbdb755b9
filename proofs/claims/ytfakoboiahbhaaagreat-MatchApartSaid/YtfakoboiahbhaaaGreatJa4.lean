
import Derived.Test.YtfakoboiahbhaaaGreatJa3
set_option linter.unusedSimpArgs false
set_option linter.unusedVariables false
set_option linter.unusedSectionVars false

namespace Go.Proofs.YtfakoboiahbhaaaGreat.Ab
open Go
section
variable {P:Program} {B N:Nat} {J:List Nat} {w:World} {H:List ar} {U:Nat→Option aH} {S:Nat→Nat→Prop}
theorem aiv (eo:P.follows .mixedOrders=true) {l lo:Nat} {fn:FuncId} {T a':List I} {bn:List Nat} {as cp:Code} {an:db} {args:List I} {H':List ar}
  (ao:H[l]?=some (.loop .ready none fn T bn as cp an)) (eD:il bn args T=some a') (It:bb lo H H')
  (h:c8 P an fn lo (some l) as 0 ⟨a',H⟩ fun e s1=>e=.normal∧s1.H[l]?=some (.loop .ready none fn T bn as cp an) ∧
   c8 P an fn lo (some l) cp 0 ⟨s1.T,s1.H.set l (.loop .busy none fn T bn as cp an)⟩ fun e s2=>e=.normal∧s2.H[l]?=some (.loop .busy none fn T bn as cp an)∧lB (s2.H.set l (.loop .ready none fn T bn as cp an)) H') :
  Sem P (.yield l) args H lo (.bool true) H':=by
 refine ⟨It,fun B U J S w xs b ah _ ae ag=>?_⟩;obtain ⟨a_,ba,au,L,aC,aI,aR,bk,bc,bf,c9,dr,dS,gw,BK⟩:=ah.obj l _ ao;rw [ag] at aC;cases aC;have cB:=A7 bn args T a' xs L.tmps.toList eD ae.len (by simpa using c9.symm);obtain ⟨ca,b5,en,iD⟩:=cB;refine ⟨L,aR,by rw [←ae.len,←ca,←dS];simp,?_⟩;refine roundIn_of_wpIn trivial ?_;have xa:(iY L xs).toList=(bn.zip xs).foldl (fun (l:List Value) (p:Nat×Value)=>l.set p.1 p.2) L.tmps.toList:=by rw [E_,dS]
 obtain ⟨dv,gC⟩:=Gg bn ah;have aL:cv B w.heap.size (jg bn U) J S w ⟨a',H⟩ { tmps:=iY L xs,defers:=[] }:=by
  refine ⟨?_,gC,Nat.le_refl _,fun d a2=>by simp at a2,List.Pairwise.nil⟩;simp only [xa];have key:∀ (i:Nat) (u:I) (x:Value),a'[i]?=some u→((bn.zip xs).foldl (fun (l:List Value) (p:Nat×Value)=>l.set p.1 p.2) L.tmps.toList)[i]?=some x →
    Rel J S w u x∧aV (jg bn U) J S w (.slot i) u x:=fun i u x hu ak=>by
   rcases iD i u x hu ak with ⟨aJ,aQ⟩ | ⟨j,aJ,aQ,cn⟩
   ·obtain ⟨bR,bY⟩:=dr i u x aJ (by simpa using aQ);exact ⟨bY,aV.b3 bR⟩
   ·exact ⟨ae.rel j u x aQ cn,(ae.own j u x aQ cn).mono (Ext.refl J) (fun _ _ h=>⟨h,rfl⟩) fun b ag=>⟨by simp [jg,ag,aJ],rfl,fun _ h=>h⟩⟩
  exact ⟨by rw [b5,en,←c9];simp,fun i u x hu ak=>(key i u x hu ak).1,fun i u x hu ak=>(key i u x hu ak).2⟩
 rw [gw,BK];refine By eo as 0 _ _ h a_ _ _ B w.heap.size J w (jg bn U) S _ (.inr ⟨l,b,rfl,ag,rfl⟩) (fun l a w aO=>aO) aL fun e1 s1 av aC bG ai=>?_;obtain ⟨rfl,jM,af⟩:=av;obtain ⟨b4,c0,a7,aJ,aQ,cf⟩:=ai;have gD:c0[l]?=some b:=aJ _ _ ag;obtain ⟨_,_,au,oL,d1,d2,d3,d4,d5,_⟩:=cf.H.obj l _ jM;rw [gD] at d1;cases d1;obtain ⟨ek,Cx⟩:=cf.loop jM gD d3 .busy none;have CK:(Instr.beginRound b).run P bG=.ok () (bG.putObj b (.loop { oL with state:=.busy,pending:=none })):=by
  rw [run_beginRound d3 d4]
  have:({ oL with state:=.busy,pending:=none }:Loop)={ oL with state:=.busy }:=by rw [←d5]
  rw [this]
 refine ⟨_,CK,?_⟩;refine wpIn_mono (Q:=fun cW aM w'=>(∀ t,cW≠Exit.goto t)∧roundPost P b (fS B U J S w H' (.bool true)) cW aM w') ?_ (fun e a w h=>h.2);refine By eo cp 0 _ _ af ba _ _ B w.heap.size c0 _ b4 a7 _ (.inr ⟨l,b,rfl,gD,rfl⟩) (fun l a w aO=>aO.1 l rfl) Cx fun b' s2 av aI bX ai=>?_;obtain ⟨rfl,gb,nC⟩:=av;obtain ⟨bq,cj,bK,cn,mD,yQ⟩:=ai;have gE:cj[l]?=some b:=cn _ _ gD;obtain ⟨_,_,au,jm,f1,f2,f3,f4,f5,_⟩:=yQ.H.obj l _ gb;rw [gE] at f1;cases f1;have lW:bh U S w bq bK bX:=((dv.trans aQ).trans ek).trans mD;refine ⟨fun t ay=>(by cases ay),?_⟩;refine ⟨_,_,run_endRound none f3,?_⟩;obtain ⟨Ck,Cy⟩:=yQ.loop gb gE f3 .ready none;exact a0.o6 nC ⟨bq,cj,bK,aJ.trans cn,lW.trans Ck,Cy.H,.bool _,aV.b3 rfl⟩
theorem XL (eo:P.follows .mixedOrders=true) {l lo:Nat} {fn:FuncId} {T a':List I} {bn:List Nat} {as cp:Code} {an:db} {args:List I} {H':List ar} {oc od:fT}
  (cb:eg P an as 0=some oc) (ag:eg P an cp 0=some od)
  (ao:H[l]?=some (.loop .ready none fn T bn as cp an)) (eD:il bn args T=some a') (It:bb lo H H')
  (h:dO P an fn lo (some l) oc a' H fun e fU H1=>e=.normal∧H1[l]?=some (.loop .ready none fn T bn as cp an) ∧
   dO P an fn lo (some l) od fU (H1.set l (.loop .busy none fn T bn as cp an)) fun e dR a3=>e=.normal∧a3[l]?=some (.loop .busy none fn T bn as cp an)∧lB (a3.set l (.loop .ready none fn T bn as cp an)) H') :
  Sem P (.yield l) args H lo (.bool true) H' :=
 aiv eo ao eD It (m8 (fun e s aZ=>⟨aZ.1,aZ.2.1,DV ag aZ.2.2⟩) (DV cb h))
end
end Go.Proofs.YtfakoboiahbhaaaGreat.Ab


namespace Go.Proofs.YtfakoboiahbhaaaGreat.Ab
open Go
abbrev pZ (d s:Nat):dq:=GC d [.sl s] .mN
abbrev pX (d s:Nat):dq:=GC d [.jf s] .mN
abbrev qa (d:Nat) (n:Int):dq:=GC d [.lR (.int .i64 n)] .mN
abbrev qE (d s:Nat) (n:Int):dq:=GC d [.Bs s,.lR (.int .i64 n)] (.bin .add)
abbrev qI (d s t:Nat) (o:BinOp):dq:=GC d [.Bs s,.Bs t] (.bin o)
abbrev qq (d s:Nat) (n:Int) (o:BinOp):dq:=GC d [.Bs s,.lR (.int .i64 n)] (.bin o)
abbrev qM (d s:Nat):dq:=GC d [.jf s] .zC
abbrev qc (d s:Nat):dq:=GC d [.Bs s] (.zx .one)
abbrev qF (d s k:Nat):dq:=GC d [.Bs s] (.yG k)
abbrev qL (d s t k:Nat):dq:=GC d [.Bs s,.Bs t] (.kQ k)
abbrev rA (d s k:Nat):dq:=GC d [.sl s] (.ext k)
abbrev cR (d:Nat) (l:List jn) (g:Nat) (b:Bool) (k:iu):dq:=⟨some d,l,some (g,b),none,k⟩
abbrev qv (l:List dq):fT:=.oh false l
abbrev Hi (l:List dq):fT:=.oh true l
abbrev pY (l:List dq) (c:fT):fT:=.seq (.oh false l) c
abbrev akp (n:Nat):fT:=.cond (.sl n) .skip .skip
def XD (b:Bool):Nat→List Bool→List Bool
 | 0,l=>l
 | n+1,l=>b::XD b n l
def p_:Bool→List Nat→List Bool
 | _,[]=>[]
 | b,n::r=>XD b n (p_ (!b) r)
end Go.Proofs.YtfakoboiahbhaaaGreat.Ab
