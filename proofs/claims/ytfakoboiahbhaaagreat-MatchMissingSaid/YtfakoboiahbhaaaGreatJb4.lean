
import Derived.Test.YtfakoboiahbhaaaGreatJb3
set_option linter.unusedSimpArgs false
set_option linter.unusedVariables false
set_option linter.unusedSectionVars false

namespace Go.Proofs.YtfakoboiahbhaaaGreat.Ab
open Go
section
variable {P:Program} {B N:Nat} {J:List Nat} {w:World} {H:List ar} {U:Nat→Option aH} {S:Nat→Nat→Prop}
theorem akd (et:P.follows .mixedOrders=true) {l lo:Nat} {fn:FuncId} {T ba:List I} {bo:List Nat} {as cq:Code} {an:dd} {args:List I} {H':List ar}
  (ao:H[l]?=some (.loop .ready none fn T bo as cq an)) (eG:iq bo args T=some ba) (Jd:bc lo H H')
  (h:c_ P an fn lo (some l) as 0 ⟨ba,H⟩ fun e s1=>e=.normal∧s1.H[l]?=some (.loop .ready none fn T bo as cq an) ∧
   c_ P an fn lo (some l) cq 0 ⟨s1.T,s1.H.set l (.loop .busy none fn T bo as cq an)⟩ fun e s2=>e=.normal∧s2.H[l]?=some (.loop .busy none fn T bo as cq an)∧lD (s2.H.set l (.loop .ready none fn T bo as cq an)) H') :
  Sem P (.yield l) args H lo (.bool true) H':=by
 refine ⟨Jd,fun B U J S w xs b ah _ ae ag=>?_⟩;obtain ⟨a',bb,au,L,aC,aI,aR,bl,bd,bg,c',dv,dV,gz,BK⟩:=ah.obj l _ ao;rw [ag] at aC;cases aC;have cC:=A8 bo args T ba xs L.tmps.toList eG ae.len (by simpa using c'.symm);obtain ⟨cb,b6,er,iF⟩:=cC;refine ⟨L,aR,by rw [←ae.len,←cb,←dV];simp,?_⟩;refine roundIn_of_wpIn trivial ?_;have xb:(i_ L xs).toList=(bo.zip xs).foldl (fun (l:List Value) (p:Nat×Value)=>l.set p.1 p.2) L.tmps.toList:=by rw [E_,dV]
 obtain ⟨dy,gF⟩:=Gg bo ah;have aL:cw B w.heap.size (ji bo U) J S w ⟨ba,H⟩ { tmps:=i_ L xs,defers:=[] }:=by
  refine ⟨?_,gF,Nat.le_refl _,fun d a3=>by simp at a3,List.Pairwise.nil⟩;simp only [xb];have key:∀ (i:Nat) (u:I) (x:Value),ba[i]?=some u→((bo.zip xs).foldl (fun (l:List Value) (p:Nat×Value)=>l.set p.1 p.2) L.tmps.toList)[i]?=some x →
    Rel J S w u x∧aW (ji bo U) J S w (.slot i) u x:=fun i u x hu ak=>by
   rcases iF i u x hu ak with ⟨aJ,aQ⟩ | ⟨j,aJ,aQ,cp⟩
   ·obtain ⟨bS,bZ⟩:=dv i u x aJ (by simpa using aQ);exact ⟨bZ,aW.b4 bS⟩
   ·exact ⟨ae.rel j u x aQ cp,(ae.own j u x aQ cp).mono (Ext.refl J) (fun _ _ h=>⟨h,rfl⟩) fun b ag=>⟨by simp [ji,ag,aJ],rfl,fun _ h=>h⟩⟩
  exact ⟨by rw [b6,er,←c'];simp,fun i u x hu ak=>(key i u x hu ak).1,fun i u x hu ak=>(key i u x hu ak).2⟩
 rw [gz,BK];refine By et as 0 _ _ h a' _ _ B w.heap.size J w (ji bo U) S _ (.inr ⟨l,b,rfl,ag,rfl⟩) (fun l a w aO=>aO) aL fun e1 s1 av aC bH ai=>?_;obtain ⟨rfl,jO,af⟩:=av;obtain ⟨b5,c2,a8,aJ,aQ,cg⟩:=ai;have gG:c2[l]?=some b:=aJ _ _ ag;obtain ⟨_,_,au,oN,d1,d2,d3,d4,d5,_⟩:=cg.H.obj l _ jO;rw [gG] at d1;cases d1;obtain ⟨ep,Cx⟩:=cg.loop jO gG d3 .busy none;have CK:(Instr.beginRound b).run P bH=.ok () (bH.putObj b (.loop { oN with state:=.busy,pending:=none })):=by
  rw [run_beginRound d3 d4]
  have:({ oN with state:=.busy,pending:=none }:Loop)={ oN with state:=.busy }:=by rw [←d5]
  rw [this]
 refine ⟨_,CK,?_⟩;refine wpIn_mono (Q:=fun cX aM w'=>(∀ t,cX≠Exit.goto t)∧roundPost P b (fV B U J S w H' (.bool true)) cX aM w') ?_ (fun e a w h=>h.2);refine By et cq 0 _ _ af bb _ _ B w.heap.size c2 _ b5 a8 _ (.inr ⟨l,b,rfl,gG,rfl⟩) (fun l a w aO=>aO.1 l rfl) Cx fun ca s2 av aI bY ai=>?_;obtain ⟨rfl,gg,nE⟩:=av;obtain ⟨br,ck,bL,cp,mF,yR⟩:=ai;have gH:ck[l]?=some b:=cp _ _ gG;obtain ⟨_,_,au,jo,f1,f2,f3,f4,f5,_⟩:=yR.H.obj l _ gg;rw [gH] at f1;cases f1;have lY:bj U S w br bL bY:=((dy.trans aQ).trans ep).trans mF;refine ⟨fun t ay=>(by cases ay),?_⟩;refine ⟨_,_,run_endRound none f3,?_⟩;obtain ⟨Ck,Cy⟩:=yR.loop gg gH f3 .ready none;exact a1.o8 nE ⟨br,ck,bL,aJ.trans cp,lY.trans Ck,Cy.H,.bool _,aW.b4 rfl⟩
theorem aiR (et:P.follows .mixedOrders=true) {l lo:Nat} {fn:FuncId} {T ba:List I} {bo:List Nat} {as cq:Code} {an:dd} {args:List I} {H':List ar} {oe og:fW}
  (cc:ej P an as 0=some oe) (ag:ej P an cq 0=some og)
  (ao:H[l]?=some (.loop .ready none fn T bo as cq an)) (eG:iq bo args T=some ba) (Jd:bc lo H H')
  (h:dR P an fn lo (some l) oe ba H fun e fX H1=>e=.normal∧H1[l]?=some (.loop .ready none fn T bo as cq an) ∧
   dR P an fn lo (some l) og fX (H1.set l (.loop .busy none fn T bo as cq an)) fun e dU a4=>e=.normal∧a4[l]?=some (.loop .busy none fn T bo as cq an)∧lD (a4.set l (.loop .ready none fn T bo as cq an)) H') :
  Sem P (.yield l) args H lo (.bool true) H' :=
 akd et ao eG Jd (m_ (fun e s a0=>⟨a0.1,a0.2.1,DV ag a0.2.2⟩) (DV cc h))
end
end Go.Proofs.YtfakoboiahbhaaaGreat.Ab


namespace Go.Proofs.YtfakoboiahbhaaaGreat.Ab
open Go
abbrev p1 (d s:Nat):du:=GC d [.sl s] .mP
abbrev pY (d s:Nat):du:=GC d [.jh s] .mP
abbrev qd (d:Nat) (n:Int):du:=GC d [.lT (.int .i64 n)] .mP
abbrev qU (d s:Nat) (n:Int):du:=GC d [.Bt s,.lT (.int .i64 n)] (.bin .add)
abbrev qT (d s t:Nat) (o:BinOp):du:=GC d [.Bt s,.Bt t] (.bin o)
abbrev qA (d s:Nat) (n:Int) (o:BinOp):du:=GC d [.Bt s,.lT (.int .i64 n)] (.bin o)
abbrev qI (d s:Nat):du:=GC d [.jh s] .zD
abbrev qo (d s:Nat):du:=GC d [.Bt s] (.zy .one)
abbrev qW (d s k:Nat):du:=GC d [.Bt s] (.yH k)
abbrev qZ (d s t k:Nat):du:=GC d [.Bt s,.Bt t] (.kR k)
abbrev rI (d s k:Nat):du:=GC d [.sl s] (.ext k)
abbrev cS (d:Nat) (l:List jq) (g:Nat) (b:Bool) (k:iw):du:=⟨some d,l,some (g,b),none,k⟩
abbrev qK (l:List du):fW:=.oj false l
abbrev sj (l:List du):fW:=.oj true l
abbrev pZ (l:List du) (c:fW):fW:=.seq (.oj false l) c
abbrev ams (n:Nat):fW:=.cond (.sl n) .skip .skip
def Zb (b:Bool):Nat→List Bool→List Bool
 | 0,l=>l
 | n+1,l=>b::Zb b n l
def qb:Bool→List Nat→List Bool
 | _,[]=>[]
 | b,n::r=>Zb b n (qb (!b) r)
end Go.Proofs.YtfakoboiahbhaaaGreat.Ab
