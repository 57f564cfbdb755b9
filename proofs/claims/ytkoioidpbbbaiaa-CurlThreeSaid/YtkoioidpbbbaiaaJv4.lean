
import Derived.Test.YtkoioidpbbbaiaaJv3
set_option linter.unusedSimpArgs false
set_option linter.unusedVariables false
set_option linter.unusedSectionVars false

open Option renaming map_eq_some_iff→r_
namespace Go.Proofs.Ytkoioidpbbbaiaa.Ab
open Go
inductive H9 where
 | tmp (t:Nat) | cell (a:Nat) (g:g5)
def J_ (g:g5) (cs:List I) (off:Nat):Option I:=match g with
 | .one=>(cs[off]?).map I.view
 | .str s=>if off+s≤cs.length then some (.agg (((cs.drop off).take s).map I.view)) else none
 | .arr s=>if off+s≤cs.length then some (.agg (((cs.drop off).take s).map I.view)) else none
theorem abQ {P:Program} {t:TypeId} {g:g5} (h:iL P t=some g) (cs:List I) (off:Nat):e6 P t cs off=J_ g cs off:=by
 rcases yt h with ⟨rfl,ab,d,ae⟩ | ⟨s,ae,ab⟩
 ·simp [e6,J_,ab,ae]
 ·rcases ae with ⟨rfl,ae⟩ | ⟨rfl,ae⟩ <;> simp [e6,J_,ab,ae]
def Mi (H:List ar) (g:g5):I→Option I
 | .ptr id off=>match H[id]? with
   | some (.cells l)=>J_ g l off
   | some (.grow l _ _)=>J_ g l off
   | _=>none
 | .bS cells=>J_ g cells 0
 | _=>none
theorem Pk {P:Program} {t:TypeId} {g:g5} (h:iL P t=some g) (H:List ar) (a:I):dz P H t a=Mi H g a:=by
 cases a <;> simp only [dz,Mi,abQ h] <;> rfl
noncomputable def rF (H:List ar) (T:List I):List H9→Option (List I)
 | []=>some []
 | .tmp t::r=>(rF H T r).map (df T t::·)
 | .cell a g::r=>match Mi H g (df T a),rF H T r with
   | some v,some vs=>some (v::vs)
   | _,_=>none
def KP (P:Program):List ResultVar→Option (List H9)
 | []=>some []
 | .tmp t::r=>(KP P r).map (.tmp t::·)
 | .cell a t::r=>match iL P t,KP P r with
   | some g,some l=>some (.cell a g::l)
   | _,_=>none
theorem MO {P:Program} (H:List ar) (T:List I):∀ {rs:List ResultVar} {l:List H9},KP P rs=some l→gX P H T rs=rF H T l
 | [],l,h=>by simp [KP] at h;subst h;rfl
 | .tmp t::r,l,h=>by
   simp only [KP,r_] at h;obtain ⟨l,h,rfl⟩:=h;simp only [gX,rF,MO H T h]
 | .cell a t::r,l,h=>by
   simp only [KP] at h;split at h
   ·rename_i g l' ab ae;simp only [Option.some.injEq] at h;subst h;simp only [gX,rF,MO H T ae,Pk ab];rfl
   ·cases h
inductive Me (rs:List H9) (v:I) (e:cQ) (T:List I) (H:List ar):Prop where
 | mk (he:e=.normal∨e=.ret) (vs:List I) (ai:rF H T rs=some vs) (r:I) (aP:bM H 0 H.length 0 8 (jg vs)=some r) (ad:r=v∨r.settle=v)
theorem JR {rs:List H9} {v:I} {e:cQ} {T:List I} {H:List ar} (he:e=.normal∨e=.ret) (aB:cr 8 v=true) (h:(rF H T rs).map jg=some v):Me rs v e T H:=by
 simp only [r_] at h;obtain ⟨vs,ab,ae⟩:=h;exact ⟨he,vs,ab,v,by rw [ae];exact yY aB,.inl rfl⟩
theorem adP {c:List I} {n z:Nat} {d:Nat} (h:cr d (.av c n (.own z))=true):cr d (.av c n (.uniq z))=true:=by
 cases d with
 | zero=>simp [cr] at h
 | succ d=>simpa only [cr] using h
theorem aeU {rs:List H9} {c:List I} {n z:Nat} {e:cQ} {T:List I} {H:List ar} (he:e=.normal∨e=.ret) (aB:cr 8 (.av c n (.own z))=true) (h:(rF H T rs).map jg=some (.av c n (.own z))∨(rF H T rs).map jg=some (.av c n (.uniq z))):Me rs (.av c n (.own z)) e T H:=by
 rcases h with h | h
 ·exact JR he aB h
 ·simp only [r_] at h;obtain ⟨vs,ab,ae⟩:=h;exact ⟨he,vs,ab,.av c n (.uniq z),by rw [ae];exact yY (adP aB),.inr rfl⟩
noncomputable def ql (P:Program) (A:dx) (k:Nat):Option (gE×Nat×List H9):=match P.funcs[k]? with
 | some f=>match f.body with
   | some c => match codeOk A c, f.name == "runtime.NumGoroutine", ey P A c 0, KP P f.results.toList with
     | true,false,some rc,some ts=>some (rc,f.ntmps,ts)
     | _,_,_,_=>none
   | none=>none
 | none=>none
theorem Pz {P:Program} (eG:P.follows .mixedOrders=true) {k:Nat} {A:dx} {rc:gE} {n:Nat} {ts:List H9} (ao:ql P A k=some (rc,n,ts)) {args T:List I} (b0:args++List.replicate (n-args.length) .a0=T) {v:I} (aB:cr 8 v=true)
  (h:dQ P A k 0 none rc T [] (Me ts v)):np P k args v:=by
 unfold ql at ao;split at ao
 ·rename_i f aP;split at ao
  ·rename_i c af;split at ao
   ·rename_i VA Of ab ae aF a_;simp only [Option.some.injEq,Prod.mk.injEq] at ao;obtain ⟨rfl,rfl,rfl⟩:=ao;subst b0;have a':∀ e s,Me Of v e (a6.T s) (a6.H s)→(e=.normal∨e=.ret)∧∃ vs r,gX P s.H s.T f.results.toList=some vs∧bM s.H 0 s.H.length 0 8 (jg vs)=some r∧(r=v∨r.settle=v):=fun e s ⟨cf,vs,PC,r,ca,eS⟩=>by
     exact ⟨cf,vs,r,by rw [MO _ _ a_,PC],ca,eS⟩
    exact G' eG aP af (by simpa using ae) ab aB (oS a' (G7 aF h))
   ·cases ao
  ·cases ao
 ·cases ao
def Ob:Nat→Nat→List (Nat×I)→List I
 | 0,_,_=>[]
 | n+1,i,[]=>.a0::Ob n (i+1) []
 | n+1,i,(j,v)::r=>match Nat.beq i j with
   | true=>v::Ob n (i+1) r
   | false=>.a0::Ob n (i+1) ((j,v)::r)
abbrev qa (n:Nat) (l:List (Nat×I)):List I:=Ob n 0 l
abbrev p0 (d:Nat) (s:List kr) (k:jy):dP:=⟨some d,s,none,none,k⟩
noncomputable section
def Ji:Code→List (Code×Code)
 | .rangeFunc _ _ a b=>(a,b)::(Ji a++Ji b)
 | .seq a b=>Ji a++Ji b
 | .cond _ a b=>Ji a++Ji b
 | .block _ c=>Ji c
 | .loop c=>Ji c
 | .scope c=>Ji c
 | _=>[]
def S4 (P:Program) (k:Nat):Code:=match P.funcs[k]? with
 | some f=>match f.body with
   | some c=>c
   | none=>.skip
 | none=>.skip
def q8 (P:Program) (k i:Nat):Code:=match (Ji (S4 P k))[i]? with
 | some x=>x.1
 | none=>.skip
def q9 (P:Program) (k i:Nat):Code:=match (Ji (S4 P k))[i]? with
 | some x=>x.2
 | none=>.skip
end
end Go.Proofs.Ytkoioidpbbbaiaa.Ab


namespace Go.Proofs.Ytkoioidpbbbaiaa.Ab
open Go
section
variable {P:Program} {B:Nat} {J:List Nat} {w:World} {H:List ar} {aa:Nat→Option aH} {S:Nat→Nat→Prop}
theorem adH (ag:aK B aa J S w H) {es:List (Nat×I×I)} {clock:Nat} {D:List ar} {x:Value} {bX:World} (I':∀ (j i:Nat) (k v:I),es[j]?=some (i,k,v)→cr 8 k=true∧cr 8 v=true)
  (aB:aZ B (dT aa) [] S w (.map es clock::D) (.map 0) x bX):aZ B aa J S w (H++[.map es clock]) (.map H.length) x bX:=by
 obtain ⟨bu,ck,bL,bN,az,ch,ai,aq⟩:=aB;obtain ⟨de,bB,aA,aG,aT,br,bg,bd⟩:=ch.obj 0 _ rfl
 let ay:Nat→Option aH:=fun b=>match aa b with
  | some (.obj id)=>some (.obj id)
  | some (.cell id j)=>some (.cell id j)
  | _=>match bu b with
    | some (.obj 0)=>some (.obj H.length)
    | some (.obj _)=>none
    | some (.cell _ _)=>none
    | l=>l
 have jZ:∀ b l,aa b=some l→((∃ id,l=.obj id)∨∃ id j,l=.cell id j)→ay b=some l∧bu b=none∧b<w.heap.size:=fun b l af ao=>by
  have aR:=(ag.base b l af).2;have ae:bu b=none:=by
   cases h:bu b with
   | none=>rfl
   | some l' =>
     rcases az.own b (by simp [h]) with ab | ab
     ·exfalso;apply ab;rcases ao with ⟨id,rfl⟩ | ⟨id,j,rfl⟩ <;> simp [dT,af]
     ·omega
  refine ⟨?_,ae,aR⟩;rcases ao with ⟨id,rfl⟩ | ⟨id,j,rfl⟩ <;> simp [ay,af]
 have xa:∀ b,ay b≠none→aa b≠none∨bu b≠none:=fun b h=>by
  by_cases ab:aa b=none
  ·right;intro ae;apply h;simp [ay,ab,ae]
  ·exact .inl ab
 have cu:∀ b,dT aa b≠none→aa b≠none:=fun b h aQ=>h (by simp [dT,aQ]);have l5:bl aa S w ay bL bX :=
  ⟨az.os,az.tape,az.output,az.size,fun b af aI=>az.cE b af (by simp [dT,aI]),az.set,fun b o h=>by
   rcases az.fresh b o h with h | h | h
   ·exact .inl h
   ·exact .inr (.inl (cu b h))
   ·exact .inr (.inr h),fun b h=>by
   rcases xa b h with h | h
   ·exact .inl h
   ·rcases az.own b h with h | h
    ·exact .inl (cu b h)
    ·exact .inr h⟩
 have kL:ay de=some (.obj H.length):=by
  cases ab:aa de with
  | none=>simp [ay,ab,aG]
  | some l =>
    cases l with
    | obj id=>have:=(jZ de _ ab (.inl ⟨id,rfl⟩)).2.1;rw [aG] at this;cases this
    | cell id j=>have:=(jZ de _ ab (.inr ⟨id,j,rfl⟩)).2.1;rw [aG] at this;cases this
    | _=>simp [ay,ab,aG]
 have bG:aK B ay J bL bX H:=ag.frame l5 (fun b l af ao=>by
  obtain ⟨ab,ae,aF⟩:=jZ b l af ao;have aI:dT aa b=none:=by rcases ao with ⟨id,rfl⟩ | ⟨id,j,rfl⟩ <;> simp [dT,af]
  refine ⟨ab,az.cE b aF aI,fun o h=>?_⟩;rcases az.fresh b o h with h | h | h
  ·exact h
  ·exact absurd aI h
  ·omega) ch.cd fun b l af=>by
  by_cases h:aa b=none
  ·(have bw:bu b≠none:=fun ae=>by simp [ay,h,ae] at af);cases ae:bu b with
   | none=>exact absurd ae bw
   | some l'=>exact ch.base b l' ae
  ·cases ab:aa b with
   | none=>exact absurd ab h
   | some l'=>obtain ⟨p,q⟩:=ag.base b l' ab;exact ⟨p,Nat.lt_of_lt_of_le q az.size⟩
 refine ⟨ay,J++[de],bL,Ext.append J [de],l5,bG.push de ⟨de,bB,Ext.last ag de,kL,aT,br,bg,fun j i k v c hu ak=>?_⟩,?_,?_⟩
 ·obtain ⟨a7,a9,bt,b6,dV⟩:=bd j i k v c hu ak;obtain ⟨bU,b1⟩:=I' j i k v hu;exact ⟨a7,a9,bt.pure _ bU,b6,dV.pure _ b1⟩
 ·cases ai with
  | map id b k=>rw [aA] at k;cases k;exact .map _ _ (Ext.last ag de)
 ·exact aU.b4 rfl
theorem ae7 {k:FuncId} {args:List I} {es:List (Nat×I×I)} {clock:Nat} {D:List ar} (cu:args.all (cr 8)=true) (I':∀ (j i:Nat) (k v:I),es[j]?=some (i,k,v)→cr 8 k=true∧cr 8 v=true)
  (h:Sem P (.fn k) args [] 0 (.map 0) (.map es clock::D)) (H:List ar):Sem P (.fn k) args H H.length (.map H.length) (H++[.map es clock]):=by
 obtain ⟨_,ab,ae⟩:=h
 exact ⟨ba.append _ _ _,ab,fun B aa J S w vs ag aI ad=>CallsIn.mono (ae B _ [] S w vs (w7 ag) (fun b i h=>by obtain ⟨_,_,h⟩:=ku h;cases h) (ad.pure cu)) fun e w' he=>by
  cases e with
  | returned v=>exact adH ag I' he
  | panicked c=>exact he.elim
  | outgrown=>exact he.elim⟩
theorem UG {f:I→Option I}:∀ {es:List (Nat×I×I)},(∀ (j i:Nat) (k v:I),es[j]?=some (i,k,v)→f k=some k∧f v=some v)→mapM f es=some es
 | [],_=>rfl
 | (i,k,v)::es,h=>by
   obtain ⟨ab,ae⟩:=h 0 i k v rfl;simp only [mapM,ab,ae,UG fun j i k v aw=>h (j+1) i k v (by simpa using aw),Option.map_some]
end
end Go.Proofs.Ytkoioidpbbbaiaa.Ab


namespace Go.Proofs.Ytkoioidpbbbaiaa.Ab
open Go
section
variable {P:Program} {B N:Nat} {J:List Nat} {w:World} {H:List ar} {aa:Nat→Option aH} {S:Nat→Nat→Prop}
theorem af0 (eG:P.follows .mixedOrders=true) {l lo:Nat} {fn:FuncId} {T bf:List I} {bq:List Nat} {as ct:Code} {an:dx} {args:List I} {H':List ar}
  (ao:H[l]?=some (.loop .ready none fn T bq as ct an)) (eH:iC bq args T=some bf) (JK:ba lo H H')
  (h:dc P an fn lo (some l) as 0 ⟨bf,H⟩ fun e s1=>e=.normal∧s1.H[l]?=some (.loop .ready none fn T bq as ct an) ∧
   dc P an fn lo (some l) ct 0 ⟨s1.T,s1.H.set l (.loop .busy none fn T bq as ct an)⟩ fun e s2=>e=.normal∧s2.H[l]?=some (.loop .busy none fn T bq as ct an)∧lJ (s2.H.set l (.loop .ready none fn T bq as ct an)) H') :
  Sem P (.yield l) args H lo (.bool true) H':=by
 refine ⟨JK,fun B aa J S w xs b ag _ ad af=>?_⟩;obtain ⟨a7,a9,au,L,aA,aG,aT,br,bg,bd,dd,dy,dS,gF,BM⟩:=ag.obj l _ ao;rw [af] at aA;cases aA;have cJ:=A_ bq args T bf xs L.tmps.toList eH ad.len (by simpa using dd.symm);obtain ⟨cf,ca,eS,iP⟩:=cJ;refine ⟨L,aT,by rw [←ad.len,←cf,←dS];simp,?_⟩;refine roundIn_of_wpIn trivial ?_;have xe:(jh L xs).toList=(bq.zip xs).foldl (fun (l:List Value) (p:Nat×Value)=>l.set p.1 p.2) L.tmps.toList:=by rw [Fb,dS]
 obtain ⟨dC,gL⟩:=Gi bq ag;have aL:cA B w.heap.size (jr bq aa) J S w ⟨bf,H⟩ { tmps:=jh L xs,defers:=[] }:=by
  refine ⟨?_,gL,Nat.le_refl _,fun d a1=>by simp at a1,List.Pairwise.nil⟩;simp only [xe];have key:∀ (i:Nat) (u:I) (x:Value),bf[i]?=some u→((bq.zip xs).foldl (fun (l:List Value) (p:Nat×Value)=>l.set p.1 p.2) L.tmps.toList)[i]?=some x →
    Rel J S w u x∧aU (jr bq aa) J S w (.slot i) u x:=fun i u x hu aj=>by
   rcases iP i u x hu aj with ⟨aJ,aN⟩ | ⟨j,aJ,aN,cb⟩
   ·obtain ⟨bU,b1⟩:=dy i u x aJ (by simpa using aN);exact ⟨b1,aU.b4 bU⟩
   ·exact ⟨ad.rel j u x aN cb,(ad.own j u x aN cb).mono (Ext.refl J) (fun _ _ h=>⟨h,rfl⟩) fun b af=>⟨by simp [jr,af,aJ],rfl,fun _ h=>h⟩⟩
  exact ⟨by rw [ca,eS,←dd];simp,fun i u x hu aj=>(key i u x hu aj).1,fun i u x hu aj=>(key i u x hu aj).2⟩
 rw [gF,BM];refine Bz eG as 0 _ _ h a7 _ _ B w.heap.size J w (jr bq aa) S _ (.inr ⟨l,b,rfl,af,rfl⟩) (fun l a w aO=>aO) aL fun e1 s1 al aA bI ah=>?_;obtain ⟨rfl,jV,ae⟩:=al;obtain ⟨b5,cZ,a4,aJ,aN,cg⟩:=ah;have gM:cZ[l]?=some b:=aJ _ _ af;obtain ⟨_,_,au,oY,d1,d2,d3,d4,d5,_⟩:=cg.H.obj l _ jV;rw [gM] at d1;cases d1;obtain ⟨ep,Cx⟩:=cg.loop jV gM d3 .busy none;have CL:(Instr.beginRound b).run P bI=.ok () (bI.putObj b (.loop { oY with state:=.busy,pending:=none })):=by
  rw [run_beginRound d3 d4]
  have:({ oY with state:=.busy,pending:=none }:Loop)={ oY with state:=.busy }:=by rw [←d5]
  rw [this]
 refine ⟨_,CL,?_⟩;refine wpIn_mono (Q:=fun cV aM w'=>(∀ t,cV≠Exit.goto t)∧roundPost P b (fZ B aa J S w H' (.bool true)) cV aM w') ?_ (fun e a w h=>h.2);refine Bz eG ct 0 _ _ ae a9 _ _ B w.heap.size cZ _ b5 a4 _ (.inr ⟨l,b,rfl,gM,rfl⟩) (fun l a w aO=>aO.1 l rfl) Cx fun b' s2 al aG bX ah=>?_;obtain ⟨rfl,eF,nL⟩:=al;obtain ⟨bu,ck,bL,cb,hq,yZ⟩:=ah;have gN:ck[l]?=some b:=cb _ _ gM;obtain ⟨_,_,au,jx,f1,f2,f3,f4,f5,_⟩:=yZ.H.obj l _ eF;rw [gN] at f1;cases f1;have l6:bl aa S w bu bL bX:=((dC.trans aN).trans ep).trans hq;refine ⟨fun t ax=>(by cases ax),?_⟩;refine ⟨_,_,run_endRound none f3,?_⟩;obtain ⟨Cm,Cy⟩:=yZ.loop eF gN f3 .ready none;exact aZ.pd nL ⟨bu,ck,bL,aJ.trans cb,l6.trans Cm,Cy.H,.bool _,aU.b4 rfl⟩
theorem N9 (eG:P.follows .mixedOrders=true) {l lo:Nat} {fn:FuncId} {T bf:List I} {bq:List Nat} {as ct:Code} {an:dx} {args:List I} {H':List ar} {oq ot:gE}
  (cu:ey P an as 0=some oq) (af:ey P an ct 0=some ot)
  (ao:H[l]?=some (.loop .ready none fn T bq as ct an)) (eH:iC bq args T=some bf) (JK:ba lo H H')
  (h:dQ P an fn lo (some l) oq bf H fun e g6 H1=>e=.normal∧H1[l]?=some (.loop .ready none fn T bq as ct an) ∧
   dQ P an fn lo (some l) ot g6 (H1.set l (.loop .busy none fn T bq as ct an)) fun e en H2=>e=.normal∧H2[l]?=some (.loop .busy none fn T bq as ct an)∧lJ (H2.set l (.loop .ready none fn T bq as ct an)) H') :
  Sem P (.yield l) args H lo (.bool true) H' :=
 af0 eG ao eH JK (oS (fun e s a'=>⟨a'.1,a'.2.1,G7 af a'.2.2⟩) (G7 cu h))
end
end Go.Proofs.Ytkoioidpbbbaiaa.Ab


namespace Go.Proofs.Ytkoioidpbbbaiaa.Ab
open Go
abbrev p3 (d s:Nat):dP:=p0 d [.nd s] .mV
abbrev p1 (d s:Nat):dP:=p0 d [.jq s] .mV
abbrev qc (d:Nat) (n:Int):dP:=p0 d [.cv (.int .i64 n)] .mV
abbrev qT (d s:Nat) (n:Int):dP:=p0 d [.Bu s,.cv (.int .i64 n)] (.bin .add)
abbrev qo (d s t:Nat) (o:BinOp):dP:=p0 d [.Bu s,.Bu t] (.bin o)
abbrev qw (d s:Nat) (n:Int) (o:BinOp):dP:=p0 d [.Bu s,.cv (.int .i64 n)] (.bin o)
abbrev qU (d s:Nat):dP:=p0 d [.jq s] .zL
abbrev qf (d s:Nat):dP:=p0 d [.Bu s] (.zG .one)
abbrev qx (d s k:Nat):dP:=p0 d [.Bu s] (.yO k)
abbrev q5 (d s t k:Nat):dP:=p0 d [.Bu s,.Bu t] (.kZ k)
abbrev qL (d s k:Nat):dP:=p0 d [.nd s] (.ext k)
abbrev cl (d:Nat) (l:List kr) (g:Nat) (b:Bool) (k:jy):dP:=⟨some d,l,some (g,b),none,k⟩
abbrev qG (l:List dP):gE:=.ow false l
abbrev q_ (l:List dP):gE:=.ow true l
abbrev p2 (l:List dP) (c:gE):gE:=.seq (.ow false l) c
abbrev ahA (n:Nat):gE:=.cond (.nd n) .skip .skip
def Wy (b:Bool):Nat→List Bool→List Bool
 | 0,l=>l
 | n+1,l=>b::Wy b n l
def p8:Bool→List Nat→List Bool
 | _,[]=>[]
 | b,n::r=>Wy b n (p8 (!b) r)
end Go.Proofs.Ytkoioidpbbbaiaa.Ab
