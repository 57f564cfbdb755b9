
import Derived.Test.YtkoioidpbbbaiaaJu3
set_option linter.unusedSimpArgs false
set_option linter.unusedVariables false
set_option linter.unusedSectionVars false

open Option renaming map_eq_some_iff→sb
namespace Go.Proofs.Ytkoioidpbbbaiaa.Ab
open Go
inductive IC where
 | tmp (t:Nat) | cell (a:Nat) (g:g2)
def L' (g:g2) (cs:List I) (off:Nat):Option I:=match g with
 | .one=>(cs[off]?).map I.view
 | .str s=>if off+s≤cs.length then some (.agg (((cs.drop off).take s).map I.view)) else none
 | .arr s=>if off+s≤cs.length then some (.agg (((cs.drop off).take s).map I.view)) else none
theorem adB {P:Program} {t:TypeId} {g:g2} (h:iI P t=some g) (cs:List I) (off:Nat):e3 P t cs off=L' g cs off:=by
 rcases yu h with ⟨rfl,ab,d,ae⟩ | ⟨s,ae,ab⟩
 ·simp [e3,L',ab,ae]
 ·rcases ae with ⟨rfl,ae⟩ | ⟨rfl,ae⟩ <;> simp [e3,L',ab,ae]
def Pc (H:List ar) (g:g2):I→Option I
 | .ptr id off=>match H[id]? with
   | some (.cells l)=>L' g l off
   | some (.grow l _ _)=>L' g l off
   | _=>none
 | .bR cells=>L' g cells 0
 | _=>none
theorem U0 {P:Program} {t:TypeId} {g:g2} (h:iI P t=some g) (H:List ar) (a:I):dv P H t a=Pc H g a:=by
 cases a <;> simp only [dv,Pc,adB h] <;> rfl
noncomputable def rX (H:List ar) (T:List I):List IC→Option (List I)
 | []=>some []
 | .tmp t::r=>(rX H T r).map (dc T t::·)
 | .cell a g::r=>match Pc H g (dc T a),rX H T r with
   | some v,some vs=>some (v::vs)
   | _,_=>none
def Me (P:Program):List ResultVar→Option (List IC)
 | []=>some []
 | .tmp t::r=>(Me P r).map (.tmp t::·)
 | .cell a t::r=>match iI P t,Me P r with
   | some g,some l=>some (.cell a g::l)
   | _,_=>none
theorem OB {P:Program} (H:List ar) (T:List I):∀ {rs:List ResultVar} {l:List IC},Me P rs=some l→gU P H T rs=rX H T l
 | [],l,h=>by simp [Me] at h;subst h;rfl
 | .tmp t::r,l,h=>by
   simp only [Me,sb] at h;obtain ⟨l,h,rfl⟩:=h;simp only [gU,rX,OB H T h]
 | .cell a t::r,l,h=>by
   simp only [Me] at h;split at h
   ·rename_i g l' ab ae;simp only [Option.some.injEq] at h;subst h;simp only [gU,rX,OB H T ae,U0 ab];rfl
   ·cases h
inductive NL (rs:List IC) (v:I) (e:cN) (T:List I) (H:List ar):Prop where
 | mk (he:e=.normal∨e=.ret) (vs:List I) (ai:rX H T rs=some vs) (r:I) (aP:bL H 0 H.length 0 8 (jd vs)=some r) (ad:r=v∨r.settle=v)
theorem KZ {rs:List IC} {v:I} {e:cN} {T:List I} {H:List ar} (he:e=.normal∨e=.ret) (aB:cn 8 v=true) (h:(rX H T rs).map jd=some v):NL rs v e T H:=by
 simp only [sb] at h;obtain ⟨vs,ab,ae⟩:=h;exact ⟨he,vs,ab,v,by rw [ae];exact yZ aB,.inl rfl⟩
theorem afy {c:List I} {n z:Nat} {d:Nat} (h:cn d (.av c n (.own z))=true):cn d (.av c n (.uniq z))=true:=by
 cases d with
 | zero=>simp [cn] at h
 | succ d=>simpa only [cn] using h
theorem agE {rs:List IC} {c:List I} {n z:Nat} {e:cN} {T:List I} {H:List ar} (he:e=.normal∨e=.ret) (aB:cn 8 (.av c n (.own z))=true) (h:(rX H T rs).map jd=some (.av c n (.own z))∨(rX H T rs).map jd=some (.av c n (.uniq z))):NL rs (.av c n (.own z)) e T H:=by
 rcases h with h | h
 ·exact KZ he aB h
 ·simp only [sb] at h;obtain ⟨vs,ab,ae⟩:=h;exact ⟨he,vs,ab,.av c n (.uniq z),by rw [ae];exact yZ (afy aB),.inr rfl⟩
noncomputable def qt (P:Program) (A:dt) (k:Nat):Option (gB×Nat×List IC):=match P.funcs[k]? with
 | some f=>match f.body with
   | some c => match codeOk A c, f.name == "runtime.NumGoroutine", eu P A c 0, Me P f.results.toList with
     | true,false,some rc,some ts=>some (rc,f.ntmps,ts)
     | _,_,_,_=>none
   | none=>none
 | none=>none
theorem RH {P:Program} (eD:P.follows .mixedOrders=true) {k:Nat} {A:dt} {rc:gB} {n:Nat} {ts:List IC} (ao:qt P A k=some (rc,n,ts)) {args T:List I} (bZ:args++List.replicate (n-args.length) .a0=T) {v:I} (aB:cn 8 v=true)
  (h:dN P A k 0 none rc T [] (NL ts v)):nj P k args v:=by
 unfold qt at ao;split at ao
 ·rename_i f aP;split at ao
  ·rename_i c af;split at ao
   ·rename_i Xu Qe ab ae aF ba;simp only [Option.some.injEq,Prod.mk.injEq] at ao;obtain ⟨rfl,rfl,rfl⟩:=ao;subst bZ;have a_:∀ e s,NL Qe v e (a6.T s) (a6.H s)→(e=.normal∨e=.ret)∧∃ vs r,gU P s.H s.T f.results.toList=some vs∧bL s.H 0 s.H.length 0 8 (jd vs)=some r∧(r=v∨r.settle=v):=fun e s ⟨cc,vs,RK,r,b_,eP⟩=>by
     exact ⟨cc,vs,r,by rw [OB _ _ ba,RK],b_,eP⟩
    exact Hb eD aP af (by simpa using ae) ab aB (oQ a_ (G9 aF h))
   ·cases ao
  ·cases ao
 ·cases ao
def Qa:Nat→Nat→List (Nat×I)→List I
 | 0,_,_=>[]
 | n+1,i,[]=>.a0::Qa n (i+1) []
 | n+1,i,(j,v)::r=>match Nat.beq i j with
   | true=>v::Qa n (i+1) r
   | false=>.a0::Qa n (i+1) ((j,v)::r)
abbrev qh (n:Nat) (l:List (Nat×I)):List I:=Qa n 0 l
abbrev p2 (d:Nat) (s:List kn) (k:jv):dM:=⟨some d,s,none,none,k⟩
noncomputable section
def J8:Code→List (Code×Code)
 | .rangeFunc _ _ a b=>(a,b)::(J8 a++J8 b)
 | .seq a b=>J8 a++J8 b
 | .cond _ a b=>J8 a++J8 b
 | .block _ c=>J8 c
 | .loop c=>J8 c
 | .scope c=>J8 c
 | _=>[]
def U4 (P:Program) (k:Nat):Code:=match P.funcs[k]? with
 | some f=>match f.body with
   | some c=>c
   | none=>.skip
 | none=>.skip
def rz (P:Program) (k i:Nat):Code:=match (J8 (U4 P k))[i]? with
 | some x=>x.1
 | none=>.skip
def rA (P:Program) (k i:Nat):Code:=match (J8 (U4 P k))[i]? with
 | some x=>x.2
 | none=>.skip
end
end Go.Proofs.Ytkoioidpbbbaiaa.Ab


namespace Go.Proofs.Ytkoioidpbbbaiaa.Ab
open Go
section
variable {P:Program} {B:Nat} {J:List Nat} {w:World} {H:List ar} {aa:Nat→Option aH} {S:Nat→Nat→Prop}
theorem afr (ag:aK B aa J S w H) {es:List (Nat×I×I)} {clock:Nat} {D:List ar} {x:Value} {bW:World} (JY:∀ (j i:Nat) (k v:I),es[j]?=some (i,k,v)→cn 8 k=true∧cn 8 v=true)
  (aB:aZ B (dQ aa) [] S w (.map es clock::D) (.map 0) x bW):aZ B aa J S w (H++[.map es clock]) (.map H.length) x bW:=by
 obtain ⟨bt,cg,bK,bM,az,cf,ai,aq⟩:=aB;obtain ⟨db,bA,aA,aG,aT,bq,bf,bc⟩:=cf.obj 0 _ rfl
 let ay:Nat→Option aH:=fun b=>match aa b with
  | some (.obj id)=>some (.obj id)
  | some (.cell id j)=>some (.cell id j)
  | _=>match bt b with
    | some (.obj 0)=>some (.obj H.length)
    | some (.obj _)=>none
    | some (.cell _ _)=>none
    | l=>l
 have jV:∀ b l,aa b=some l→((∃ id,l=.obj id)∨∃ id j,l=.cell id j)→ay b=some l∧bt b=none∧b<w.heap.size:=fun b l af ao=>by
  have aR:=(ag.base b l af).2;have ae:bt b=none:=by
   cases h:bt b with
   | none=>rfl
   | some l' =>
     rcases az.own b (by simp [h]) with ab | ab
     ·exfalso;apply ab;rcases ao with ⟨id,rfl⟩ | ⟨id,j,rfl⟩ <;> simp [dQ,af]
     ·omega
  refine ⟨?_,ae,aR⟩;rcases ao with ⟨id,rfl⟩ | ⟨id,j,rfl⟩ <;> simp [ay,af]
 have xc:∀ b,ay b≠none→aa b≠none∨bt b≠none:=fun b h=>by
  by_cases ab:aa b=none
  ·right;intro ae;apply h;simp [ay,ab,ae]
  ·exact .inl ab
 have cq:∀ b,dQ aa b≠none→aa b≠none:=fun b h aQ=>h (by simp [dQ,aQ]);have lZ:bk aa S w ay bK bW :=
  ⟨az.os,az.tape,az.output,az.size,fun b af aI=>az.cB b af (by simp [dQ,aI]),az.set,fun b o h=>by
   rcases az.fresh b o h with h | h | h
   ·exact .inl h
   ·exact .inr (.inl (cq b h))
   ·exact .inr (.inr h),fun b h=>by
   rcases xc b h with h | h
   ·exact .inl h
   ·rcases az.own b h with h | h
    ·exact .inl (cq b h)
    ·exact .inr h⟩
 have kH:ay db=some (.obj H.length):=by
  cases ab:aa db with
  | none=>simp [ay,ab,aG]
  | some l =>
    cases l with
    | obj id=>have:=(jV db _ ab (.inl ⟨id,rfl⟩)).2.1;rw [aG] at this;cases this
    | cell id j=>have:=(jV db _ ab (.inr ⟨id,j,rfl⟩)).2.1;rw [aG] at this;cases this
    | _=>simp [ay,ab,aG]
 have bF:aK B ay J bK bW H:=ag.frame lZ (fun b l af ao=>by
  obtain ⟨ab,ae,aF⟩:=jV b l af ao;have aI:dQ aa b=none:=by rcases ao with ⟨id,rfl⟩ | ⟨id,j,rfl⟩ <;> simp [dQ,af]
  refine ⟨ab,az.cB b aF aI,fun o h=>?_⟩;rcases az.fresh b o h with h | h | h
  ·exact h
  ·exact absurd aI h
  ·omega) cf.cb fun b l af=>by
  by_cases h:aa b=none
  ·(have bu:bt b≠none:=fun ae=>by simp [ay,h,ae] at af);cases ae:bt b with
   | none=>exact absurd ae bu
   | some l'=>exact cf.base b l' ae
  ·cases ab:aa b with
   | none=>exact absurd ab h
   | some l'=>obtain ⟨p,q⟩:=ag.base b l' ab;exact ⟨p,Nat.lt_of_lt_of_le q az.size⟩
 refine ⟨ay,J++[db],bK,Ext.append J [db],lZ,bF.push db ⟨db,bA,Ext.last ag db,kH,aT,bq,bf,fun j i k v c hu ak=>?_⟩,?_,?_⟩
 ·obtain ⟨a7,a9,br,b5,dS⟩:=bc j i k v c hu ak;obtain ⟨bT,b0⟩:=JY j i k v hu;exact ⟨a7,a9,br.pure _ bT,b5,dS.pure _ b0⟩
 ·cases ai with
  | map id b k=>rw [aA] at k;cases k;exact .map _ _ (Ext.last ag db)
 ·exact aU.b3 rfl
theorem agR {k:FuncId} {args:List I} {es:List (Nat×I×I)} {clock:Nat} {D:List ar} (cq:args.all (cn 8)=true) (JY:∀ (j i:Nat) (k v:I),es[j]?=some (i,k,v)→cn 8 k=true∧cn 8 v=true)
  (h:Sem P (.fn k) args [] 0 (.map 0) (.map es clock::D)) (H:List ar):Sem P (.fn k) args H H.length (.map H.length) (H++[.map es clock]):=by
 obtain ⟨_,ab,ae⟩:=h
 exact ⟨a'.append _ _ _,ab,fun B aa J S w vs ag aI ad=>CallsIn.mono (ae B _ [] S w vs (pZ ag) (fun b i h=>by obtain ⟨_,_,h⟩:=kq h;cases h) (ad.pure cq)) fun e w' he=>by
  cases e with
  | returned v=>exact afr ag JY he
  | panicked c=>exact he.elim
  | outgrown=>exact he.elim⟩
theorem WU {f:I→Option I}:∀ {es:List (Nat×I×I)},(∀ (j i:Nat) (k v:I),es[j]?=some (i,k,v)→f k=some k∧f v=some v)→mapM f es=some es
 | [],_=>rfl
 | (i,k,v)::es,h=>by
   obtain ⟨ab,ae⟩:=h 0 i k v rfl;simp only [mapM,ab,ae,WU fun j i k v aw=>h (j+1) i k v (by simpa using aw),Option.map_some]
end
end Go.Proofs.Ytkoioidpbbbaiaa.Ab


namespace Go.Proofs.Ytkoioidpbbbaiaa.Ab
open Go
section
variable {P:Program} {B N:Nat} {J:List Nat} {w:World} {H:List ar} {aa:Nat→Option aH} {S:Nat→Nat→Prop}
theorem ahI (eD:P.follows .mixedOrders=true) {l lo:Nat} {fn:FuncId} {T bd:List I} {bp:List Nat} {as cp:Code} {an:dt} {args:List I} {H':List ar}
  (ao:H[l]?=some (.loop .ready none fn T bp as cp an)) (eE:iz bp args T=some bd) (KO:a' lo H H')
  (h:c' P an fn lo (some l) as 0 ⟨bd,H⟩ fun e s1=>e=.normal∧s1.H[l]?=some (.loop .ready none fn T bp as cp an) ∧
   c' P an fn lo (some l) cp 0 ⟨s1.T,s1.H.set l (.loop .busy none fn T bp as cp an)⟩ fun e s2=>e=.normal∧s2.H[l]?=some (.loop .busy none fn T bp as cp an)∧lF (s2.H.set l (.loop .ready none fn T bp as cp an)) H') :
  Sem P (.yield l) args H lo (.bool true) H':=by
 refine ⟨KO,fun B aa J S w xs b ag _ ad af=>?_⟩;obtain ⟨a7,a9,au,L,aA,aG,aT,bq,bf,bc,da,du,dP,gC,BN⟩:=ag.obj l _ ao;rw [af] at aA;cases aA;have cG:=A' bp args T bd xs L.tmps.toList eE ad.len (by simpa using da.symm);obtain ⟨cc,b_,eP,iM⟩:=cG;refine ⟨L,aT,by rw [←ad.len,←cc,←dP];simp,?_⟩;refine roundIn_of_wpIn trivial ?_;have xg:(je L xs).toList=(bp.zip xs).foldl (fun (l:List Value) (p:Nat×Value)=>l.set p.1 p.2) L.tmps.toList:=by rw [Fe,dP]
 obtain ⟨dy,gI⟩:=Gk bp ag;have aL:cx B w.heap.size (jn bp aa) J S w ⟨bd,H⟩ { tmps:=je L xs,defers:=[] }:=by
  refine ⟨?_,gI,Nat.le_refl _,fun d a1=>by simp at a1,List.Pairwise.nil⟩;simp only [xg];have key:∀ (i:Nat) (u:I) (x:Value),bd[i]?=some u→((bp.zip xs).foldl (fun (l:List Value) (p:Nat×Value)=>l.set p.1 p.2) L.tmps.toList)[i]?=some x →
    Rel J S w u x∧aU (jn bp aa) J S w (.slot i) u x:=fun i u x hu aj=>by
   rcases iM i u x hu aj with ⟨aJ,aN⟩ | ⟨j,aJ,aN,b'⟩
   ·obtain ⟨bT,b0⟩:=du i u x aJ (by simpa using aN);exact ⟨b0,aU.b3 bT⟩
   ·exact ⟨ad.rel j u x aN b',(ad.own j u x aN b').mono (Ext.refl J) (fun _ _ h=>⟨h,rfl⟩) fun b af=>⟨by simp [jn,af,aJ],rfl,fun _ h=>h⟩⟩
  exact ⟨by rw [b_,eP,←da];simp,fun i u x hu aj=>(key i u x hu aj).1,fun i u x hu aj=>(key i u x hu aj).2⟩
 rw [gC,BN];refine BA eD as 0 _ _ h a7 _ _ B w.heap.size J w (jn bp aa) S _ (.inr ⟨l,b,rfl,af,rfl⟩) (fun l a w aO=>aO) aL fun e1 s1 al aA bH ah=>?_;obtain ⟨rfl,jR,ae⟩:=al;obtain ⟨b4,cW,a4,aJ,aN,cd⟩:=ah;have gJ:cW[l]?=some b:=aJ _ _ af;obtain ⟨_,_,au,oW,d1,d2,d3,d4,d5,_⟩:=cd.H.obj l _ jR;rw [gJ] at d1;cases d1;obtain ⟨ek,Cz⟩:=cd.loop jR gJ d3 .busy none;have CN:(Instr.beginRound b).run P bH=.ok () (bH.putObj b (.loop { oW with state:=.busy,pending:=none })):=by
  rw [run_beginRound d3 d4]
  have:({ oW with state:=.busy,pending:=none }:Loop)={ oW with state:=.busy }:=by rw [←d5]
  rw [this]
 refine ⟨_,CN,?_⟩;refine wpIn_mono (Q:=fun cS aM w'=>(∀ t,cS≠Exit.goto t)∧roundPost P b (fW B aa J S w H' (.bool true)) cS aM w') ?_ (fun e a w h=>h.2);refine BA eD cp 0 _ _ ae a9 _ _ B w.heap.size cW _ b4 a4 _ (.inr ⟨l,b,rfl,gJ,rfl⟩) (fun l a w aO=>aO.1 l rfl) Cz fun b9 s2 al aG bW ah=>?_;obtain ⟨rfl,eC,nH⟩:=al;obtain ⟨bt,cg,bK,b',hn,y0⟩:=ah;have gK:cg[l]?=some b:=b' _ _ gJ;obtain ⟨_,_,au,ju,f1,f2,f3,f4,f5,_⟩:=y0.H.obj l _ eC;rw [gK] at f1;cases f1;have l0:bk aa S w bt bK bW:=((dy.trans aN).trans ek).trans hn;refine ⟨fun t ax=>(by cases ax),?_⟩;refine ⟨_,_,run_endRound none f3,?_⟩;obtain ⟨Co,CA⟩:=y0.loop eC gK f3 .ready none;exact aZ.pb nH ⟨bt,cg,bK,aJ.trans b',l0.trans Co,CA.H,.bool _,aU.b3 rfl⟩
theorem P9 (eD:P.follows .mixedOrders=true) {l lo:Nat} {fn:FuncId} {T bd:List I} {bp:List Nat} {as cp:Code} {an:dt} {args:List I} {H':List ar} {om oo:gB}
  (cq:eu P an as 0=some om) (af:eu P an cp 0=some oo)
  (ao:H[l]?=some (.loop .ready none fn T bp as cp an)) (eE:iz bp args T=some bd) (KO:a' lo H H')
  (h:dN P an fn lo (some l) om bd H fun e g3 H1=>e=.normal∧H1[l]?=some (.loop .ready none fn T bp as cp an) ∧
   dN P an fn lo (some l) oo g3 (H1.set l (.loop .busy none fn T bp as cp an)) fun e ei H2=>e=.normal∧H2[l]?=some (.loop .busy none fn T bp as cp an)∧lF (H2.set l (.loop .ready none fn T bp as cp an)) H') :
  Sem P (.yield l) args H lo (.bool true) H' :=
 ahI eD ao eE KO (oQ (fun e s a_=>⟨a_.1,a_.2.1,G9 af a_.2.2⟩) (G9 cq h))
end
end Go.Proofs.Ytkoioidpbbbaiaa.Ab


namespace Go.Proofs.Ytkoioidpbbbaiaa.Ab
open Go
abbrev p5 (d s:Nat):dM:=p2 d [.m_ s] .mR
abbrev p3 (d s:Nat):dM:=p2 d [.jm s] .mR
abbrev qg (d:Nat) (n:Int):dM:=p2 d [.cv (.int .i64 n)] .mR
abbrev qY (d s:Nat) (n:Int):dM:=p2 d [.Bv s,.cv (.int .i64 n)] (.bin .add)
abbrev qv (d s t:Nat) (o:BinOp):dM:=p2 d [.Bv s,.Bv t] (.bin o)
abbrev qw (d s:Nat) (n:Int) (o:BinOp):dM:=p2 d [.Bv s,.cv (.int .i64 n)] (.bin o)
abbrev qZ (d s:Nat):dM:=p2 d [.jm s] .zM
abbrev qj (d s:Nat):dM:=p2 d [.Bv s] (.zH .one)
abbrev qG (d s k:Nat):dM:=p2 d [.Bv s] (.yP k)
abbrev rk (d s t k:Nat):dM:=p2 d [.Bv s,.Bv t] (.kV k)
abbrev qn (d s k:Nat):dM:=p2 d [.m_ s] (.ext k)
abbrev ch (d:Nat) (l:List kn) (g:Nat) (b:Bool) (k:jv):dM:=⟨some d,l,some (g,b),none,k⟩
abbrev qR (l:List dM):gB:=.ou false l
abbrev q4 (l:List dM):gB:=.ou true l
abbrev p4 (l:List dM) (c:gB):gB:=.seq (.ou false l) c
abbrev ajl (n:Nat):gB:=.cond (.m_ n) .skip .skip
def Yr (b:Bool):Nat→List Bool→List Bool
 | 0,l=>l
 | n+1,l=>b::Yr b n l
def qc:Bool→List Nat→List Bool
 | _,[]=>[]
 | b,n::r=>Yr b n (qc (!b) r)
end Go.Proofs.Ytkoioidpbbbaiaa.Ab
