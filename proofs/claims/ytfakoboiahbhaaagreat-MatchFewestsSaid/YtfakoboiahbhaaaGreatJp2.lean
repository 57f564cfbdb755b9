
import Derived.Test.YtfakoboiahbhaaaGreatJp1
import Derived.RangeFuncRecord
import Derived.MapKept
import Derived.RangeFuncLeaves
import Derived.RangeFuncCalls
import Derived.RangeFuncNested
import Derived.TacticsIn
set_option linter.unusedSimpArgs false
set_option linter.unusedVariables false
set_option linter.unusedSectionVars false

namespace Go.Proofs.YtfakoboiahbhaaaGreat.Ab
open Go
section
variable {P:Program} {B:Nat} {J:List Nat} {w:World} {H:List au} {U:Nat→Option aG} {S:Nat→Nat→Prop}
def er (P:Program) (aU:Operand→Value) (o:Oper) (w:World) (R:Value→World→Prop):Prop :=
 (∃ v w',(Go.execOp aU o).run P w=.ok (.value v) w'∧R v w')∨(∃ w',(Go.execOp aU o).run P w=.ok .skip w'∧R undef w')
theorem er.makes {aU:Operand→Value} {o:Oper} {r:I} (ah:aJ B U J S w H) (h:eY P o aU J S w r) (aD:r.plain=true):er P aU o w (a0 B U J S w H r):=by
 obtain ⟨v,ad,af⟩:=h;exact .inl ⟨v,w,ad,a0.same ah af aD⟩
theorem a7.one {bB:Nat→aG} {us:List I} {aU:Operand→Value} {x:Operand} (h:a7 bB U J S w us ([x].map aU)):∃ u,us=[u]∧Rel J S w u (aU x)∧aV U J S w (bB 0) u (aU x):=by
 match us,h with
 | [u],h=>exact ⟨u,rfl,h.rel 0 u _ rfl rfl,h.own 0 u _ rfl rfl⟩
 | [],h=>exact absurd h.len (by simp)
 | _::_::_,h=>exact absurd h.len (by simp)
theorem a7.two {bB:Nat→aG} {us:List I} {aU:Operand→Value} {x y:Operand} (h:a7 bB U J S w us ([x,y].map aU)) :
  ∃ u v,us=[u,v]∧Rel J S w u (aU x)∧aV U J S w (bB 0) u (aU x)∧Rel J S w v (aU y)∧aV U J S w (bB 1) v (aU y):=by
 match us,h with
 | [u,v],h=>exact ⟨u,v,rfl,h.rel 0 u _ rfl rfl,h.own 0 u _ rfl rfl,h.rel 1 v _ rfl rfl,h.own 1 v _ rfl rfl⟩
 | [],h=>exact absurd h.len (by simp)
 | [_],h=>exact absurd h.len (by simp)
 | _::_::_::_,h=>exact absurd h.len (by simp)
theorem AO {op:BinOp} {k:IntKind} {a b:Int} {r:I} (h:je op k a b=some r):r.plain=true:=by
 cases op <;> simp [je] at h <;> first | (subst h;rfl) | (obtain ⟨_,rfl⟩:=h;rfl)
theorem AQ {op:BinOp} {t:TypeId} {x y r:I} (h:fe P op t x y=some r):r.plain=true:=by
 unfold fe at h;split at h
 ·split at h
  ·unfold hf at h;split at h <;> simp at h;subst h;rfl
  ·unfold hf at h;split at h <;> simp at h;subst h;rfl
  ·split at h
   ·exact AO h
   ·simp at h
 ·split at h <;> simp at h <;> subst h <;> rfl
 ·split at h
  ·split at h
   ·split at h
    ·split at h
     ·simp only [Option.map_eq_some_iff] at h;obtain ⟨_,_,rfl⟩:=h;rfl
     ·simp only [Option.map_eq_some_iff] at h;obtain ⟨_,_,rfl⟩:=h;rfl
     ·simp at h
    ·simp at h
   ·simp at h
  ·split at h
   ·split at h
    ·simp only [Option.map_eq_some_iff] at h;obtain ⟨_,_,rfl⟩:=h;rfl
    ·simp only [Option.map_eq_some_iff] at h;obtain ⟨_,_,rfl⟩:=h;rfl
    ·simp at h
   ·simp at h
  ·simp at h
 ·simp at h
theorem AS {t:TypeId} {x y r:I} (h:hK P t x y=some r):r.plain=true:=by
 unfold hK at h;split at h <;> simp only [Option.bind_eq_some_iff,Option.map_eq_some_iff,reduceCtorEq] at h <;> (try (obtain ⟨_,_,_,_,rfl⟩:=h;rfl))
theorem AR {t:TypeId} {x r:I} {f:Nat} (h:jf P t x f=some r):r.plain=true:=by
 unfold jf at h;split at h <;> simp only [Option.bind_eq_some_iff,reduceCtorEq] at h <;> (try (obtain ⟨_,_,_,_,h⟩:=h;split at h <;> simp at h;subst h;rfl))
theorem pK {o:Oper} (h:∀ c,o.op≠.call c):opsOf o=o.op.operands.toList:=by
 unfold opsOf;split
 ·rename_i heq;exact absurd heq (h _)
 ·rename_i heq;exact absurd heq (h _)
 ·rfl
theorem EN {aU:Operand→Value} (eF:∀ v,aU (.const v)=v) {o:Oper} {us:List I} {r:I} (ah:aJ B U J S w H) (h:cv P o us=some r) (cW:dE o=false)
  (aD:∀ u∈us,u.plain=true) (ae:a7 (fun i=>.arg i) U J S w us ((opsOf o).map aU)):er P aU o w (a0 B U J S w H r):=by
 cases aC:o.op <;> simp only [cv,aC,reduceCtorEq] at h <;> rw [pK (by simp [aC])] at ae <;> (try (simp [dE,aC] at cW;done))
 case pick c a b =>
  replace ae:a7 (fun i=>.arg i) U J S w us ([c,a,b].map aU):=by simpa [aC,Op.operands] using ae
  unfold pJ at h;split at h
  ·rename_i x fp gb;have aR:=ae.rel 0 _ _ rfl rfl;have r2:=ae.rel 1 _ _ rfl rfl;have ew:=ae.rel 2 _ _ rfl rfl;cases x
   ·cases h;exact er.makes ah (y1 aC aR r2 ew) (aD gb (by simp))
   ·cases h;exact er.makes ah (y1 aC aR r2 ew) (aD fp (by simp))
  ·simp at h
 case build t parts =>
  have ae:a7 (fun i=>.arg i) U J S w us ((parts.toList.map (·.2)).map aU):=by simpa [aC,Op.operands] using ae
  have hlen:us.length=parts.toList.length:=by simpa using ae.len
  obtain ⟨v,aW,aX,cw⟩:=Ev (J:=J) (S:=S) (w:=w) (parts':=parts.map fun (x:Nat×Operand)=>(x.1,aU x.2)) h (by simp [fq,List.map_fst_zip,hlen]) (fun j x y al aZ=>by
   simp only [fq,List.getElem?_zip_eq_some] at al;obtain ⟨yB,iD⟩:=al;simp only [Array.toList_map,List.getElem?_map,Option.map_eq_some_iff] at aZ;obtain ⟨p,jx,rfl⟩:=aZ
   exact ⟨aD _ (List.mem_of_getElem? iD),ae.rel j _ _ iD (by simp only [List.getElem?_map,jx,Option.map_some])⟩)
  exact .inl ⟨v,w,by simp [Go.execOp,aC,aW],a0.same ah aX cw⟩
 case buildSlice t len parts =>
  have ae:a7 (fun i=>.arg i) U J S w us ((parts.toList.map (·.2)).map aU):=by simpa [aC,Op.operands] using ae
  have hlen:us.length=parts.toList.length:=by simpa using ae.len
  simp only [Option.map_eq_some_iff] at h;obtain ⟨⟨cs,s⟩,h,rfl⟩:=h
  obtain ⟨_,w',aW,aX⟩:=Ak (parts':=parts.map fun (x:Nat×Operand)=>(x.1,aU x.2)) ah h (by simp [fq,List.map_fst_zip,hlen]) (fun j x y al aZ=>by
   simp only [fq,List.getElem?_zip_eq_some] at al;obtain ⟨yB,iD⟩:=al;simp only [Array.toList_map,List.getElem?_map,Option.map_eq_some_iff] at aZ;obtain ⟨p,jx,rfl⟩:=aZ
   exact ⟨aD _ (List.mem_of_getElem? iD),ae.rel j _ _ iD (by simp only [List.getElem?_map,jx,Option.map_some])⟩)
  exact .inl ⟨_,w',by simp [Go.execOp,aC,aW],aX⟩
 case nilCheck x =>
  obtain ⟨u,rfl,aR,_⟩:=a7.one (x:=x) (by simpa [aC,Op.operands] using ae);unfold nv at h;split at h
  ·rename_i id off heq;simp at heq;subst heq;cases h;exact er.makes ah (Da aC aR) rfl
  ·rename_i cells heq;simp at heq;subst heq;cases h;exact er.makes ah (Db aC aR) rfl
  ·simp at h
 case unOp op t x =>
  obtain ⟨u,rfl,aR,_⟩:=a7.one (x:=x) (by simpa [aC,Op.operands] using ae);simp only [eT] at h;refine er.makes ah (Dc aC h aR) ?_;unfold j2 at h;split at h <;> (try split at h) <;> simp at h <;> subst h <;> rfl
 case convert s d x =>
  obtain ⟨u,rfl,aR,_⟩:=a7.one (x:=x) (by simpa [aC,Op.operands] using ae);simp only [eT] at h;refine er.makes ah (C4 aC h aR) ?_;unfold kZ at h;split at h
  ·split at h
   ·simp at h;subst h;rfl
   ·simp at h
  ·simp at h
 case makeFunc fn first captured =>
  refine er.makes ah (C9 aC h (by simpa [aC,Op.operands] using ae) aD) ?_;unfold l8 at h;split at h
  ·split at h <;> simp at h;subst h;rfl
  ·simp at h
 case fieldAddr t x f =>
  obtain ⟨u,rfl,aR,_⟩:=a7.one (x:=x) (by simpa [aC,Op.operands] using ae);simp only [eT] at h;exact er.makes ah (C8 aC h aR) (AR h)
 case field t x f =>
  obtain ⟨u,rfl,aR,_⟩:=a7.one (x:=x) (by simpa [aC,Op.operands] using ae);simp only [eT,Option.map_eq_some_iff] at h;obtain ⟨r',h,rfl⟩:=h;exact er.makes ah (C7 aC h aR) (I.c_ _)
 case extract x i =>
  obtain ⟨u,rfl,aR,_⟩:=a7.one (x:=x) (by simpa [aC,Op.operands] using ae);simp only [eT,Option.map_eq_some_iff] at h;obtain ⟨r',h,rfl⟩:=h;exact er.makes ah (C6 aC h aR) (I.c_ _)
 case indexAddr t x i =>
  obtain ⟨u,v,rfl,aR,_,r2,_⟩:=a7.two (x:=x) (y:=i) (by simpa [aC,Op.operands] using ae);simp only [fW] at h;exact er.makes ah (C' aC h aR r2 (I.fX (aD u (by simp)))) (AS h)
 case index t x i =>
  obtain ⟨u,v,rfl,aR,_,r2,_⟩:=a7.two (x:=x) (y:=i) (by simpa [aC,Op.operands] using ae);simp only [fW,Option.map_eq_some_iff] at h;obtain ⟨r',h,rfl⟩:=h;exact er.makes ah (C_ aC h aR r2) (I.c_ _)
 case binOp op t x y h8 =>
  obtain ⟨u,v,rfl,aR,_,r2,_⟩:=a7.two (x:=x) (y:=y) (by simpa [aC,Op.operands] using ae);split at h
  ·rename_i Cc;refine er.makes ah (C5 aC Cc h aR eF) ?_;unfold my at h;dsimp only at h;repeat' split at h
   all_goals first | (simp at h;done) | (simp at h;subst h;rfl)
  ·simp only [fW] at h;refine er.makes ah ?_ (AQ h);cases u <;> cases v <;> (try (simp [fe] at h;done))
   ·exact C2 aC h aR r2
   ·exact C3 aC h aR r2
   ·exact C1 aC h aR r2
theorem DG {cells:List I} {len:Nat} {a:Option Addr} (h:Rel J S w (.ax cells len .shared) (.slice a len len)):Rel J S w (.ax cells len .full) (.slice a len len):=by
 cases h with
 | b2 _ a=>exact .b2 _ _
 | ax _ _ _ b o cap f ak hle hu bw b7=>exact .ax _ _ _ b o len f (fun _=>rfl) hle (fun z h=>by cases h) bw b7
theorem Ew {aU:Operand→Value} (eF:∀ v,aU (.const v)=v) {o:Oper} {us:List I} {t:TypeId} {len:Nat} {parts:Array (Nat×Operand)} {cs:List I} {s:Nat} (ah:aJ B U J S w H) (aC:o.op=.buildSlice t len parts)
  (h:ic P t len (fq parts.toList us)=some (cs,s)) (aD:∀ u∈us,u.plain=true) (ae:a7 (fun i=>.arg i) U J S w us ((opsOf o).map aU)) :
  ∃ v w',(Go.execOp aU o).run P w=.ok (.value v) w'∧a0 B U J S w H (.ax cs len .full) v w':=by
 rw [pK (by simp [aC])] at ae;have ae:a7 (fun i=>.arg i) U J S w us ((parts.toList.map (·.2)).map aU):=by simpa [aC,Op.operands] using ae
 have hlen:us.length=parts.toList.length:=by simpa using ae.len
 obtain ⟨b,w',aW,ay,bZ,S',bP,b4,ev,fI,l9⟩:=Ak (parts':=parts.map fun (x:Nat×Operand)=>(x.1,aU x.2)) ah h (by simp [fq,List.map_fst_zip,hlen]) (fun j x y al aZ=>by
  simp only [fq,List.getElem?_zip_eq_some] at al;obtain ⟨yB,iD⟩:=al;simp only [Array.toList_map,List.getElem?_map,Option.map_eq_some_iff] at aZ;obtain ⟨p,jx,rfl⟩:=aZ
  exact ⟨aD _ (List.mem_of_getElem? iD),ae.rel j _ _ iD (by simp only [List.getElem?_map,jx,Option.map_some])⟩)
 obtain ⟨a5,aL,aQ,ch,aR,_,_⟩:=jT ev fI l9
 exact ⟨_,w',by simp [Go.execOp,aC,aW],ay,bZ,a5,bP,b4.trans (bj.settle aL fun b o h=>(aQ b o h).imp id fun h=>⟨_,h⟩),
  ev.settle aL (fun b o h=>(aQ b o h).imp id fun h=>⟨_,h,by simp,by simp⟩) ch,DG aR,aV.b3 rfl⟩
end
end Go.Proofs.YtfakoboiahbhaaaGreat.Ab


namespace Go.Proofs.YtfakoboiahbhaaaGreat.Ab
open Go
section
variable {P:Program} {B:Nat} {J:List Nat} {w:World} {H:List au} {U:Nat→Option aG} {S:Nat→Nat→Prop}
theorem nx {b ao o:Nat} {x:Obj} (h:ao≠b):(w.putObj b x).cell? ⟨ao,o,none⟩=w.cell? ⟨ao,o,none⟩:=by
 unfold World.cell?;simp only [World.putObj_heap_other h]
theorem nn (ah:aJ B U J S w H) {id:Nat} {es es':List (Nat×I×I)} {clock clock':Nat} (aE:H[id]?=some (.map es clock)) {b:Nat} {ents':Array MapEntry}
  (aB:J[id]?=some b) (aF:U b=some (.obj id)) (bf:∀ o,¬ S b o) (aq:ents'.size=es'.length)
  (aj:∀ (j i:Nat) (k v:I) (x:MapEntry),es'[j]?=some (i,k,v)→ents'[j]?=some x→x.born=i∧k.plain=true∧Rel J S w k x.key∧v.plain=true∧Rel J S w v x.val) :
  bj U S w U S (w.putObj b (.map ents' clock'))∧aJ B U J S (w.putObj b (.map ents' clock')) (H.set id (.map es' clock')):=by
 have hj:∀ ao o,S ao o→ao≠b:=fun ao o ai e=>bf o (e ▸ ai);have ag:=(ah.base b _ aF).2;have aA:bj U S w U S (w.putObj b (.map ents' clock')) :=
  ⟨rfl,rfl,rfl,by simp,fun ao _ aP=>World.putObj_heap_other (fun e=>by subst e;rw [aF] at aP;cases aP),fun ao o ai=>⟨ai,nx (hj ao o ai)⟩,fun ao o ai=>.inl ai,fun ao h=>.inl h⟩
 refine ⟨aA,by simpa using ah.cA,fun bA o ar=>?_,fun ao o ai=>?_,fun ao l h=>by simpa using ah.base ao l h,by simpa using ah.cV⟩
 ·by_cases gX:bA=id
  ·subst gX;rw [List.getElem?_set_self (List.getElem?_eq_some_iff.1 aE).1] at ar;cases ar;refine ⟨b,ents',aB,aF,World.putObj_heap_same ag,aq,bf,fun j i k v x hu al=>?_⟩;obtain ⟨a',bm,bt,b6,dQ⟩:=aj j i k v x hu al;exact ⟨a',bm,bt.mono (Ext.refl J) aA.set,b6,dQ.mono (Ext.refl J) aA.set⟩
  ·rw [List.getElem?_set_ne (fun e=>gX e.symm)] at ar;refine (ah.obj bA o ar).frame (Ext.refl J) aA.set fun ao ct bq js=>?_;have bY:ao≠b:=fun e=>by
    subst e;rw [aF] at bq;cases bq;rcases js with h | ⟨j,h⟩
    ·cases h;exact gX rfl
    ·cases h
   exact ⟨bq,World.putObj_heap_other bY,fun o ai=>ai⟩
 ·obtain ⟨v,ae⟩:=ah.b' ao o ai;exact ⟨v,(nx (hj ao o ai)).trans ae⟩
theorem xQ:∀ {xs ys:List I},dC xs ys=some true→xs=ys∧∀ u∈xs,∃ k a,u=.int k a
 | [],[],_=>⟨rfl,by simp⟩
 | x::xs,y::ys,h=>by
   obtain ⟨k,a,b,cL,rfl,rfl,a4,he⟩:=mJ h;have he:=he.symm;simp only [Bool.and_eq_true,beq_iff_eq] at he;obtain ⟨rfl,rfl⟩:=he;obtain ⟨rfl,af⟩:=xQ a4
   exact ⟨rfl,fun u hu=>by
    rcases List.mem_cons.1 hu with rfl | hu
    ·exact ⟨_,_,rfl⟩
    ·exact af u hu⟩
 | [],y::ys,h=>by simp [dC] at h
 | x::xs,[],h=>by cases x <;> simp [dC] at h
theorem Aa (n:Nat):∀ (l:List Value),(∀ v∈l,∃ k a,v=.int k a)→((l.zip l).all fun (x:Value×Value)=>Instr.sameBits n x.1 x.2)=true
 | [],_=>rfl
 | v::l,h=>by
   obtain ⟨k,a,rfl⟩:=h v (by simp);have a9:=Aa n l fun v ae=>h v (by simp [ae]);(have aT:Instr.sameBits n (.int k a) (.int k a)=true:=by cases n <;> simp [Instr.sameBits]);simp only [List.zip_cons_cons,List.all_cons,aT,Bool.true_and];exact a9
theorem DH {xs:List I} {V W:Array Value} (hi:∀ u∈xs,∃ k a,u=.int k a) (aR:Rel J S w (.agg xs) (.agg V)) (r2:Rel J S w (.agg xs) (.agg W)):V=W∧∀ v∈V.toList,∃ k a,v=.int k a:=by
 cases aR with
 | agg _ _ dA _ _ aW =>
   cases r2 with
   | agg _ _ kq _ _ aX =>
     have key:∀ j (h:j<xs.length),∃ k a,V[j]?=some (.int k a)∧W[j]?=some (.int k a):=fun j h=>by
      obtain ⟨k,a,av⟩:=hi xs[j] (List.getElem_mem h);(have al:xs[j]?=some (.int k a):=by rw [List.getElem?_eq_getElem h,av]);have ae:=aW j _ V[j] al (Array.getElem?_eq_getElem (by omega));have hw:=aX j _ W[j] al (Array.getElem?_eq_getElem (by omega));exact ⟨k,a,by rw [Array.getElem?_eq_getElem (by omega),ae.c6],by rw [Array.getElem?_eq_getElem (by omega),hw.c6]⟩
     refine ⟨Array.ext_getElem? fun j=>?_,fun v ae=>?_⟩
     ·rcases Nat.lt_or_ge j xs.length with h | h
      ·obtain ⟨k,a,ad,af⟩:=key j h;rw [ad,af]
      ·rw [Array.getElem?_eq_none (by omega),Array.getElem?_eq_none (by omega)]
     ·obtain ⟨j,az⟩:=List.mem_iff_getElem?.1 ae;(have aY:j<xs.length:=by have:=(List.getElem?_eq_some_iff.1 az).1;simp at this;omega);obtain ⟨k,a,ad,_⟩:=key j aY;rw [Array.getElem?_toList,ad] at az;cases az;exact ⟨k,a,rfl⟩
theorem CK {k k':I} {x y:Value} (h:gv k k'=some true) (aR:Rel J S w k x) (r2:Rel J S w k' y):(Instr.keyThatStays y x).run P w=.ok x w:=by
 have ag:Instr.sameBits 10000 y x=true:=by
  unfold gv at h;split at h
  ·split at h
   ·rename_i q a fK b bl;subst bl;simp at h;subst h;rw [aR.c6,r2.c6];simp [Instr.sameBits]
   ·simp at h
  ·obtain ⟨rfl,hi⟩:=xQ h;(have e1:∃ V,x=.agg V:=by cases aR with | agg as vs=>exact ⟨_,rfl⟩);(have cd:∃ V,y=.agg V:=by cases r2 with | agg as vs=>exact ⟨_,rfl⟩);obtain ⟨V,rfl⟩:=e1;obtain ⟨W,rfl⟩:=cd;obtain ⟨rfl,dJ⟩:=DH hi aR r2;have:=Aa 9999 V.toList dJ;rw [show (10000:Nat)=9999+1 from rfl,Instr.sameBits];simpa using this
  ·simp at h
 simp [Instr.keyThatStays,ag]
theorem yK {t:TypeId} (h:kp P t=true):(∃ k,P.underlying t=some (.int k))∨∃ fs,P.underlying t=some (.struct fs)∧gB P fs.toList 0=true∧P.stoodInHeld t=false:=by
 unfold kp at h;split at h
 ·exact .inl ⟨_,by assumption⟩
 ·rename_i fs BP;simp at h;exact .inr ⟨fs,BP,h.1,h.2⟩
 ·simp at h
theorem z3 (em:Bool) (d:Nat) (V:Array Value):∀ (fs:List Field) (off:Nat),gB P fs off=true→off+fs.length≤V.size →
  (forIn fs PUnit.unit (fun f (_ : PUnit) => if f.name = "_" then pure (ForInStep.yield PUnit.unit) else (do
    let a ←part f.type V f.offset
    (fun _=>ForInStep.yield PUnit.unit) <$> Instr.checkKey em (d+1) f.type a:Sem (ForInStep PUnit)))).run P w=.ok PUnit.unit w
 | [],off,_,_=>by simp
 | f::fs,off,h,aq=>by
   obtain ⟨f1,f2,⟨c7,f3⟩,f4,f5,f6⟩:=yD h;simp only [List.length_cons] at aq;have jm:V[off]?=some V[off]:=Array.getElem?_eq_getElem (by omega);(have aW:(part f.type V f.offset).run P w=.ok V[off] w:=by simp only [part,Sem.run_bind,gI f3,f5,Result.andThen_ok,f1,jm,if_false,Bool.false_eq_true];rfl);(have aX:(Instr.checkKey em (d+1) f.type V[off]).run P w=.ok () w:=by unfold Instr.checkKey;simp [run_underlying f3]);have a9:=z3 em d V fs (off+1) f6 (by omega);simp only [List.forIn_cons,f2,if_false,Sem.run_bind,aW,Result.andThen_ok];simpa [aX] using a9
theorem xd {t:TypeId} {k:I} {x:Value} (h:kp P t=true) (av:isKey P t k=true) (aj:Rel J S w k x) (em:Bool):(Instr.checkKey em 10000 t x).run P w=.ok () w:=by
 rcases yK h with ⟨q,bl⟩ | ⟨fs,aN,hi,_⟩
 ·unfold Instr.checkKey;simp [run_underlying bl]
 ·unfold isKey at av;simp only [aN] at av;split at av
  ·rename_i a4;cases a4
  ·rename_i Bn cs a4;cases a4;simp at av;cases aj with
   | agg _ V aq _ _ _ =>
     rw [show (10000:Nat)=9998+2 from rfl,Instr.checkKey];have:=z3 (P:=P) (w:=w) em 9998 V fs.toList 0 hi (by simp;omega);rw [Array.forIn_toList] at this;simpa [run_underlying aN] using this
  ·simp at av
theorem z4 {t:TypeId} {fs:Array Field} (aw:P.underlying t=some (.struct fs)) (aN:gB P fs.toList 0=true) (hU:P.stoodInHeld t=false) {k k':I} {x y:Value} {e:Bool} (av:isKey P t k=true) (h:gv k k'=some e)
  (aR:Rel J S w k x) (r2:Rel J S w k' y):(Op.equal t x y).run P w=.ok e w:=by
 unfold isKey at av;simp only [aw] at av;split at av
 ·rename_i a4;cases a4
 ·rename_i Bn cs a4;cases a4;simp at av;cases k' with
  | agg ds =>
    simp only [gv] at h;(have e1:∃ V,x=.agg V:=by cases aR with | agg as vs=>exact ⟨_,rfl⟩);(have cd:∃ V,y=.agg V:=by cases r2 with | agg as vs=>exact ⟨_,rfl⟩);obtain ⟨V,rfl⟩:=e1;obtain ⟨W,rfl⟩:=cd;have aq:∀ (xs ys:List I) (e:Bool),dC xs ys=some e→ys.length=xs.length:=by
     intro xs
     induction xs with
     | nil=>intro ys e h;cases ys <;> simp [dC] at h;rfl
     | cons x xs a9 =>
       intro ys e h;cases ys with
       | nil=>cases x <;> simp [dC] at h
       | cons y ys=>obtain ⟨_,_,_,cL,rfl,rfl,a4,_⟩:=mJ h;simp [a9 ys cL a4]
    exact run_equalIn_struct 9998 aw aN hU av ((aq _ _ _ h).trans av) h aR r2
  | _=>simp [gv] at h
 ·simp at av
def gh (J:List Nat) (S:Nat→Nat→Prop) (w:World) (es:List (Nat×I×I)) (bx:List MapEntry):Prop :=
 bx.length=es.length∧∀ (j i:Nat) (k v:I) (x:MapEntry),es[j]?=some (i,k,v)→bx[j]?=some x→x.born=i∧k.plain=true∧Rel J S w k x.key∧v.plain=true∧Rel J S w v x.val
theorem gh.cons {e:Nat×I×I} {es:List (Nat×I×I)} {bx:List MapEntry} (h:gh J S w (e::es) bx):∃ x r,bx=x::r∧x.born=e.1∧Rel J S w e.2.1 x.key∧Rel J S w e.2.2 x.val∧gh J S w es r:=by
 cases bx with
 | nil=>simp [gh] at h
 | cons x r =>
   obtain ⟨ad,_,af,_,aH⟩:=h.2 0 e.1 e.2.1 e.2.2 x rfl rfl;exact ⟨x,r,rfl,ad,af,aH,by simpa using h.1,fun j i k v y hu aZ=>h.2 (j+1) i k v y (by simpa using hu) (by simpa using aZ)⟩
def hF (k:I) (es:List (Nat×I×I)) (bx:List MapEntry) (i:Nat):Option Nat→Option (Nat×Value)→Prop
 | none,r=>r=none
 | some n,r=>∃ e x,i≤n∧es[n-i]?=some e∧bx[n-i]?=some x∧r=some (n,x.val)∧gv k e.2.1=some true
theorem hF.step {k:I} {e:Nat×I×I} {es:List (Nat×I×I)} {x:MapEntry} {bx:List MapEntry} {i:Nat} {r:Option Nat} {res:Option (Nat×Value)} (h:hF k es bx (i+1) r res):hF k (e::es) (x::bx) i r res:=by
 cases r with
 | none=>exact h
 | some n =>
   obtain ⟨cL,nX,ad,af,aH,bh,bM⟩:=h;obtain ⟨m,hm⟩:∃ m,n-i=m+1:=⟨n-(i+1),by omega⟩;(have mZ:n-(i+1)=m:=by omega);rw [mZ] at af aH;exact ⟨cL,nX,by omega,by rw [hm];simpa using af,by rw [hm];simpa using aH,bh,bM⟩
theorem xW {q q0:IntKind} {n:Int}:∀ (es:List (Nat×I×I)) (bx:List MapEntry) (i:Nat) (r:Option Nat),fy (.int q n) es i=some r→gh J S w es bx →
  ∃ res,Instr.findNow (.int q0) (.int q n) bx i=some res∧hF (.int q n) es bx i r res
 | [],bx,i,r,h,aj=>by
   have:bx=[]:=List.length_eq_zero_iff.1 (by simpa using aj.1)
   subst this;simp [fy] at h;subst h;exact ⟨none,rfl,rfl⟩
 | (b,k',v)::es,bx,i,r,h,aj=>by
   obtain ⟨x,ents',rfl,ad,af,aH,bh⟩:=aj.cons;simp only [fy] at h;split at h
   ·rename_i he;cases h;cases k' with
    | int fK m =>
      simp only [gv] at he;split at he
      ·rename_i bl;subst bl;simp at he;subst he;simp only at af;rw [Instr.findNow,af.c6];exact ⟨some (i,x.val),by simp [Instr.sameNow],_,x,Nat.le_refl _,by simp;rfl,by simp,rfl,by simp [gv]⟩
      ·simp at he
    | _=>simp [gv] at he
   ·rename_i he;cases k' with
    | int fK m =>
      simp only [gv] at he;split at he
      ·rename_i bl;subst bl;simp at he;simp only at af;obtain ⟨res,cn,cp⟩:=xW es ents' (i+1) r h bh;rw [Instr.findNow,af.c6];(have Cb:(n == m)=false:=by simpa using he);exact ⟨res,by simp only [Instr.sameNow,if_true,Cb];exact cn,cp.step⟩
      ·simp at he
    | _=>simp [gv] at he
   ·simp at h
theorem xU {t:TypeId} {fs:Array Field} (aw:P.underlying t=some (.struct fs)) (aN:gB P fs.toList 0=true) (hU:P.stoodInHeld t=false) {k:I} {x:Value} (av:isKey P t k=true) (aR:Rel J S w k x) :
  ∀ (es:List (Nat×I×I)) (bx:List MapEntry) (i:Nat) (r:Option Nat),fy k es i=some r→gh J S w es bx →
  ∃ res,(Instr.findAsking t x bx i).run P w=.ok res w∧hF k es bx i r res
 | [],bx,i,r,h,aj=>by
   have:bx=[]:=List.length_eq_zero_iff.1 (by simpa using aj.1)
   subst this;simp [fy] at h;subst h;exact ⟨none,rfl,rfl⟩
 | (b,k',v)::es,bx,i,r,h,aj=>by
   obtain ⟨y,ents',rfl,ad,af,aH,bh⟩:=aj.cons;simp only [fy] at h;split at h
   ·rename_i he;cases h;have q:=z4 (P:=P) aw aN hU av he aR af;exact ⟨some (i,y.val),by simp [Instr.findAsking,q],_,y,Nat.le_refl _,by simp;rfl,by simp,rfl,he⟩
   ·rename_i he;have q:=z4 (P:=P) aw aN hU av he aR af;obtain ⟨res,cn,cp⟩:=xU aw aN hU av aR es ents' (i+1) r h bh;exact ⟨res,by simp [Instr.findAsking,q,cn],cp.step⟩
   ·simp at h
theorem mj {t:TypeId} {k:I} {x:Value} (h:kp P t=true) (av:isKey P t k=true) (aj:Rel J S w k x) {es:List (Nat×I×I)} {bx:List MapEntry} {r:Option Nat} (aN:fy k es 0=some r) (he:gh J S w es bx) :
  ∃ res,(Instr.findKey t x bx).run P w=.ok res w∧hF k es bx 0 r res:=by
 rcases yK h with ⟨q,bl⟩ | ⟨fs,ai,hi,cF⟩
 ·unfold isKey at av;simp only [bl] at av;split at av
  ·rename_i aW aX n a4;obtain ⟨res,cn,cp⟩:=xW (q0:=q) es bx 0 r aN he;rw [aj.c6];exact ⟨res,by simp [Instr.findKey,run_underlying bl,cn],cp⟩
  ·rename_i a4;cases a4
  ·simp at av
 ·obtain ⟨res,cn,cp⟩:=xU ai hi cF av aj es bx 0 r aN he;have cI:∃ V,x=.agg V:=by
   unfold isKey at av;simp only [ai] at av;split at av
   ·rename_i a4;cases a4
   ·cases aj with | agg as vs=>exact ⟨_,rfl⟩
   ·simp at av
  obtain ⟨V,rfl⟩:=cI;cases bx with
  | nil =>
    refine ⟨res,?_,cp⟩;simp [Instr.findAsking] at cn;subst cn;simp [Instr.findKey,run_underlying ai,Instr.findNow]
  | cons y ys =>
    refine ⟨res,?_,cp⟩
    have:Instr.findNow (.struct fs) (.agg V) (y::ys) 0=none:=by simp [Instr.findNow,Instr.sameNow]
    simp [Instr.findKey,run_underlying ai,this,cn]
theorem x_ (w:World) (o:Obj):(w.alloc o).heap[w.heap.size]?=some o:=by
 have e:(w.alloc o).heap=w.heap.push o:=rfl;rw [e];simp
theorem iP {b:Nat} {bx:Array MapEntry} {clock:Nat} (h:w.heap[b]?=some (.map bx clock)):(getObj b).run P w=.ok (.map bx clock) w:=by simp [getObj,Sem.run,h]
theorem nJ {b:Nat} {o:Obj} {bx:Array MapEntry} {clock:Nat} (h:w.heap[b]?=some (.map bx clock)):(setObj b o).run P w=.ok () (w.putObj b o):=by simp [setObj,Sem.run,h,World.putObj]
theorem Dh (ah:aJ B U J S w H):aJ B (lay U w.heap.size (.obj H.length)) (J++[w.heap.size]) S (w.alloc (.map #[] 0)) (H++[.map [] 0]) :=
 (m8 ah (.map #[] 0) (.obj H.length)).push w.heap.size ⟨w.heap.size,#[],Ext.last ah _,by simp [lay],x_ w _,rfl,l4 ah,by simp⟩
theorem EG (ah:aJ B U J S w H) {t:TypeId} {r:Option Operand} {u:I} {H':List au} (h:kD P t r H=some (u,H')) :
  ∃ x w',(Instr.makeMap t (none:Option Value)).run P w=.ok x w'∧r=none∧a0 B U J S w H' u x w':=by
 unfold kD at h;split at h
 ·cases h;exact ⟨_,_,by simp only [Instr.makeMap,Sem.run_bind,Sem.run_pure,run_newObj_alloc,Result.andThen_ok],rfl,_,_,S,Ext.append J _,j6 ah _ _,Dh ah,.map _ _ (Ext.last ah _),aV.b3 rfl⟩
 ·simp at h
theorem pD {t dW ik:TypeId} (h:jD P t=some (dW,ik)):P.underlying t=some (.map dW ik)∧kp P dW=true:=by
 unfold jD at h;split at h
 ·split at h
  ·cases h;exact ⟨by assumption,by assumption⟩
  ·cases h
 ·cases h
theorem EJ (ah:aJ B U J S w H) {lo:Nat} {t:TypeId} {m k v u:I} {H':List au} {x y z:Value} (h:iN P lo t H [m,k,v]=some (u,H'))
  (eV:Rel J S w m x) (bN:Rel J S w k y) (zg:k.plain=true) (nK:Rel J S w v z) (zp:v.plain=true) (c:Value) :
  ∃ w',(Instr.mapUpdate t x y z).run P w=.ok () w'∧a0 B U J S w H' u c w':=by
 unfold iN at h;split at h
 ·rename_i id k' bu heq;cases heq;split at h
  ·rename_i dW ik aw;obtain ⟨aw,av⟩:=pD aw;split at h
   ·rename_i hl;split at h
    ·split at h
     ·rename_i es clock aE;obtain ⟨b,bx,aB,aF,aS,bp,bf,bg⟩:=ah.obj _ _ aE;cases eV with
      | map _ ao eR =>
        rw [aB] at eR;cases eR;have he:gh J S w es bx.toList:=⟨by simpa using bp,fun j i k v x hu al=>bg j i k v x hu (by simpa using al)⟩;have iv:=xd (P:=P) av hl bN false;split at h
        ·rename_i n aN;cases h;obtain ⟨res,cn,e,x,_,cp,ed,rfl,il⟩:=mj (P:=P) av hl bN aN he;simp only [Nat.sub_zero,Array.getElem?_toList] at cp ed;obtain ⟨oj,om,c5⟩:=e;obtain ⟨a',bm,bt,b6,dQ⟩:=bg n oj om c5 x cp ed;have cF:=CK (P:=P) il bN bt;obtain ⟨aA,b_⟩:=nn ah aE (es':=es.modify n fun e=>(e.1,k,v)) (clock':=clock) (ents':=bx.modify n fun e=>{ e with key:=y,val:=z }) aB aF bf (by simp [bp]) fun j i c7 v0 iW hu al=>by
          rw [List.getElem?_modify] at hu;rw [Array.getElem?_modify] at al;by_cases az:n=j
          ·subst az;simp only [cp,ed,if_true,Option.map_some,Option.map_eq_map,Option.some.injEq,Prod.mk.injEq] at hu al;obtain ⟨rfl,rfl,rfl⟩:=hu;subst al;exact ⟨a',zg,bN,zp,nK⟩
          ·simp only [az,if_false,id_map'] at hu al;exact bg j i c7 v0 iW (by simpa using hu) (by simpa using al)
         refine ⟨_,?_,U,J,S,Ext.refl J,aA,b_,.junk _,aV.b3 rfl⟩;simp only [Instr.mapUpdate,Sem.run_bind,run_underlying aw,Result.andThen_ok,iP aS,iv,cn,ed,Option.map_some,Option.getD_some,cF,nJ aS]
        ·rename_i aN;cases h;obtain ⟨res,cn,cp⟩:=mj (P:=P) av hl bN aN he;simp only [hF] at cp;subst cp;obtain ⟨aA,b_⟩:=nn ah aE (es':=es++[(clock,k,v)]) (clock':=clock+1) (ents':=bx.push { key:=y,val:=z,born:=clock }) aB aF bf (by simp [bp]) fun j i c7 v0 iW hu al=>by
          rw [Array.getElem?_push] at al;split at al
          ·rename_i az;rw [az,bp,List.getElem?_append_right (Nat.le_refl _)] at hu;simp at hu al;obtain ⟨rfl,rfl,rfl⟩:=hu;subst al;exact ⟨rfl,zg,bN,zp,nK⟩
          ·rename_i az;have aY:j<bx.size:=(Array.getElem?_eq_some_iff.1 al).1;rw [List.getElem?_append_left (by omega)] at hu;exact bg j i c7 v0 iW hu al
         refine ⟨_,?_,U,J,S,Ext.refl J,aA,b_,.junk _,aV.b3 rfl⟩;simp only [Instr.mapUpdate,Sem.run_bind,run_underlying aw,Result.andThen_ok,iP aS,iv,cn,nJ aS]
        ·cases h
     ·cases h
    ·cases h
   ·cases h
  ·cases h
 ·cases h
theorem Fi {t:TypeId} {u:I} (h:n1 P t=some u):∃ v,(zeroValue t).run P w=.ok v w∧Rel J S w u v∧u.plain=true:=by
 unfold n1 at h;simp only [Option.bind_eq_some_iff] at h;obtain ⟨v,⟨i,hi,ae⟩,h⟩:=h;refine ⟨v,jQ hi ae,?_⟩;split at h
 ·rename_i cs;split at h
  ·rename_i dJ;cases h;refine ⟨.agg _ _ (by simp) (fun u hu=>?_) (fun v ae=>by simp only [List.all_eq_true] at dJ;exact dJ v ae) (fun j u v hu ae=>?_),rfl⟩
   ·obtain ⟨x,_,rfl⟩:=List.mem_map.1 hu;exact mB x
   ·rw [List.getElem?_map,Array.getElem?_toList,ae] at hu;simp at hu;subst hu;exact k1 _ _ _ _
  ·cases h
 ·cases h;exact ⟨k1 _ _ _ _,mB _⟩
theorem EF (ah:aJ B U J S w H) {t:TypeId} {ok:Bool} {m k u:I} {H':List au} {x y:Value} (h:h0 P t ok H [m,k]=some (u,H'))
  (eV:Rel J S w m x) (bN:Rel J S w k y) :
  ∃ v,(Instr.lookup t x y ok).run P w=.ok v w∧a0 B U J S w H' u v w:=by
 unfold h0 at h;split at h
 ·rename_i id k' heq;cases heq;split at h
  ·rename_i dW ik aw;obtain ⟨aw,av⟩:=pD aw;split at h
   ·rename_i es clock hl aE;obtain ⟨b,bx,aB,aF,aS,bp,bf,bg⟩:=ah.obj _ _ aE;cases eV with
    | map _ ao eR =>
      rw [aB] at eR;cases eR;have he:gh J S w es bx.toList:=⟨by simpa using bp,fun j i k v x hu al=>bg j i k v x hu (by simpa using al)⟩;have iv:=xd (P:=P) av hl bN bx.isEmpty;split at h
      ·rename_i r aN;simp only [Option.map_eq_some_iff,Prod.mk.injEq] at h;obtain ⟨v,ae,rfl,rfl⟩:=h;obtain ⟨res,cn,cp⟩:=mj (P:=P) av hl bN aN he;have fin:∀ (z:Value) (b:Bool),Rel J S w v z→v.plain=true →
         a0 B U J S w H (if ok then .tuple [v,.bool b] else v) (if ok then .tuple #[z,.bool b] else z) w:=fun z b aj aD=>by
        cases ok with
        | true=>exact a0.same ah (.tuple _ _ rfl (fun u hu=>by simp only [List.mem_cons,List.not_mem_nil,or_false] at hu;rcases hu with rfl | rfl;exact aD;rfl) fun j u bu hu bc=>by
          match j with
          | 0=>simp at hu bc;subst hu;subst bc;exact aj
          | 1=>simp at hu bc;subst hu;subst bc;exact .bool _
          | j+2=>simp at hu) rfl
        | false=>exact a0.same ah aj aD
       cases r with
       | none =>
         simp only [hF] at cp;subst cp;obtain ⟨z,xt,n0,Fh⟩:=Fi (J:=J) (S:=S) (w:=w) ae;exact ⟨_,by simp only [Instr.lookup,Sem.run_bind,run_underlying aw,Result.andThen_ok,iP aS,Sem.run_pure,iv,cn,xt],fin z false n0 Fh⟩
       | some n =>
         obtain ⟨e,x,_,aX,cw,rfl,dG⟩:=cp;simp only [Nat.sub_zero,Array.getElem?_toList] at aX cw;obtain ⟨oj,om,c5⟩:=e;obtain ⟨a',bm,bt,b6,dQ⟩:=bg n oj om c5 x aX cw;simp only [Option.bind_some,aX,Option.some.injEq] at ae;subst ae;exact ⟨_,by simp only [Instr.lookup,Sem.run_bind,run_underlying aw,Result.andThen_ok,iP aS,Sem.run_pure,iv,cn],fin x.val true dQ b6⟩
      ·cases h
   ·cases h
  ·cases h
 ·cases h
theorem EA (ah:aJ B U J S w H) {lo:Nat} {ts:Array TypeId} (ty:TypeId) {m k u:I} {H':List au} {x y:Value} (h:hr P lo ts H [m,k]=some (u,H'))
  (eV:Rel J S w m x) (bN:Rel J S w k y) :
  ∃ v w',(Builtin.delete_ ts ty #[x,y]).run P w=.ok v w'∧a0 B U J S w H' u v w':=by
 unfold hr at h;split at h
 ·rename_i id k' heq;cases heq;split at h
  ·rename_i dW ik aw;simp only [Option.bind_eq_some_iff] at aw;obtain ⟨t,g0,aw⟩:=aw;obtain ⟨aw,av⟩:=pD aw;split at h
   ·rename_i hl;split at h
    ·split at h
     ·rename_i es clock aE;obtain ⟨b,bx,aB,aF,aS,bp,bf,bg⟩:=ah.obj _ _ aE;cases eV with
      | map _ ao eR =>
        rw [aB] at eR;cases eR;have he:gh J S w es bx.toList:=⟨by simpa using bp,fun j i k v x hu al=>bg j i k v x hu (by simpa using al)⟩;have iv:=xd (P:=P) av hl bN bx.isEmpty;have Ay:∀ (w:World),Rel J S w (.tuple []) (.tuple #[]):=fun w=>.tuple _ _ rfl (by simp) (by simp);split at h
        ·rename_i n aN;cases h;obtain ⟨res,cn,e,x,_,cp,ed,rfl,il⟩:=mj (P:=P) av hl bN aN he;obtain ⟨aA,b_⟩:=nn ah aE (es':=es.eraseIdx n) (clock':=clock) (ents':=bx.eraseIdxIfInBounds n) aB aF bf (by rw [←Array.length_toList,Array.toList_eraseIdxIfInBounds];simp [List.length_eraseIdx,bp]) fun j i c7 v0 iW hu al=>by
          rw [←Array.getElem?_toList,Array.toList_eraseIdxIfInBounds] at al;rw [List.getElem?_eraseIdx] at hu al;by_cases az:j<n
          ·simp only [az,if_true] at hu al;exact bg j i c7 v0 iW hu (by simpa using al)
          ·simp only [az,if_false] at hu al;exact bg _ i c7 v0 iW hu (by simpa using al)
         refine ⟨_,_,?_,U,J,S,Ext.refl J,aA,b_,Ay _,aV.b3 rfl⟩;simp only [Builtin.delete_,g0,List.getElem?_toArray,List.getElem?_cons_zero,List.getElem?_cons_succ,Sem.run_bind,run_underlying aw,Result.andThen_ok,iP aS,iv,cn,nJ aS,Sem.run_pure]
        ·rename_i aN;cases h;obtain ⟨res,cn,cp⟩:=mj (P:=P) av hl bN aN he;simp only [hF] at cp;subst cp;obtain ⟨aA,b_⟩:=nn ah aE (es':=es) (clock':=clock) (ents':=bx) aB aF bf bp bg;have Cw:H.set id (.map es clock)=H:=List.ext_getElem? fun j=>by
          by_cases az:id=j
          ·subst az;rw [List.getElem?_set_self (List.getElem?_eq_some_iff.1 aE).1,aE]
          ·rw [List.getElem?_set_ne az]
         rw [Cw] at b_;refine ⟨_,_,?_,U,J,S,Ext.refl J,aA,b_,Ay _,aV.b3 rfl⟩;simp only [Builtin.delete_,g0,List.getElem?_toArray,List.getElem?_cons_zero,List.getElem?_cons_succ,Sem.run_bind,run_underlying aw,Result.andThen_ok,iP aS,iv,cn,nJ aS,Sem.run_pure]
        ·cases h
     ·cases h
    ·cases h
   ·cases h
  ·cases h
 ·cases h
theorem EO (ah:aJ B U J S w H) {t:TypeId} {m u:I} {H':List au} {x:Value} (h:kE P t H [m]=some (u,H')) (eV:Rel J S w m x) :
  ∃ v w',(Instr.range t x).run P w=.ok v w'∧a0 B U J S w H' u v w':=by
 unfold kE at h;split at h
 ·rename_i id heq;cases heq;split at h
  ·rename_i dW ik es clock aw aE;cases h;obtain ⟨b,bx,aB,aF,aS,bp,bf,bg⟩:=ah.obj _ _ aE;cases eV with
   | map _ ao eR =>
     rw [aB] at eR;cases eR;refine ⟨.pointer (some ⟨w.heap.size,0,none⟩),w.alloc (.mapIter (some b) clock #[] clock),by simp only [Instr.range,Sem.run_bind,run_underlying aw,Result.andThen_ok,iP aS,Sem.run_pure,run_newObj_alloc],_,_,S,Ext.append J _,j6 ah _ (.obj H.length),?_,.ptr _ _ _ (Ext.last ah _),aV.b3 rfl⟩;exact (m8 ah _ (.obj H.length)).push w.heap.size ⟨w.heap.size,b,Ext.last ah _,by simp [lay],Ext.append J _ _ _ aB,x_ w _,l4 ah⟩
  ·cases h
 ·cases h
theorem xV {J:List Nat} {S:Nat→Nat→Prop} {w:World} (ga:Nat):∀ (es:List (Nat×I×I)) (bx:List MapEntry) (e:Nat×I×I),gh J S w es bx→es.find? (fun e=>e.1 == ga)=some e →
  ∃ x,bx.find? (fun x=>x.born == ga)=some x∧Rel J S w e.2.1 x.key∧Rel J S w e.2.2 x.val∧e.2.1.plain=true∧e.2.2.plain=true
 | [],bx,e,aj,h=>by simp at h
 | fP::es,bx,e,aj,h=>by
   have aT:=aj;obtain ⟨x,ents',rfl,ad,af,aH,bh⟩:=aj.cons;obtain ⟨_,bP,_,b4,_⟩:=aT.2 0 fP.1 fP.2.1 fP.2.2 x rfl rfl;rw [List.find?_cons] at h ⊢;rw [ad];split at h
   ·rename_i ag;cases h;exact ⟨x,by simp,af,aH,bP,b4⟩
   ·rename_i ag;obtain ⟨nX,g⟩:=xV ga es ents' e bh h;exact ⟨nX,by simp [g.1],g.2⟩
theorem EB (ah:aJ B U J S w H) {m u:I} {H':List au} {x:Value} (h:kC H [m]=some (u,H')) (eV:Rel J S w m x) :
  ∃ v,(Instr.entry x).run P w=.ok v w∧a0 B U J S w H' u v w:=by
 unfold kC at h;split at h
 ·rename_i r heq;cases heq;split at h
  ·rename_i m since seen jV aE;split at h
   ·rename_i ga es clock cF B6;split at h
    ·rename_i ak;subst ak;split at h
     ·rename_i e he;cases h;obtain ⟨b,d_,aB,aF,aS,bp,bf⟩:=ah.obj _ _ aE;obtain ⟨ao,bx,a',bm,bt,b6,dQ,fN⟩:=ah.obj _ _ B6;rw [aS] at a';cases a';cases eV with
      | ptr _ _ ao eR =>
        rw [aB] at eR;cases eR;have aj:gh J S w es bx.toList:=⟨by simpa using b6,fun j i k v x hu al=>fN j i k v x hu (by simpa using al)⟩;obtain ⟨y,cn,cp,ed,il,Bp⟩:=xV ga es bx.toList e aj he;(have ag:(seen.toArray).back?=some ga:=by simpa using cF);have aK:(getObj b).run P w=.ok (.mapIter (some d_) since seen.toArray clock) w:=by simp [getObj,Sem.run,bp]
        refine ⟨.tuple #[y.key,y.val],?_,a0.same ah (.tuple _ _ rfl (by simp [il,Bp]) fun j u bu hu bc=>by
          match j with
          | 0=>simp at hu bc;subst hu;subst bc;exact cp
          | 1=>simp at hu bc;subst hu;subst bc;exact ed
          | j+2=>simp at hu) rfl⟩
        (have aN:bx.find? (fun x=>x.born == ga)=some y:=by rw [←Array.find?_toList];exact cn);simp [Instr.entry,aK,ag,iP bt,aN]
     ·cases h
    ·cases h
   ·cases h
  ·cases h
 ·cases h
end
end Go.Proofs.YtfakoboiahbhaaaGreat.Ab


namespace Go.Proofs.YtfakoboiahbhaaaGreat.Ab
open Go
section
variable {P:Program} {B:Nat} {J:List Nat} {w:World} {H:List au} {U:Nat→Option aG} {S:Nat→Nat→Prop}
theorem zh (ah:aJ B U J S w H) {id off len sz n:Nat} {cap:Option Nat} {row:List I} {v:Value} (cO:rowOf H (.ref id off len cap sz)=some row) (aP:lenOf (.ref id off len cap sz)=some n)
  (aj:Rel J S w (.ref id off len cap sz) v) :
  a0 B U J S w (H.set id .dead) (.ax row n (gU cap n)) v w:=by
 classical
 simp [lenOf] at aP;subst aP;cases aj with
 | ref _ _ _ _ _ b gu ag ak hle =>
   unfold rowOf at cO;simp only at cO;split at cO
   ·rename_i l aE;split at cO
    ·rename_i dy;simp only [Option.some.injEq] at cO;obtain ⟨ao,cur,e,aB,aF,aS,bp,bf,bg⟩:=ah.obj id _ aE;rw [ag] at aB;cases aB
     let S':Nat→Nat→Prop:=fun ao o=>S ao o∨(ao=b∧o<cur.size)
     let ay:Nat→Option aG:=fun ao=>if ao=b then none else U ao
     have bw:∀ o,o<cur.size→w.cell? ⟨b,o,none⟩=cur[o]?:=fun o ar=>by
      simp [World.cell?,aS,ar]
     have aA:bj U S w ay S' w:=⟨rfl,rfl,rfl,Nat.le_refl _,fun _ _ _=>rfl,fun _ _ h=>⟨.inl h,rfl⟩,fun ao o h=>by
       rcases h with h | ⟨rfl,_⟩
       ·exact .inl h
       ·exact .inr (.inl (by simp [aF])),fun ao bq=>by
       by_cases dx:ao=b
       ·simp [ay,dx] at bq
       ·simp only [ay,dx,if_false] at bq;exact .inl bq⟩
     have bV:aJ B ay J S' w (H.set id .dead):=by
      refine ⟨by simpa using ah.cA,fun bA o ar=>?_,fun ao o h=>?_,fun ao l' bq=>?_,ah.cV⟩
      ·by_cases cr:bA=id
       ·subst cr
        have:o=.dead:=by
         have:=(List.getElem?_eq_some_iff.1 aE).1;simp [this] at ar;exact ar.symm
        subst this;trivial
       ·rw [List.getElem?_set_ne (Ne.symm cr)] at ar;refine (ah.obj bA o ar).frame (Ext.refl J) aA.set (fun ao l' bq aq=>?_);have bY:ao≠b:=fun e=>by
         subst e;rw [aF] at bq;cases bq;rcases aq with h | ⟨j,h⟩
         ·cases h;exact cr rfl
         ·cases h
        exact ⟨by simp [ay,bY,bq],rfl,fun o h=>h.resolve_right fun h=>bY h.1⟩
      ·rcases h with h | ⟨rfl,h⟩
       ·exact ah.b' _ _ h
       ·exact ⟨_,(bw o h).trans (Array.getElem?_eq_getElem h)⟩
      ·by_cases dx:ao=b
       ·simp [ay,dx] at bq
       ·simp only [ay,dx,if_false] at bq;exact ah.base _ _ bq
     (have hlen:row.length=len*sz:=by subst cO;simp;omega);refine ⟨ay,J,S',Ext.refl J,aA,bV,.ax row len _ b off gu (fun j=>cur.getD (off+j) undef) (fun h=>?_) hle (fun z h=>?_) (fun j u az=>?_) (fun j u az=>?_),aV.b3 ?_⟩
     ·unfold gU at h;cases cap with
      | none=>simp at h
      | some c =>
        simp only at h;split at h
        ·rename_i dh;rw [ak c rfl,dh]
        ·cases h
     ·unfold gU at h;cases cap with
      | none=>simp at h
      | some c=>simp only at h;split at h <;> cases h
     all_goals (try (
      have hQ:=(List.getElem?_eq_some_iff.1 az).1;(have fj:off+j<l.length:=by omega);(have e6:off+j<cur.size:=by omega);have al:l[off+j]?=some l[off+j]:=List.getElem?_eq_getElem fj;have ae:cur[off+j]?=some cur[off+j]:=Array.getElem?_eq_getElem e6;(have aK:cur.getD (off+j) undef=cur[off+j]:=by simp [e6]);have hu:u=l[off+j].view:=by
       subst cO;rw [List.getElem?_map,List.getElem?_take,if_pos (by simp at hQ;omega),List.getElem?_drop,al] at az;simpa using az.symm
      obtain ⟨a',bm,bt,b6⟩:=bg (off+j) _ _ al ae
      subst hu))
     ·exact ⟨.inr ⟨rfl,e6⟩,by rw [bw _ e6,ae,aK],I.c_ _,by rw [aK];exact bm⟩
     ·rw [aK];exact (bt.view a').mono (Ext.refl J) aA.set
     ·unfold gU;cases cap with
      | none=>rfl
      | some c=>simp only;split <;> rfl
    ·simp at cO
   ·simp at cO
theorem An (ah:aJ B U J S w H) {t e:TypeId} (aw:P.underlying t=some (.slice e)) {id off n z:Nat} {l c:List I} (aE:H[id]?=some (.cells l)) (cS:l[off]?=some (.ax c n (.own z))) {v:Value}
  (aj:Rel J S w (.ptr id off) v) :
  ∃ x,(Instr.loadAt t v).run P w=.ok x w∧a0 B U J S w (H.set id (.cells (l.set off (.ax c n .shared)))) (.ax c n (.own z)) x w:=by
 classical
 have cI:dz P t=false:=by simp [dz,aw]
 obtain ⟨b,cur,cL,aB,aF,aS,bp,bf,bg⟩:=ah.obj id _ aE;cases aj with
 | ptr _ _ ao ag =>
   rw [aB] at ag;cases ag;have az:off<l.length:=(List.getElem?_eq_some_iff.1 cS).1;(have fj:off<cur.size:=by omega);have iw:cur[off]?=some cur[off]:=Array.getElem?_eq_getElem fj;obtain ⟨a',bm,bt,b6⟩:=bg off _ _ cS iw;(have bw:w.cell? ⟨b,off,none⟩=some cur[off]:=by rw [cell_of_row w b _ cur cL (0,0) aS,iw]);refine ⟨cur[off],by simp [Instr.loadAt,Instr.sureAddr,loadVar,gI aw,cI,load,Sem.run,bw],?_⟩
   let ay:Nat→Option aG:=fun ao=>if U ao=some (.cell id off) then some .res else U ao
   have aA:bj U S w ay S w:=⟨rfl,rfl,rfl,Nat.le_refl _,fun _ _ _=>rfl,fun _ _ h=>⟨h,rfl⟩,fun _ _ h=>.inl h,fun b ag=>.inl fun aT=>ag (by simp [ay,aT])⟩;have av:∀ ao l',U ao=some l'→l'≠.cell id off→ay ao=some l':=fun ao l' ad af=>by
    have:¬ U ao=some (.cell id off):=by rw [ad];intro e;cases e;exact af rfl
    simp [ay,ad,af]
   refine ⟨ay,J,S,Ext.refl J,aA,⟨by simpa using ah.cA,fun bA o ar=>?_,ah.b',fun ao l' bq=>?_,ah.cV⟩,bt,b6.mono (Ext.refl J) aA.set fun ao bq=>⟨by simp [ay,bq],rfl,fun _ h=>h⟩⟩
   ·by_cases cr:bA=id
    ·subst cr;rw [List.getElem?_set_self (List.getElem?_eq_some_iff.1 aE).1] at ar;cases ar;refine ⟨b,cur,cL,aB,av b _ aF (by simp),aS,by simpa using bp,bf,fun j u v hu ae=>?_⟩;by_cases hn:j=off
     ·subst hn;rw [List.getElem?_set_self az] at hu;cases hu;obtain ⟨cn,cp,ed,_⟩:=bg j _ _ cS ae;exact ⟨rfl,cp,ed.view cn,aV.b3 rfl⟩
     ·rw [List.getElem?_set_ne (Ne.symm hn)] at hu;obtain ⟨d1,d2,d3,d4⟩:=bg j u v hu ae;exact ⟨d1,d2,d3,d4.mono (Ext.refl J) aA.set fun ao bq=>⟨av ao _ bq (by simp [hn]),rfl,fun _ h=>h⟩⟩
    ·rw [List.getElem?_set_ne (Ne.symm cr)] at ar;refine (ah.obj bA o ar).frame (Ext.refl J) aA.set (fun ao l' bq aq=>⟨av ao l' bq ?_,rfl,fun _ h=>h⟩);rcases aq with rfl | ⟨j,rfl⟩
     ·simp
     ·simp [cr]
   ·by_cases h:U ao=some (.cell id off)
    ·exact ah.base ao _ h
    ·simp only [ay,h,if_false] at bq;exact ah.base ao l' bq
theorem Ao (ah:aJ B U J S w H) {t e:TypeId} (aw:P.underlying t=some (.slice e)) {id off n z:Nat} {l c:List I} (aE:H[id]?=some (.cells l)) (cS:l[off]?=some (.raw c n z)) {v:Value}
  (aj:Rel J S w (.ptr id off) v) :
  ∃ b x,J[id]?=some b∧w.cell? ⟨b,off,none⟩=some x∧x.oneCell'=true∧(Instr.loadAt t v).run P w=.ok x w∧a0 B U J S w (H.set id (.cells (l.set off .junk))) (.ax c n (.uniq z)) x w:=by
 classical
 have cI:dz P t=false:=by simp [dz,aw]
 obtain ⟨b,cur,cL,aB,aF,aS,bp,bf,bg⟩:=ah.obj id _ aE;cases aj with
 | ptr _ _ ao ag =>
   rw [aB] at ag;cases ag;have az:off<l.length:=(List.getElem?_eq_some_iff.1 cS).1;(have fj:off<cur.size:=by omega);have iw:cur[off]?=some cur[off]:=Array.getElem?_eq_getElem fj;obtain ⟨a',bm,bt,b6⟩:=bg off _ _ cS iw;obtain ⟨E3,E4⟩:=DD bt b6;(have bw:w.cell? ⟨b,off,none⟩=some cur[off]:=by rw [cell_of_row w b _ cur cL (0,0) aS,iw]);refine ⟨b,cur[off],aB,bw,bm,by simp [Instr.loadAt,Instr.sureAddr,loadVar,gI aw,cI,load,Sem.run,bw],?_⟩
   let ay:Nat→Option aG:=fun ao=>if U ao=some (.cell id off) then some .res else U ao
   have aA:bj U S w ay S w:=⟨rfl,rfl,rfl,Nat.le_refl _,fun _ _ _=>rfl,fun _ _ h=>⟨h,rfl⟩,fun _ _ h=>.inl h,fun b ag=>.inl fun aT=>ag (by simp [ay,aT])⟩;have av:∀ ao l',U ao=some l'→l'≠.cell id off→ay ao=some l':=fun ao l' ad af=>by
    have:¬ U ao=some (.cell id off):=by rw [ad];intro e;cases e;exact af rfl
    simp [ay,ad,af]
   refine ⟨ay,J,S,Ext.refl J,aA,⟨by simpa using ah.cA,fun bA o ar=>?_,ah.b',fun ao l' bq=>?_,ah.cV⟩,E3,E4.mono (Ext.refl J) aA.set fun ao bq=>⟨by simp [ay,bq],rfl,fun _ h=>h⟩⟩
   ·by_cases cr:bA=id
    ·subst cr;rw [List.getElem?_set_self (List.getElem?_eq_some_iff.1 aE).1] at ar;cases ar;refine ⟨b,cur,cL,aB,av b _ aF (by simp),aS,by simpa using bp,bf,fun j u v hu ae=>?_⟩;by_cases hn:j=off
     ·subst hn;rw [List.getElem?_set_self az] at hu;cases hu;obtain ⟨cn,cp,ed,_⟩:=bg j _ _ cS ae;exact ⟨rfl,cp,.junk _,aV.b3 rfl⟩
     ·rw [List.getElem?_set_ne (Ne.symm hn)] at hu;obtain ⟨d1,d2,d3,d4⟩:=bg j u v hu ae;exact ⟨d1,d2,d3,d4.mono (Ext.refl J) aA.set fun ao bq=>⟨av ao _ bq (by simp [hn]),rfl,fun _ h=>h⟩⟩
    ·rw [List.getElem?_set_ne (Ne.symm cr)] at ar;refine (ah.obj bA o ar).frame (Ext.refl J) aA.set (fun ao l' bq aq=>⟨av ao l' bq ?_,rfl,fun _ h=>h⟩);rcases aq with rfl | ⟨j,rfl⟩
     ·simp
     ·simp [cr]
   ·by_cases h:U ao=some (.cell id off)
    ·exact ah.base ao _ h
    ·simp only [ay,h,if_false] at bq;exact ah.base ao l' bq
theorem Co (ah:aJ B U J S w H) {id off b:Nat} {l:List I} (aE:H[id]?=some (.cells l)) (ag:J[id]?=some b) {u:I} {x:Value} (al:w.cell? ⟨b,off,none⟩=some x) (ad:x.oneCell'=true) (aD:u.plain=true) (aj:Rel J S w u x) :
  aJ B U J S w (H.set id (.cells (l.set off u))):=by
 refine ⟨by simpa using ah.cA,fun bA o ar=>?_,ah.b',ah.base,ah.cV⟩;by_cases cr:bA=id
 ·subst cr;rw [List.getElem?_set_self (List.getElem?_eq_some_iff.1 aE).1] at ar;cases ar;obtain ⟨ao,cur,cL,aB,aF,aS,bp,bf,bg⟩:=ah.obj bA _ aE;rw [ag] at aB;cases aB;refine ⟨b,cur,cL,ag,aF,aS,by simpa using bp,bf,fun j y v hu ae=>?_⟩;by_cases hn:off=j
  ·subst hn;(have aY:off<l.length:=by have:=(List.getElem?_eq_some_iff.1 hu).1;simpa using this);rw [List.getElem?_set_self aY] at hu;cases hu;rw [cell_of_row w b _ cur cL (0,0) aS,ae] at al;cases al;exact ⟨I.fX aD,ad,aj,aV.b3 aD⟩
  ·rw [List.getElem?_set_ne hn] at hu;exact bg j y v hu ae
 ·rw [List.getElem?_set_ne (Ne.symm cr)] at ar;exact ah.obj bA o ar
theorem ET (ah:aJ B U J S w H) {t e:TypeId} (aw:P.underlying t=some (.slice e)) {id off n z:Nat} {l c:List I} (aP:n≠0) (aE:H[id]?=some (.cells l)) (cS:l[off]?=some (.raw c n z)) {v:Value}
  (aj:Rel J S w (.ptr id off) v) :
  ∃ x,(Instr.loadAt t v).run P w=.ok x w∧a0 B U J S w (H.set id (.cells (l.set off (.ref H.length 0 n none z)))++[.cells c]) (.ref H.length 0 n none z) x w:=by
 obtain ⟨b,x,ad,af,aH,bh,b5,cT,a5,aL,aQ,ch,lW,CH⟩:=Ao ah aw aE cS aj;refine ⟨x,bh,?_⟩;obtain ⟨bo,ca,bI,c8,c9,jB,kt,yX⟩:=zk ch (l:=.res) (by simp) (by simp) aP lW CH;rw [List.length_set] at kt yX;have aY:=(List.getElem?_eq_some_iff.1 aE).1;have fi:ca[id]?=some b:=c8 _ _ (aL _ _ ad);have oY:(H.set id (au.cells (l.set off .junk))++[au.cells c])[id]?=some (au.cells (l.set off .junk)):=by
  rw [List.getElem?_append_left (by simpa using aY),List.getElem?_set_self aY]
 have al:=Co jB oY fi af aH (u:=.ref H.length 0 n none z) rfl kt;have e:(H.set id (au.cells (l.set off .junk))++[au.cells c]).set id (au.cells ((l.set off .junk).set off (.ref H.length 0 n none z)))=H.set id (au.cells (l.set off (.ref H.length 0 n none z)))++[au.cells c]:=by
  rw [List.set_append_left _ _ (by simpa using aY),List.set_set,List.set_set]
 rw [e] at al;exact ⟨bo,ca,bI,aL.trans c8,aQ.trans c9,al,kt,yX⟩
theorem CE {x:Operand} (h:iE x=true):x=.const (.slice none 0 0):=by
 unfold iE at h;split at h
 ·rfl
 ·simp at h
theorem eH (i:Nat):∀ id,aG.arg i≠.obj id:=fun _=>by simp
theorem eI (i:Nat):∀ id j,aG.arg i≠.cell id j:=fun _ _=>by simp
theorem Dy (ah:aJ B U J S w H) {id gid n z:Nat} {l:List I} (aE:H[id]?=some (.grow l gid z)) (aP:n*z≤l.length) (aD:(l.take (n*z)).all I.plain=true) {v:Value} (aj:Rel J S w (.cf id gid n z) v) :
  a0 B U J S w (H.set id .dead) (.ax (l.take (n*z)) n (.uniq z)) v w:=by
 classical
 rw [List.all_eq_true] at aD;obtain ⟨b,cur,e,aB,aF,aS,bp,bf,bg,cap,cY,c4,dv,fu⟩:=ah.obj id _ aE;cases aj with
 | cf _ _ _ _ ao cap' ag aK hle =>
   rw [aB] at ag;cases ag;rw [cY] at aK;cases aK
   let ay:Nat→Option aG:=fun ao=>if U ao=some (.obj id) then some .res else U ao
   have aA:bj U S w ay S w:=⟨rfl,rfl,rfl,Nat.le_refl _,fun _ _ _=>rfl,fun _ _ h=>⟨h,rfl⟩,fun _ _ h=>.inl h,fun b ag=>.inl fun aT=>ag (by simp [ay,aT])⟩;have av:∀ ao l',U ao=some l'→l'≠.obj id→ay ao=some l':=fun ao l' ad af=>by
    have:¬ U ao=some (.obj id):=by rw [ad];intro e;cases e;exact af rfl
    simp [ay,ad,af]
   refine ⟨ay,J,S,Ext.refl J,aA,⟨by simpa using ah.cA,fun bA o ar=>?_,ah.b',fun ao l' bq=>?_,ah.cV⟩,.cH _ _ _ _ _ _,.inr ⟨by simp [ay,aF],rfl,hle,c4,dv,by simp;omega,⟨cur,e,aS,fu,fun j u v hu ae=>?_⟩,bf⟩⟩
   ·by_cases cr:bA=id
    ·subst cr;rw [List.getElem?_set_self (List.getElem?_eq_some_iff.1 aE).1] at ar;cases ar;trivial
    ·rw [List.getElem?_set_ne (Ne.symm cr)] at ar;refine (ah.obj bA o ar).frame (Ext.refl J) aA.set (fun ao l' bq aq=>⟨av ao l' bq ?_,rfl,fun _ h=>h⟩);rcases aq with rfl | ⟨j,rfl⟩
     ·simp [cr]
     ·simp
   ·by_cases h:U ao=some (.obj id)
    ·exact ah.base ao _ h
    ·simp only [ay,h,if_false] at bq;exact ah.base ao l' bq
   ·have b8:u∈l.take (n*z):=List.mem_of_getElem? hu;rw [List.getElem?_take] at hu;split at hu
    ·obtain ⟨_,bm,bt,_⟩:=bg j u v hu ae;exact ⟨aD u b8,bm,bt⟩
    ·simp at hu
theorem Am (ah:aJ B U J S w H) {aU:Operand→Value} (eF:∀ v,aU (.const v)=v) {lo mode:Nat} {t:TypeId} {x:Operand} {us:List I} {r:I} {H':List au}
  (h:eK P lo mode t x H us=some (r,H')) (ae:a7 (fun i=>.arg i) U J S w us ([x].map aU)):a0 B U J S w H' r (aU x) w:=by
 obtain ⟨u,rfl,aR,bC⟩:=a7.one ae;unfold eK at h;simp only at h;split at h
 ·split at h
  ·rename_i aP aw;simp only [Option.map_eq_some_iff,Prod.mk.injEq] at h;obtain ⟨z,_,rfl,rfl⟩:=h;rw [CE aP,eF];exact ⟨U,J,S,Ext.refl J,bj.refl U S w,ah,.b2 _ _,trivial⟩
  ·cases h;exact h2 ah (eH _) (eI _) aR bC
 ·split at h
  ·rename_i cells len z;split at h
   ·cases h;exact h2 ah (eH _) (eI _) aR bC
   ·rename_i aT;cases h;exact zk ah (eH _) (eI _) aT aR bC
  ·cases h;exact h2 ah (eH _) (eI _) aR bC
  ·cases h;exact h2 ah (eH _) (eI _) aR bC
  ·simp at h
 ·split at h
  ·rename_i id gid n z;split at h
   ·split at h
    ·rename_i l g cQ aE;split at h
     ·rename_i ak;obtain ⟨rfl,rfl,ad,af⟩:=ak;cases h;exact Dy ah aE ad af aR
     ·simp at h
    ·simp at h
   ·simp at h
  ·cases h;exact h2 ah (eH _) (eI _) aR bC
 ·split at h
  ·rename_i id off len cap sz;split at h
   ·simp only [Option.bind_eq_some_iff,Option.map_eq_some_iff,Prod.mk.injEq] at h;obtain ⟨row,cO,n,aP,rfl,rfl⟩:=h;exact zh ah cO aP aR
   ·simp at h
  ·rename_i id gid n z;split at h
   ·split at h
    ·rename_i l g cQ aE;split at h
     ·rename_i aq;cases h;have aY:=(List.getElem?_eq_some_iff.1 aE).1;have q:=zh (ah.nU aE) (row:=l.map I.view) (by simp only [rowOf,List.getElem?_set_self aY,Nat.zero_add];rw [if_pos (by omega),List.drop_zero,List.take_of_length_le (by omega)]) rfl (aR.view rfl);rw [List.set_set] at q;exact q
     ·simp at h
    ·simp at h
   ·simp at h
  ·cases h;obtain ⟨S',aL,aQ,b_,r2⟩:=l1 ah (eH _) (eI _) aR bC;exact a0.after (Ext.refl J) (bj.settle aL fun b o h=>(aQ b o h).imp id fun h=>⟨_,h⟩) (a0.same b_ r2 (I.c_ _))
theorem EE (ah:aJ B U J S w H) {t e:TypeId} (aw:P.underlying t=some (.slice e)) {id off i g n z:Nat} {l:List I} (aE:H[id]?=some (.cells l)) (cS:l[off]?=some (.cf i g n z)) {v:Value}
  (aj:Rel J S w (.ptr id off) v):∃ x,(Instr.loadAt t v).run P w=.ok x w∧a0 B U J S w H (.cf i g n z) x w:=by
 have cI:dz P t=false:=by simp [dz,aw]
 obtain ⟨b,cur,cL,aB,aF,aS,bp,bf,bg⟩:=ah.obj id _ aE;cases aj with
 | ptr _ _ ao ag =>
   rw [aB] at ag;cases ag;have az:off<l.length:=(List.getElem?_eq_some_iff.1 cS).1;(have fj:off<cur.size:=by omega);have iw:cur[off]?=some cur[off]:=Array.getElem?_eq_getElem fj;obtain ⟨a',bm,bt,b6⟩:=bg off _ _ cS iw;(have bw:w.cell? ⟨b,off,none⟩=some cur[off]:=by rw [cell_of_row w b _ cur cL (0,0) aS,iw]);exact ⟨cur[off],by simp [Instr.loadAt,Instr.sureAddr,loadVar,gI aw,cI,load,Sem.run,bw],U,J,S,Ext.refl J,bj.refl U S w,ah,bt,trivial⟩
theorem ED (ah:aJ B U J S w H) {lo mode:Nat} {t:TypeId} {u:I} {r:I} {H':List au} {v:Value} (h:dF P lo mode t H [u]=some (r,H')) (aj:Rel J S w u v) :
  ∃ x,(Instr.loadAt t v).run P w=.ok x w∧a0 B U J S w H' r x w:=by
 unfold dF at h;simp only at h;split at h
 ·simp only [Option.map_eq_some_iff,Prod.mk.injEq] at h;obtain ⟨r',h,rfl,rfl⟩:=h;obtain ⟨x,ad,af,aH⟩:=kL ah h aj;exact ⟨x,ad,a0.same ah af aH⟩
 ·split at h
  ·simp only [Option.map_eq_some_iff,Prod.mk.injEq] at h;obtain ⟨r',h,rfl,rfl⟩:=h;obtain ⟨x,ad,af,aH⟩:=kL (t:=t) ah (by simpa only [dI] using h) aj;exact ⟨x,ad,a0.same ah af aH⟩
  ·simp at h
 ·split at h
  ·rename_i e id off aw;split at h
   ·rename_i l aE;split at h
    ·rename_i i g n z cS;cases h;exact EE ah aw aE cS aj
    ·rename_i cS;cases h
     have:dI P H t (.ptr id off)=some (.ax [] 0 .full):=by simp [dI,aE,ek,dz,aw,cS,I.view]
     obtain ⟨x,ad,af,aH⟩:=kL ah this aj;exact ⟨x,ad,a0.same ah af aH⟩
    ·simp at h
   ·simp at h
  ·simp at h
 ·split at h
  ·rename_i e id off aw;split at h
   ·split at h
    ·rename_i l aE;split at h
     ·rename_i c n z cS;cases h;exact An ah aw aE cS aj
     ·rename_i c n z cS;split at h
      ·split at h
       ·simp at h
       ·rename_i aP;cases h;exact ET ah aw aP aE cS aj
      ·cases h;obtain ⟨_,x,_,_,_,ad,af⟩:=Ao ah aw aE cS aj;exact ⟨x,ad,af⟩
     ·rename_i bH cW iB cS;cases h
      have:dI P H t (.ptr id off)=some bH.view:=by simp [dI,aE,ek,dz,aw,cS]
      obtain ⟨x,ad,af,aH⟩:=kL ah this aj;exact ⟨x,ad,a0.same ah af aH⟩
     ·simp at h
    ·rename_i l g cQ aE;have aY:=(List.getElem?_eq_some_iff.1 aE).1;split at h
     ·rename_i c n z cS;cases h;obtain ⟨b,cur,cL,aB,aF,aS,bp,bf,bg,cap,cY,c4,dv,fu⟩:=ah.obj id _ aE;obtain ⟨x,ad,ay,bZ,S',bP,b4,ev,fI⟩:=An (ah.nU aE) aw (by rw [List.getElem?_set_self aY]) cS aj;have aK:=ev.pP (g:=g) (z:=cQ) (by rw [List.getElem?_set_self (by simpa using aY)]) (bP _ _ aB) (bP _ _ cY) c4 dv aS fu;rw [List.set_set,List.set_set] at aK;exact ⟨x,ad,ay,bZ,S',bP,b4,aK,fI⟩
     ·rename_i c n cS;cases h
      have:dI P H t (.ptr id off)=some (.ax c n .full):=by simp [dI,aE,ek,dz,aw,cS,I.view]
      obtain ⟨x,ad,af,aH⟩:=kL ah this aj;exact ⟨x,ad,a0.same ah af aH⟩
     ·simp at h
    ·simp at h
   ·simp at h
  ·simp at h
theorem Al (ah:aJ B U J S w H) {lo:Nat} {b:Builtin} {ts:Array TypeId} (ty:TypeId) (cs:Array Bool) {us:List I} {r:I} {H':List au} {vs:List Value} (h:en P lo b ts H us=some (r,H'))
  (ae:a7 (fun i=>.arg i) U J S w us vs):∃ y w',(builtin b ts ty cs vs.toArray).run P w=.ok (.value y) w'∧a0 B U J S w H' r y w':=by
 have one:∀ {u:I},us=[u]→∃ v,vs=[v]∧Rel J S w u v:=fun {u} e=>by
  subst e
  match vs,ae with
  | [v],ae=>exact ⟨v,rfl,ae.rel 0 u v rfl rfl⟩
  | [],ae=>exact absurd ae.len (by simp)
  | _::_::_,ae=>exact absurd ae.len (by simp)
 have two:∀ {u x:I},us=[u,x]→∃ v y,vs=[v,y]∧Rel J S w u v∧aV U J S w (.arg 0) u v∧Rel J S w x y∧aV U J S w (.arg 1) x y:=fun {u x} e=>by
  subst e
  match vs,ae with
  | [v,y],ae=>exact ⟨v,y,rfl,ae.rel 0 u v rfl rfl,ae.own 0 u v rfl rfl,ae.rel 1 x y rfl rfl,ae.own 1 x y rfl rfl⟩
  | [],ae=>exact absurd ae.len (by simp)
  | [_],ae=>exact absurd ae.len (by simp)
  | _::_::_::_,ae=>exact absurd ae.len (by simp)
 unfold en at h;split at h
 ·
  unfold iL at h;split at h
  ·rename_i s x;split at h
   ·rename_i t de g0;(have g0:ts=#[t,de]:=by rw [←Array.toArray_toList (xs:=ts),g0]);subst g0;simp only [Option.map_eq_some_iff,Prod.mk.injEq] at h;obtain ⟨r',h,rfl,rfl⟩:=h;obtain ⟨v,y,rfl,aR,bC,r2,bO⟩:=two rfl;obtain ⟨z,w',ad,af⟩:=Aj ah ty (eH _) (eI _) (eH _) (eI _) (by simp) h aR bC r2 bO;exact ⟨z,w',by simp [builtin,ad],af⟩
   ·simp at h
  ·simp at h
 ·
  match us with
  | [u] =>
    obtain ⟨v,rfl,aR⟩:=one rfl;obtain ⟨y,ad,af⟩:=EC ah (ts:=ts) ty h aR;exact ⟨y,w,by simp [builtin,ad],af⟩
  | []=>simp [g8] at h
  | _::_::_=>simp [g8] at h
 ·
  match us with
  | [u] =>
    obtain ⟨v,rfl,aR⟩:=one rfl;obtain ⟨y,ad,af⟩:=Ex ah (ts:=ts) ty h aR;exact ⟨y,w,by simp [builtin,ad],af⟩
  | []=>simp [jG] at h
  | _::_::_=>simp [jG] at h
 ·
  match us with
  | [u,x] =>
    obtain ⟨v,y,rfl,aR,bC,r2,bO⟩:=two rfl;obtain ⟨z,w',ad,af⟩:=Ez ah (ts:=ts) ty (eH _) (eI _) h aR r2 bO;exact ⟨z,w',by simp [builtin,ad],af⟩
  | []=>simp [jH] at h
  | [_]=>simp [jH] at h
  | _::_::_::_=>simp [jH] at h
 ·
  match us with
  | [u] =>
    obtain ⟨v,rfl,aR⟩:=one rfl;obtain ⟨y,w',ad,af⟩:=Ey ah (ts:=ts) ty h aR;exact ⟨y,w',by simp [builtin,ad],af⟩
  | []=>simp [kB] at h
  | _::_::_=>simp [kB] at h
 ·
  match us with
  | [u,x] =>
    obtain ⟨v,y,rfl,aR,_,r2,_⟩:=two rfl;obtain ⟨z,w',ad,af⟩:=EA ah (ts:=ts) ty h aR r2;exact ⟨z,w',by simp [builtin,ad],af⟩
  | []=>simp [hr] at h
  | [_]=>simp [hr] at h
  | _::_::_::_=>simp [hr] at h
 ·simp only [Option.map_eq_some_iff,Prod.mk.injEq] at h;obtain ⟨r',h,rfl,rfl⟩:=h;obtain ⟨y,ad,af,aH⟩:=EL (P:=P) ts ty h ae;exact ⟨y,w,by simp [builtin,ad],a0.same ah af aH⟩
 ·simp only [Option.map_eq_some_iff,Prod.mk.injEq] at h;obtain ⟨r',h,rfl,rfl⟩:=h;obtain ⟨y,ad,af,aH⟩:=EK (P:=P) ts ty h ae;exact ⟨y,w,by simp [builtin,ad],a0.same ah af aH⟩
 ·simp at h
end
end Go.Proofs.YtfakoboiahbhaaaGreat.Ab


namespace Go.Proofs.YtfakoboiahbhaaaGreat.Ab
open Go
section
variable {P:Program} {B:Nat} {J:List Nat} {w:World} {H:List au} {U:Nat→Option aG} {S:Nat→Nat→Prop}
theorem a7.tail {bB:Nat→aG} {us:List I} {vs:List Value} {u:I} {v:Value} (h:a7 bB U J S w (u::us) (v::vs)):a7 (fun i=>bB (i+1)) U J S w us vs :=
 ⟨by simpa using h.len,fun i a b cu ag=>h.rel (i+1) a b (by simpa using cu) (by simpa using ag),fun i a b cu ag=>h.own (i+1) a b (by simpa using cu) (by simpa using ag)⟩
theorem kF {bB:Nat→aG} {us:List I} {vs:List Value} (ae:a7 bB U J S w us vs) {aU:Operand→Value} (i:Nat) (l:Option Operand) (aq:∀ x,l=some x→vs[i]?=some (aU x)) :
  eB J S w (dd us i l) (l.map aU):=by
 cases l with
 | none=>trivial
 | some x =>
   have ad:=aq x rfl;(have af:i<us.length:=by rw [ae.len];exact (List.getElem?_eq_some_iff.1 ad).1);simp only [dd,List.getElem?_eq_getElem af,Option.map_some];exact ae.rel i _ _ (List.getElem?_eq_getElem af) ad
theorem eB.mono {S':Nat→Nat→Prop} (cg:∀ b o,S b o→S' b o) {a:Option I} {b:Option Value} (h:eB J S w a b):eB J S' w a b:=by
 cases a <;> cases b <;> first | exact h | exact Rel.mono (Ext.refl J) (fun b o h=>⟨cg b o h,rfl⟩) h
theorem EU (ah:aJ B U J S w H) {aU:Operand→Value} {t:TypeId} {x:Operand} {l h m:Option Operand} {u:I} {vs:List I} {r:I} {i1 i2:Nat}
  (ar:eO P t u.view (dd vs 0 l) (dd vs i1 h) (dd vs i2 m)=some r) (ad:i1=l.toList.length) (af:i2=l.toList.length+h.toList.length)
  (h5:Rel J S w u (aU x)) (h1:aV U J S w (.arg 0) u (aU x)) {bB:Nat→aG} (dV:a7 bB U J S w vs ((l.toList++h.toList++m.toList).map aU)) :
  ∃ v,(Instr.sliceAt t (aU x) (l.map aU) (h.map aU) (m.map aU)).run P w=.ok v w∧a0 B U J S w H r v w:=by
 obtain ⟨S',aL,aQ,b_,aR⟩:=l1 ah (eH _) (eI _) h5 h1;obtain ⟨v,aW,aX,cw⟩:=D8 (J:=J) (S:=S') (w:=w) ar (I.c_ u) aR
  ((kF (aU:=aU) dV 0 l (fun y aZ=>by subst aZ;simp)).mono aL)
  ((kF (aU:=aU) dV i1 h (fun y aZ=>by subst ad aZ;cases l <;> simp)).mono aL)
  ((kF (aU:=aU) dV i2 m (fun y aZ=>by subst af aZ;cases l <;> cases h <;> simp)).mono aL)
 exact ⟨v,aW,a0.after (Ext.refl J) (bj.settle aL fun b o h=>(aQ b o h).imp id fun h=>⟨_,h⟩) (a0.same b_ aX cw)⟩
theorem EP (ah:aJ B U J S w H) {aU:Operand→Value} {t:TypeId} {x:Operand} {l h m:Option Operand} {us:List I} {r:I} (ar:ec P t l h m us=some r)
  (ae:a7 (fun i=>.arg i) U J S w us ((x::(l.toList++h.toList++m.toList)).map aU)) :
  ∃ v,(Instr.sliceAt t (aU x) (l.map aU) (h.map aU) (m.map aU)).run P w=.ok v w∧a0 B U J S w H r v w:=by
 match us,ae with
 | [],ae=>exact absurd ae.len (by simp)
 | u::vs,ae =>
   have h5:=ae.rel 0 u _ rfl rfl;have h1:=ae.own 0 u _ rfl rfl;have dV:=ae.tail;unfold ec at ar;dsimp only at ar;split at ar
   ·rename_i cells len z;split at ar
    ·rename_i e a2;simp only [Option.bind_eq_some_iff,Option.map_eq_some_iff] at ar;obtain ⟨s,ai,n,aP,rfl⟩:=ar;have mg:=kF (aU:=aU) dV 0 h (fun y aZ=>by subst aZ;simp);generalize al:aU x=cy at h5 h1 ⊢;cases h5 with
     | b2 c a =>
       obtain ⟨q,aW,aX⟩:=hy (P:=P) (isS:=true) (cap:=0) (lo:=none) (lo':=none) aP rfl (by omega) trivial mg;(obtain rfl:n=0:=by omega);exact ⟨.slice a 0 0,by cases a <;> simp [Instr.sliceAt,Instr.slice,run_underlying a2,q,run_sizeOf ai,Addr.add],U,J,S,Ext.refl J,bj.refl U S w,ah,by simpa using .b2 _ _,by cases a <;> first | trivial | exact .inl ⟨rfl,rfl,by simp⟩⟩
     | ax _ _ c b o cap f ak hle hu bw b7=>exact absurd rfl (hu _)
     | cH cells len z b o cap =>
       rcases h1 with ⟨rfl,rfl,rfl⟩ | ⟨bC,bO,ky,hY,g6,gD,⟨cur,ce,jE,g7,nu⟩,l5⟩
       ·obtain ⟨q,aW,aX⟩:=hy (P:=P) (isS:=true) (cap:=0) (lo:=none) (lo':=none) aP rfl (by omega) trivial mg;(obtain rfl:n=0:=by omega);exact ⟨.slice (some ⟨b,o,none⟩) 0 0,by simp [Instr.sliceAt,Instr.slice,run_underlying a2,q,run_sizeOf ai],U,J,S,Ext.refl J,bj.refl U S w,ah,.cH _ _ _ _ _ _,.inl ⟨rfl,rfl,by simp⟩⟩
       ·obtain ⟨q,aW,aX⟩:=hy (P:=P) (isS:=true) (cap:=cap) (lo:=none) (lo':=none) aP rfl (by omega) trivial mg;simp only at bC jE l5 bO;refine ⟨.slice (some ⟨b,o,none⟩) n cap,by simp [Instr.sliceAt,Instr.slice,run_underlying a2,q,run_sizeOf ai];intro;simp [Addr.add],?_⟩;refine h2 ah (eH 0) (eI 0) (.cH _ _ _ _ _ _) (.inr ⟨bC,bO,by omega,hY,g6,?_,⟨cur,ce,jE,g7,fun j u v hu ae=>?_⟩,l5⟩)
        ·rw [List.length_take,gD];exact Nat.min_eq_left (Nat.mul_le_mul_right _ aX)
        ·rw [List.getElem?_take] at hu;split at hu
         ·exact nu j u v hu ae
         ·simp at hu
    ·simp at ar
   ·
    rename_i cells len z lo fT;split at ar
    ·rename_i e a2;simp only [Option.bind_eq_some_iff] at ar;obtain ⟨s,ai,ar⟩:=ar;split at ar
     ·rename_i bR;subst bR;simp only [Option.map_eq_some_iff] at ar;obtain ⟨n,aP,rfl⟩:=ar;have rl:=kF (aU:=aU) dV 0 (some lo) (fun y aZ=>by cases aZ;simp);generalize al:aU x=cy at h5 h1 ⊢;cases h5 with
      | b2 c a =>
        obtain ⟨q,aW,aX⟩:=hy (P:=P) (isS:=true) (cap:=0) (hi:=none) (hi':=none) (len:=0) rfl aP (by omega) rl trivial;simp only [Option.map_some,Option.map_none] at q;(obtain rfl:n=0:=by omega);exact ⟨.slice a 0 0,by cases a <;> simp [Instr.sliceAt,Instr.slice,run_underlying a2,q,run_sizeOf ai,Addr.add],U,J,S,Ext.refl J,bj.refl U S w,ah,by simpa using .b2 _ _,by cases a <;> first | trivial | exact .inl ⟨rfl,rfl,by simp⟩⟩
      | ax _ _ c b o cap f ak hle hu bw b7 =>
        obtain ⟨q,aW,aX⟩:=hy (P:=P) (isS:=true) (cap:=cap) (hi:=none) (hi':=none) (len:=len) rfl aP hle rl trivial;simp only [Option.map_some,Option.map_none] at q;have BI:∀ k,(cells.drop k).take cells.length=cells.drop k:=fun k=>List.take_of_length_le (by rw [List.length_drop];omega);by_cases ef:cap=n
        ·(obtain rfl:n=len:=by omega);rw [ef] at q;refine ⟨.slice (some ⟨b,o,none⟩) 0 0,by simp [Instr.sliceAt,Instr.slice,run_underlying a2,q,run_sizeOf ai,ef],?_⟩;rw [Nat.sub_self];rcases h1 with ⟨aT,BG,dh⟩ | ⟨bC,bO,ky,hY,g6,gD,jE,⟨cur,ce,g7,nu⟩,l5⟩
         ·rw [dh,List.drop_nil];exact ⟨U,J,S,Ext.refl J,bj.refl U S w,ah,.ax [] 0 _ b o 0 (fun _=>undef) (by simp) (Nat.le_refl _) (by simp) (by simp) (by simp),.inl ⟨rfl,rfl,rfl⟩⟩
         ·rw [List.drop_eq_nil_of_le (by omega)];exact ⟨U,J,S,Ext.refl J,bj.refl U S w,ah,.ax [] 0 _ b o 0 (fun _=>undef) (by simp) (Nat.le_refl _) (by simp) (by simp) (by simp),.inl ⟨rfl,rfl,rfl⟩⟩
        ·have yw:=Rel.sub (J:=J) (k:=cells.length) (n:=len-n) (cap':=cap-n) (n*s) (.own s) (by simp) (by omega) (by simp) bw b7;rw [BI] at yw;refine ⟨.slice (some ⟨b,o+n*s,none⟩) (len-n) (cap-n),by simp [Instr.sliceAt,Instr.slice,run_underlying a2,q,run_sizeOf ai,ef,add_lit],?_⟩;rcases h1 with ⟨aT,BG,dh⟩ | ⟨bC,bO,ky,hY,g6,gD,jE,⟨cur,ce,g7,nu⟩,l5⟩
         ·exfalso;omega
         ·refine h2 ah (eH 0) (eI 0) yw (.inr ⟨bC,trivial,rfl,by omega,by omega,gD,?_,⟨cur,ce,g7,?_⟩,fun cK Cd=>l5 cK ?_⟩)
          ·rw [List.length_drop,jE,Nat.sub_mul]
          ·have e1:n*s≤cap*s:=Nat.mul_le_mul_right _ (by omega);have cd:(cap-n)*s=cap*s-n*s:=Nat.sub_mul _ _ _;show cur.size=o+n*s+(cap-n)*s;simp only at nu;omega
          ·have e1:n*s≤len*s:=Nat.mul_le_mul_right _ aW;simp only [List.length_drop] at Cd ⊢;omega
     ·simp at ar
    ·simp at ar
   ·
    rename_i id gid len z;split at ar
    ·rename_i e a2;simp only [Option.bind_eq_some_iff,Option.map_eq_some_iff] at ar;obtain ⟨s,ai,n,aP,rfl⟩:=ar;have mg:=kF (aU:=aU) dV 0 h (fun y aZ=>by subst aZ;simp);generalize al:aU x=cy at h5 h1 ⊢;cases h5 with
     | cf _ _ _ _ b cap ag aK hle =>
       obtain ⟨q,aW,aX⟩:=hy (P:=P) (isS:=true) (cap:=cap) (lo:=none) (lo':=none) aP rfl hle trivial mg;exact ⟨.slice (some ⟨b,0,none⟩) n cap,by simp [Instr.sliceAt,Instr.slice,run_underlying a2,q,run_sizeOf ai];intro;simp [Addr.add],U,J,S,Ext.refl J,bj.refl U S w,ah,.cf _ _ _ _ b cap ag aK (by omega),trivial⟩
    ·simp at ar
   ·exact EU ah ar (by cases l <;> rfl) (by cases l <;> cases h <;> rfl) h5 h1 dV
theorem EM {aU:Operand→Value} (eF:∀ v,aU (.const v)=v) {C:cc} {lo mode:Nat} {o:Oper} {us:List I} {r:I} {H':List au} (ah:aJ B U J S w H)
  (h:a6 P C lo o mode us H=some (r,H')) (iA:∀ c f,o.op=.call c→c.callee≠.value f)
  (aD:dE o=false→∀ u∈us,u.plain=true) (ae:a7 (fun i=>.arg i) U J S w us ((opsOf o).map aU)):er P aU o w (a0 B U J S w H' r):=by
 have base:(cv P o us).map (·,H)=some (r,H')→dE o=false→er P aU o w (a0 B U J S w H' r):=fun h aq=>by
  simp only [Option.map_eq_some_iff,Prod.mk.injEq] at h;obtain ⟨r',a4,rfl,rfl⟩:=h;exact EN eF ah a4 aq (aD aq) ae
 cases aC:o.op
 case call c =>
  simp only [a6,aC] at h;cases ak:c.callee with
  | builtin b =>
    simp only [ak] at h;have he:opsOf o=c.args.toList:=by
     obtain ⟨A9,args,A4⟩:=c;simp only at ak;subst ak;simp only [opsOf,aC]
    rw [he] at ae;obtain ⟨y,w',ad,af⟩:∃ y w',(builtin b c.argTypes o.type (c.args.map fun | .const _=>true | _=>false) (c.args.toList.map aU).toArray).run P w=.ok (.value y) w'∧a0 B U J S w H' r y w':=by
     cases b
     case append =>
      simp only at h;split at h
      ·exact Al ah o.type _ h ae
      ·match us,h,ae with
       | [u,x],h,ae =>
         obtain ⟨v,bd,e1,aR,bC,ae⟩:=ae.gN;obtain ⟨y,bd,cd,r2,bO,ae⟩:=ae.gN;cases bd with
         | cons=>exact absurd ae.len (by simp)
         | nil =>
         obtain ⟨z,w',ad,af⟩:=Er ah o.type (eH _) (eI _) (eH _) (eI _) (by simp) h aR bC r2 bO;rw [e1,cd];exact ⟨z,w',by simp [builtin,ad],af⟩
     all_goals exact Al ah o.type _ h ae
    refine .inl ⟨y,w',?_,af⟩;simp only [Go.execOp,aC,resolve,ak,Sem.run_bind,Sem.run_pure,Result.andThen_ok,invoke];rw [←ad,←Array.toList_map,Array.toArray_toList];rfl
  | value f=>exact absurd ak (iA c f aC)
  | invoke x n=>simp [ak] at h
 all_goals (have bc:=ae;rw [pK (by simp [aC])] at bc;simp only [aC,Op.operands] at bc)
 case move x =>
  simp only [a6,aC] at h;exact .inl ⟨aU x,w,by simp [Go.execOp,aC],Am ah eF h bc⟩
 case assign x =>
  simp only [a6,aC] at h;exact .inl ⟨aU x,w,by simp [Go.execOp,aC],Am ah eF h bc⟩
 case load t a =>
  simp only [a6,aC] at h;obtain ⟨u,rfl,aR,_⟩:=a7.one (x:=a) (by simpa using bc);obtain ⟨x,ad,af⟩:=ED ah h aR;exact .inl ⟨x,w,by simp [Go.execOp,aC,ad],af⟩
 case store t a x =>
  simp only [a6,aC] at h;obtain ⟨u,v,rfl,aR,bC,r2,bO⟩:=a7.two (x:=a) (y:=x) (by simpa using bc);unfold hs at h;simp only at h;split at h
  ·simp only [Option.map_eq_some_iff,Prod.mk.injEq] at h;obtain ⟨H1,h,rfl,rfl⟩:=h;obtain ⟨w',ad,af⟩:=ER ah (eH _) (eI _) h aR r2 bO undef;exact .inr ⟨w',by simp [Go.execOp,aC,ad],af⟩
  ·simp only [Option.map_eq_some_iff,Prod.mk.injEq] at h;obtain ⟨H1,h,rfl,rfl⟩:=h;obtain ⟨w',ad,af⟩:=ES ah (eH _) (eI _) h aR r2 bO undef;exact .inr ⟨w',by simp [Go.execOp,aC,ad],af⟩
 case box e x =>
  simp only [a6,aC] at h;obtain ⟨u,rfl,aR,bC⟩:=a7.one (x:=x) (by simpa using bc);unfold gF at h;simp only at h;split at h
  ·simp only [Option.map_eq_some_iff,Prod.mk.injEq] at h;obtain ⟨vc,h,rfl,rfl⟩:=h;obtain ⟨y,w',ad,af⟩:=Et (P:=P) ah (eH _) (eI _) h aR bC e;exact .inl ⟨y,w',by simp [Go.execOp,aC,ad],af⟩
  ·split at h
   ·rename_i vc fE;split at h
    ·rename_i aD;cases h;obtain ⟨y,w',ad,af⟩:=Eu (P:=P) ah fE aD aR e;exact .inl ⟨y,w',by simp [Go.execOp,aC,ad],af⟩
    ·simp at h
   ·simp at h
 case alloc t =>
  simp only [a6,aC] at h;unfold kA at h;split at h
  ·simp only [Option.map_eq_some_iff,Prod.mk.injEq] at h;obtain ⟨z,h,rfl,rfl⟩:=h;obtain ⟨y,w',ad,af⟩:=Eo ah h (.tuple #[]);exact .inl ⟨y,w',by simp [Go.execOp,aC,ad],af⟩
  ·split at h
   ·rename_i e bn he;simp only [Option.map_eq_some_iff,Prod.mk.injEq] at h;obtain ⟨s,_,rfl,rfl⟩:=h;obtain ⟨y,w',ad,af⟩:=Ep (s:=s) ah bn (.tuple #[]);exact .inl ⟨y,w',by simp [Go.execOp,aC,ad],af⟩
   ·simp at h
 case buildSlice t len parts =>
  simp only [a6,aC] at h;split at h
  ·exact base h (by simp [dE,aC])
  ·simp only [Option.map_eq_some_iff,Prod.mk.injEq] at h;obtain ⟨⟨cs,s⟩,h,rfl,rfl⟩:=h;obtain ⟨v,w',aW,aX⟩:=Ew eF ah aC h (aD (by simp [dE,aC])) ae;exact .inl ⟨v,w',aW,aX⟩
 case makeSlice t a b =>
  simp only [a6,aC] at h;obtain ⟨u,v,rfl,aR,_,r2,_⟩:=a7.two (x:=a) (y:=b) (by simpa using bc);unfold jI at h;split at h
  ·rename_i k n k' c heq;simp at heq;obtain ⟨rfl,rfl⟩:=heq;split at h
   ·rename_i ak;have e1:=aR.c6;have cd:=r2.c6;split at h
    ·simp only [Option.map_eq_some_iff,Prod.mk.injEq] at h;obtain ⟨z,h,rfl,rfl⟩:=h;obtain ⟨y,w',ad,af⟩:=EH (k:=k) (k':=k') ah ak.1 ak.2 h;exact .inl ⟨y,w',by simp [Go.execOp,aC,e1,cd,ad],af⟩
    ·split at h
     ·rename_i iA;simp only [Option.map_eq_some_iff,Prod.mk.injEq] at h;obtain ⟨z,h,rfl,rfl⟩:=h;obtain ⟨rfl,aT⟩:=iA;obtain ⟨y,w',ad,af⟩:=EI (k:=k) (k':=k') ah aT h;exact .inl ⟨y,w',by simp [Go.execOp,aC,e1,cd,ad],af⟩
     ·simp at h
   ·simp at h
  ·simp at h
 case makeMap t r =>
  simp only [a6,aC] at h;obtain ⟨x,w',ad,rfl,af⟩:=EG (P:=P) ah h;exact .inl ⟨x,w',by simp [Go.execOp,aC,ad],af⟩
 case mapUpdate t m k v =>
  simp only [a6,aC] at h;have aD:=aD (by simp [dE,aC]);obtain ⟨iU,jW,kP,rfl,eV,bN,nK⟩:∃ iU jW kP,us=[iU,jW,kP]∧Rel J S w iU (aU m)∧Rel J S w jW (aU k)∧Rel J S w kP (aU v):=by
   match us,bc with
   | [iU,jW,kP],bc=>exact ⟨iU,jW,kP,rfl,bc.rel 0 _ _ rfl rfl,bc.rel 1 _ _ rfl rfl,bc.rel 2 _ _ rfl rfl⟩
   | [],bc=>exact absurd bc.len (by simp)
   | [_],bc=>exact absurd bc.len (by simp)
   | [_,_],bc=>exact absurd bc.len (by simp)
   | _::_::_::_::_,bc=>exact absurd bc.len (by simp)
  obtain ⟨w',ad,af⟩:=EJ ah h eV bN (aD jW (by simp)) nK (aD kP (by simp)) undef;exact .inr ⟨w',by simp [Go.execOp,aC,ad],af⟩
 case lookup t m k ok =>
  simp only [a6,aC] at h;obtain ⟨iU,jW,rfl,eV,_,bN,_⟩:=a7.two (x:=m) (y:=k) (by simpa using bc);obtain ⟨x,ad,af⟩:=EF ah h eV bN;exact .inl ⟨x,w,by simp [Go.execOp,aC,ad],af⟩
 case range t m =>
  simp only [a6,aC] at h;obtain ⟨iU,rfl,eV,_⟩:=a7.one (x:=m) (by simpa using bc);obtain ⟨x,w',ad,af⟩:=EO ah h eV;exact .inl ⟨x,w',by simp [Go.execOp,aC,ad],af⟩
 case entry m =>
  simp only [a6,aC] at h;obtain ⟨iU,rfl,eV,_⟩:=a7.one (x:=m) (by simpa using bc);obtain ⟨x,ad,af⟩:=EB (P:=P) ah h eV;exact .inl ⟨x,w,by simp [Go.execOp,aC,ad],af⟩
 case slice t x l bJ m =>
  simp only [a6,aC,cv,Option.map_eq_some_iff,Prod.mk.injEq] at h;obtain ⟨r',h,rfl,rfl⟩:=h;obtain ⟨v,ad,af⟩:=EP (x:=x) ah h (by simpa using bc);exact .inl ⟨v,w,by simp [Go.execOp,aC,ad],af⟩
 all_goals exact base (by simpa only [a6,aC] using h) (by simp [dE,aC])
end
end Go.Proofs.YtfakoboiahbhaaaGreat.Ab


namespace Go.Proofs.YtfakoboiahbhaaaGreat.Ab
open Go
def db (U:Nat→Option aG):Nat→Option aG:=fun b=>match U b with
 | some (.slot _)=>none
 | x=>x
def back (U bo:Nat→Option aG) (d:Option Nat):Nat→Option aG:=fun b=>match U b with
 | some (.slot i)=>if d=some i then none else some (.slot i)
 | _=>match bo b with
   | some .res=>d.map .slot
   | some (.obj id)=>some (.obj id)
   | some (.cell id j)=>some (.cell id j)
   | _=>none
def Marks (N:Nat) (U:Nat→Option aG) (w:World) (ds:List Deferred):Prop :=
 N≤w.heap.size∧(∀ d∈ds,∃ r,d.target=.collected r∧N≤r∧U r=none∧w.heap[r]?=some (.deferred (some [])))∧ds.Pairwise (fun a b=>a.target≠b.target)
structure cz (B N:Nat) (U:Nat→Option aG) (J:List Nat) (S:Nat→Nat→Prop) (w:World) (s:a8) (a:Act):Prop where
 T:a7 .slot U J S w s.T a.tmps.toList
 H:aJ B U J S w s.H
 M:Marks N U w a.defers
def Step (B N:Nat) (U:Nat→Option aG) (J:List Nat) (S:Nat→Nat→Prop) (w:World) (aI:a8) (aO:Act) (w':World):Prop :=
 ∃ ay bZ S',Ext J bZ∧bj U S w ay S' w'∧cz B N ay bZ S' w' aI aO
section
variable {P:Program} {B N:Nat} {J:List Nat} {w:World} {H:List au} {U:Nat→Option aG} {S:Nat→Nat→Prop}
theorem Marks.aA {ay:Nat→Option aG} {S':Nat→Nat→Prop} {w':World} {ds:List Deferred} (h:Marks N U w ds) (aA:bj U S w ay S' w'):Marks N ay w' ds:=⟨Nat.le_trans h.1 aA.size,fun d a2=>by
 obtain ⟨r,ad,af,aH,bh⟩:=h.2.1 d a2;have aj:r<w.heap.size:=(Array.getElem?_eq_some_iff.1 bh).1;refine ⟨r,ad,af,?_,(aA.cG r aj aH).trans bh⟩;cases bM:ay r with
 | none=>rfl
 | some l =>
   rcases aA.own r (by simp [bM]) with bU | bU
   ·exact absurd aH bU
   ·omega,h.2.2⟩
theorem mX {b:Nat} (h:U b=none):db U b=none:=by simp [db,h]
theorem oZ {b i:Nat} (h:U b=some (.slot i)):db U b=none:=by simp [db,h]
theorem yb {b:Nat} {l:aG} (h:U b=some l) (aq:∀ i,l≠.slot i):db U b=some l:=by
 cases l <;> first | (simp only [db,h];done) | exact absurd rfl (aq _)
theorem yc {b:Nat} {l:aG} (h:db U b=some l):U b=some l∧∀ i,l≠.slot i:=by
 unfold db at h;split at h
 ·simp at h
 ·rename_i aP;exact ⟨h,fun i e=>by subst e;exact aP i h⟩
theorem BX (b i:Nat):db U b≠some (.slot i):=fun h=>(yc h).2 i rfl
theorem A6 {bo:Nat→Option aG} {d:Option Nat} {b i:Nat} (h:U b=some (.slot i)) (a2:d≠some i):back U bo d b=some (.slot i):=by simp [back,h,a2]
theorem lJ (ah:aJ B U J S w H):aJ B (db U) J S w H:=by
 refine ⟨ah.cA,fun id o ar=>?_,ah.b',fun b l ag=>ah.base b l (yc ag).1,ah.cV⟩;refine (ah.obj id o ar).frame (Ext.refl J) (fun _ _ h=>⟨h,rfl⟩) fun b l ag aq=>⟨yb ag ?_,rfl,fun _ h=>h⟩;rcases aq with rfl | ⟨j,rfl⟩ <;> simp
theorem AA {us:List I} {vs:List Value} (h:a7 (fun i=>.arg i) U J S w us vs):a7 (fun i=>.arg i) (db U) J S w us vs :=
 ⟨h.len,h.rel,fun i u v hu ae=>(h.own i u v hu ae).mono (Ext.refl J) (fun _ _ h=>⟨h,rfl⟩) fun b ag=>⟨yb ag (by simp),rfl,fun _ h=>h⟩⟩
theorem zo (a:Act) (d:Option Tmp) (v:Value):(a.put d v).tmps.toList=match d with | some d=>a.tmps.toList.set d v | none=>a.tmps.toList:=by
 cases d <;> simp [Act.put]
theorem put_defers (a:Act) (d:Option Tmp) (v:Value):(a.put d v).defers=a.defers:=by
 cases d <;> rfl
theorem zd {T:List I} {a:Act} {H':List au} {r:I} {v:Value} {w':World} (dst:Option Tmp) (aM:cz B N U J S w ⟨T,H⟩ a) {bo:Nat→Option aG} {ca:List Nat} {bI:Nat→Nat→Prop}
  (bL:Ext J ca) (dR:bj (db U) S w bo bI w') (ck:aJ B bo ca bI w' H') (aj:Rel ca bI w' r v) (ar:aV bo ca bI w' .res r v) :
  bj U S w (back U bo dst) bI w'∧cz B N (back U bo dst) ca bI w' ⟨put T dst r,H'⟩ (a.put dst v):=by
 have oK:∀ b l,U b=some l→b<w.heap.size:=fun b l h=>(aM.H.base b l h).2;have m2:∀ b l,bo b=some l→∀ i,U b≠some (.slot i):=fun b l h i ai=>by
  rcases dR.own b (by simp [h]) with ad | ad
  ·exact ad (oZ ai)
  ·have:=oK b _ ai;omega
 have x7:∀ b l,bo b=some l→back U bo dst b=match l with | .res=>dst.map .slot | .obj id=>some (.obj id) | .cell id j=>some (.cell id j) | _=>none:=fun b l h=>by
  unfold back;split
  ·rename_i i ai;exact absurd ai (m2 b l h i)
  ·rw [h];cases l <;> rfl
 have aA:bj U S w (back U bo dst) bI w':=by
  refine ⟨dR.os,dR.tape,dR.output,dR.size,fun b ag aP=>dR.cG b ag (mX aP),dR.set,fun b o h=>?_,fun b h=>?_⟩
  ·rcases dR.fresh b o h with h | h | h
   ·exact .inl h
   ·exact .inr (.inl fun aP=>h (mX aP))
   ·exact .inr (.inr h)
  ·unfold back at h;split at h
   ·rename_i ai;exact .inl (by simp [ai])
   ·rcases dR.own b (fun aP=>by simp [aP] at h) with ad | ad
    ·exact .inl fun aP=>ad (mX aP)
    ·exact .inr ad
 refine ⟨aA,⟨?_,⟨ck.cA,fun id o ar=>?_,ck.b',fun b l ag=>?_,ck.cV⟩,?_⟩⟩
 ·have fH:∀ (i:Nat) (u:I) (x:Value),dst≠some i→T[i]?=some u→a.tmps.toList[i]?=some x→Rel ca bI w' u x∧aV (back U bo dst) ca bI w' (.slot i) u x:=fun i u x a2 hu al=>by
   refine ⟨(aM.T.rel i u x hu al).mono bL dR.set,(aM.T.own i u x hu al).mono bL dR.set fun b ag=>⟨A6 ag a2,dR.cG b (oK b _ ag) (oZ ag),fun o h=>?_⟩⟩;rcases dR.fresh b o h with h | h | h
   ·exact h
   ·exact absurd (oZ ag) h
   ·have:=oK b _ ag;omega
  cases dst with
  | none=>exact ⟨aM.T.len,fun i u x hu al=>(fH i u x (by simp) hu al).1,fun i u x hu al=>(fH i u x (by simp) hu al).2⟩
  | some d =>
    have hlen:=aM.T.len;have both:∀ (i:Nat) (u:I) (x:Value),(T.set d r)[i]?=some u→(a.tmps.toList.set d v)[i]?=some x→Rel ca bI w' u x∧aV (back U bo (some d)) ca bI w' (.slot i) u x:=fun i u x hu al=>by
     by_cases aE:d=i
     ·subst aE;(have aY:d<T.length:=by have:=(List.getElem?_eq_some_iff.1 hu).1;simpa using this);(have lD:d<a.tmps.toList.length:=by have:=(List.getElem?_eq_some_iff.1 al).1;simpa using this);rw [List.getElem?_set_self aY] at hu;rw [List.getElem?_set_self lD] at al;cases hu;cases al;exact ⟨aj,ar.mono (Ext.refl _) (fun _ _ h=>⟨h,rfl⟩) fun b ag=>⟨by rw [x7 b _ ag];rfl,rfl,fun _ h=>h⟩⟩
     ·rw [List.getElem?_set_ne aE] at hu al;exact fH i u x (by simpa using aE) hu al
    refine ⟨by simp [put,gL,Act.put,hlen],?_,?_⟩
    ·intro i u x hu al;simp only [put,gL] at hu;rw [zo] at al;exact (both i u x hu al).1
    ·intro i u x hu al;simp only [put,gL] at hu;rw [zo] at al;exact (both i u x hu al).2
 ·refine (ck.obj id o ar).frame (Ext.refl ca) (fun _ _ h=>⟨h,rfl⟩) fun b l ag aq=>⟨?_,rfl,fun _ h=>h⟩;rw [x7 b l ag];rcases aq with rfl | ⟨j,rfl⟩ <;> rfl
 ·unfold back at ag;split at ag
  ·rename_i i ai;have:=aM.H.base b _ ai;exact ⟨this.1,Nat.lt_of_lt_of_le this.2 dR.size⟩
  ·cases af:bo b with
   | none=>simp [af] at ag
   | some l'=>exact ck.base b l' af
 ·rw [put_defers];exact aM.M.aA aA
theorem nw {T:List I} {a:Act} {H':List au} {r:I} {v:Value} {w':World} (dst:Option Tmp) (aM:cz B N U J S w ⟨T,H⟩ a) (aD:a0 B (db U) J S w H' r v w')
  (u:I) (hu:∀ bo ca bI,Rel ca bI w' r v→aV bo ca bI w' .res r v→Rel ca bI w' u v) :
  ∃ ay bZ S',Ext J bZ∧bj U S w ay S' w'∧cz B N ay bZ S' w' ⟨put T dst r,H'⟩ (a.put dst v)∧Rel bZ S' w' u v:=by
 obtain ⟨bo,ca,bI,bL,dR,ck,aj,ar⟩:=aD;obtain ⟨ad,af⟩:=zd dst aM bL dR ck aj ar;exact ⟨_,ca,bI,bL,ad,af,hu bo ca bI aj ar⟩
theorem Step.trans {b5:Nat→Option aG} {cT:List Nat} {a5:Nat→Nat→Prop} {bE:World} (bL:Ext J cT) (aA:bj U S w b5 a5 bE) {aI:a8} {aO:Act} {w':World} (h:Step B N b5 cT a5 bE aI aO w') :
  Step B N U J S w aI aO w' :=
 let ⟨ay,bZ,S',aL,aQ,ch⟩:=h
 ⟨ay,bZ,S',bL.trans aL,aA.trans aQ,ch⟩
theorem a7.swap {bB:Nat→aG} {T:List I} {bd:List Value} (h:a7 bB U J S w T bd) (t:Nat) {u:I} (hu:u.plain=true) (aj:∀ v,bd[t]?=some v→Rel J S w u v):a7 bB U J S w (T.set t u) bd:=by
 refine ⟨by simpa using h.len,fun i x v al ae=>?_,fun i x v al ae=>?_⟩
 ·by_cases hi:t=i
  ·subst hi;(have aY:t<T.length:=by have:=(List.getElem?_eq_some_iff.1 al).1;simpa using this);rw [List.getElem?_set_self aY] at al;cases al;exact aj v ae
  ·rw [List.getElem?_set_ne hi] at al;exact h.rel i x v al ae
 ·by_cases hi:t=i
  ·subst hi;(have aY:t<T.length:=by have:=(List.getElem?_eq_some_iff.1 al).1;simpa using this);rw [List.getElem?_set_self aY] at al;cases al;exact aV.b3 hu
  ·rw [List.getElem?_set_ne hi] at al;exact h.own i x v al ae
end
end Go.Proofs.YtfakoboiahbhaaaGreat.Ab


namespace Go.Proofs.YtfakoboiahbhaaaGreat.Ab
open Go
section
variable {P:Program} {B N:Nat} {J:List Nat} {w:World} {H:List au} {U:Nat→Option aG} {S:Nat→Nat→Prop}
theorem Rel.narrow {ca:List Nat} {bI:Nat→Nat→Prop} {bS:World} (bL:Ext J ca) {u:I} {v v2:Value} (h:Rel J S w u v) (af:Rel ca bI bS u v2):Rel J bI bS u v2:=by
 induction h generalizing v2 with
 | junk v=>exact .junk v2
 | bool b=>cases af;exact .bool b
 | dg b=>cases af;exact .dg _
 | int k n=>cases af;exact .int k n
 | str s=>cases af;exact .str s
 | eu=>cases af;exact .eu
 | ptr id off b h =>
   cases af with
   | ptr _ _ cU k=>rw [bL _ _ h] at k;cases k;exact .ptr id off b h
 | cf id gid len z b cap h aK hle =>
   cases af with
   | cf _ _ _ _ cU ob k yL _ =>
     rw [bL _ _ h] at k;cases k;rw [bL _ _ aK] at yL;cases yL;exact .cf id gid len z b cap h aK hle
 | bT cells b o f h aj a9 =>
   cases af with
   | bT _ b o f k eG=>exact .bT cells b o f k fun j u az=>a9 j u az (eG j u az)
 | b2 c a =>
   cases af with
   | b2 c a=>exact .b2 c a
   | ax _ _ _ b o cap f ak hle hu k eG=>exact .ax [] 0 c b o cap f ak hle hu k fun j u az=>by simp at az
   | cH _ _ z b o cap=>exact .cH _ _ z b o cap
 | ax cells len c b o cap f ak hle hu h aj a9 =>
   cases af with
   | b2 c a=>exact .b2 c a
   | ax _ _ _ b o cap f ak hle hu k eG=>exact .ax cells len c b o cap f ak hle hu k fun j u az=>a9 j u az (eG j u az)
   | cH _ _ z b o cap=>exact .cH _ _ z b o cap
 | raw cells len z b o cap =>
   cases af with
   | raw _ _ _ b o cap=>exact .raw _ _ z b o cap
 | cH cells len z b o cap =>
   cases af with
   | b2 c a=>exact .b2 _ _
   | ax _ _ _ b o cap f ak hle hu k eG=>exact absurd rfl (hu z)
   | cH _ _ z b o cap=>exact .cH _ _ z b o cap
 | ref id off len c sz b cap h ak hle =>
   cases af with
   | ref _ _ _ _ _ cU ob k CI CL=>rw [bL _ _ h] at k;cases k;exact .ref id off len c sz b ob h CI CL
 | func f as bs vs ws ad Fy bP b4 aR r2 i1 i2 =>
   cases af with
   | func _ _ _ mq Ff aL aQ _ _ aW aX =>
     refine .func f as bs mq Ff aL aQ bP b4 (fun j u v hu ae=>?_) (fun j u v hu ae=>?_)
     ·(have az:j<vs.size:=by have:=(List.getElem?_eq_some_iff.1 hu).1;omega);exact i1 j u vs[j] hu (Array.getElem?_eq_getElem az) (aW j u v hu ae)
     ·(have az:j<ws.size:=by have:=(List.getElem?_eq_some_iff.1 hu).1;omega);exact i2 j u ws[j] hu (Array.getElem?_eq_getElem az) (aX j u v hu ae)
 | yield id b h =>
   cases af with
   | yield _ cU k=>rw [bL _ _ h] at k;cases k;exact .yield id b h
 | map id b h =>
   cases af with
   | map _ cU k=>rw [bL _ _ h] at k;cases k;exact .map id b h
 | agg as vs h p one r a9 =>
   cases af with
   | agg _ mq k _ Dm q =>
     refine .agg as mq k p Dm fun j u v hu ae=>?_;(have az:j<vs.size:=by have:=(List.getElem?_eq_some_iff.1 hu).1;omega);exact a9 j u vs[j] hu (Array.getElem?_eq_getElem az) (q j u v hu ae)
 | tuple as vs h p r a9 =>
   cases af with
   | tuple _ mq k _ q =>
     refine .tuple as mq k p fun j u v hu ae=>?_;(have az:j<vs.size:=by have:=(List.getElem?_eq_some_iff.1 hu).1;omega);exact a9 j u vs[j] hu (Array.getElem?_eq_getElem az) (q j u v hu ae)
theorem jC {f:I→Option I}:∀ {xs ys:List I},dY f xs=some ys→ys.length=xs.length∧∀ (j:Nat) (y:I),ys[j]?=some y→∃ x,xs[j]?=some x∧f x=some y
 | [],ys,h=>by simp [dY] at h;subst h;simp
 | x::xs,ys,h=>by
   simp only [dY] at h;split at h
   ·rename_i y aZ;simp only [Option.map_eq_some_iff] at h;obtain ⟨ys,h,rfl⟩:=h;obtain ⟨ad,af⟩:=jC h;refine ⟨by simp [ad],fun j z bn=>?_⟩;cases j with
    | zero=>simp at bn;subst bn;exact ⟨x,rfl,aZ⟩
    | succ j=>simpa using af j z (by simpa using bn)
   ·simp at h
theorem hN {lo id0 n d:Nat} {u r:I} (h:bK H lo id0 n d u=some r):(u.plain=true→r.plain=true)∧(u.cP=true→r.cP=true):=by
 cases d with
 | zero=>simp [bK] at h
 | succ d =>
   unfold bK at h;split at h
   ·simp only [Option.map_eq_some_iff] at h;rename_i c;obtain ⟨cs,_,rfl⟩:=h;cases c <;> exact ⟨fun h=>h,fun h=>h⟩
   ·simp only [Option.map_eq_some_iff] at h;obtain ⟨cs,_,rfl⟩:=h;exact ⟨fun h=>rfl,fun h=>rfl⟩
   ·simp only [Option.map_eq_some_iff] at h;obtain ⟨cs,_,rfl⟩:=h;exact ⟨fun h=>rfl,fun h=>rfl⟩
   ·simp only [Option.map_eq_some_iff] at h;obtain ⟨cs,_,rfl⟩:=h;exact ⟨fun h=>rfl,fun h=>rfl⟩
   ·split at h <;> simp at h;subst h;exact ⟨fun h=>rfl,fun h=>rfl⟩
   ·split at h
    ·simp at h;subst h;exact ⟨fun h=>rfl,fun h=>rfl⟩
    ·split at h
     ·simp at h;subst h;exact ⟨fun h=>rfl,fun h=>rfl⟩
     ·split at h
      ·simp only [Option.map_eq_some_iff] at h;obtain ⟨cs,_,rfl⟩:=h;exact ⟨fun h=>rfl,fun h=>rfl⟩
      ·simp at h
   ·split at h
    ·simp at h;subst h;exact ⟨fun h=>rfl,fun h=>rfl⟩
    ·split at h
     ·simp at h;subst h;exact ⟨fun h=>rfl,fun h=>rfl⟩
     ·split at h
      ·simp only [Option.map_eq_some_iff] at h;obtain ⟨cs,_,rfl⟩:=h;rename_i cap _ _ _ _ _ _;constructor <;> intro _ <;> (unfold gU;split <;> (try split) <;> rfl)
      ·simp at h
   ·split at h <;> simp at h;subst h;exact ⟨fun h=>rfl,fun h=>rfl⟩
   ·split at h
    ·simp at h;subst h;exact ⟨fun h=>rfl,fun h=>rfl⟩
    ·split at h <;> simp at h;subst h;exact ⟨fun h=>rfl,fun h=>rfl⟩
   ·simp at h
   ·simp at h
   ·simp at h;subst h;exact ⟨fun h=>h,fun h=>h⟩
theorem Bm {cap:Option Nat} {n m:Nat} (ak:∀ k,cap=some k→m=k) (h:gU cap n=.full):m=n:=by
 unfold gU at h;cases cap with
 | none=>simp at h
 | some c =>
   simp only at h;split at h
   ·rename_i BF;rw [ak c rfl,BF]
   ·cases h
theorem x1 {cap:Option Nat} {n:Nat} (z:Nat):gU cap n≠.uniq z:=by
 unfold gU;cases cap with
 | none=>simp
 | some c=>simp only;split <;> simp
def gi (U:Nat→Option aG) (S:Nat→Nat→Prop) (w:World) (lo id0:Nat) (b o:Nat):Prop :=
 S b o∨((∃ id,lo≤id∧id≠id0∧U b=some (.obj id))∧∃ v,w.cell? ⟨b,o,none⟩=some v)
theorem lf (ah:aJ B U J S w H) {lo id0 n:Nat} {gf:List Nat} (bF:∀ (id b:Nat),id<lo→J[id]?=some b→gf[id]?=some b) (aP:∀ b,J[id0]?=some b→gf[n]?=some b) :
  ∀ (d:Nat) (u r:I) (v:Value),bK H lo id0 n d u=some r→Rel J S w u v→Rel gf (gi U S w lo id0) w r v:=by
 intro d
 induction d with
 | zero=>intro u r v h;simp [bK] at h
 | succ d a9 =>
   intro u r v h aj;have list:∀ {cells cs:List I} {b o:Nat} {f:Nat→Value},dY (bK H lo id0 n d) cells=some cs →
     (∀ (j:Nat) (u:I),cells[j]?=some u→S b (o+j)∧w.cell? ⟨b,o+j,none⟩=some (f j)∧u.plain=true∧(f j).oneCell'=true) →
     (∀ (j:Nat) (u:I),cells[j]?=some u→Rel J S w u (f j)) →
     (∀ (j:Nat) (u:I),cs[j]?=some u→gi U S w lo id0 b (o+j)∧w.cell? ⟨b,o+j,none⟩=some (f j)∧u.plain=true∧(f j).oneCell'=true) ∧
     (∀ (j:Nat) (u:I),cs[j]?=some u→Rel gf (gi U S w lo id0) w u (f j)):=fun hm ak fk=>by
    obtain ⟨ad,af⟩:=jC hm;refine ⟨fun j y aZ=>?_,fun j y aZ=>?_⟩
    ·obtain ⟨x,al,aN⟩:=af j y aZ;obtain ⟨a',bm,bt,b6⟩:=ak j x al;exact ⟨.inl a',bm,(hN aN).1 bt,b6⟩
    ·obtain ⟨x,al,aN⟩:=af j y aZ;exact a9 x y _ aN (fk j x al)
   have arr:∀ {as bs:List I} {vs:Array Value},dY (bK H lo id0 n d) as=some bs→vs.size=as.length→(∀ u∈as,u.plain=true) →
     (∀ (j:Nat) (u:I) (v:Value),as[j]?=some u→vs[j]?=some v→Rel J S w u v) →
     vs.size=bs.length∧(∀ u∈bs,u.plain=true)∧∀ (j:Nat) (u:I) (v:Value),bs[j]?=some u→vs[j]?=some v→Rel gf (gi U S w lo id0) w u v:=fun hm aq aD fk=>by
    obtain ⟨ad,af⟩:=jC hm;refine ⟨by omega,fun y aZ=>?_,fun j y v aZ ae=>?_⟩
    ·obtain ⟨j,az⟩:=List.mem_iff_getElem?.1 aZ;obtain ⟨x,al,aN⟩:=af j y az;exact (hN aN).1 (aD x (List.mem_of_getElem? al))
    ·obtain ⟨x,al,aN⟩:=af j y aZ;exact a9 x y v aN (fk j x v al ae)
   cases aj with
   | junk v=>simp only [bK,Option.some.injEq] at h;subst h;exact .junk v
   | bool b=>simp only [bK,Option.some.injEq] at h;subst h;exact .bool b
   | dg b=>simp only [bK,Option.some.injEq] at h;subst h;exact .dg b
   | int k n=>simp only [bK,Option.some.injEq] at h;subst h;exact .int k n
   | str s=>simp only [bK,Option.some.injEq] at h;subst h;exact .str s
   | eu=>simp only [bK,Option.some.injEq] at h;subst h;exact .eu
   | raw=>simp [bK] at h
   | cf=>simp [bK] at h
   | map id b k =>
     simp only [bK] at h;split at h
     ·rename_i aY;simp only [Option.some.injEq] at h;subst h;exact .map _ b (bF id b aY k)
     ·split at h
      ·rename_i heq;subst heq;simp only [Option.some.injEq] at h;subst h;exact .map _ b (aP b k)
      ·simp at h
   | yield id b k =>
     simp only [bK] at h;split at h
     ·rename_i aY;simp only [Option.some.injEq] at h;subst h;exact .yield _ b (bF id b aY k)
     ·simp at h
   | b2 c a =>
     simp only [bK,Option.map_eq_some_iff] at h;obtain ⟨cs,hm,rfl⟩:=h;simp [dY] at hm;subst hm;exact .b2 _ _
   | ax cells len c b o cap f ak hle hu k eG =>
     simp only [bK,Option.map_eq_some_iff] at h;obtain ⟨cs,hm,rfl⟩:=h;obtain ⟨dA,kq⟩:=list hm k eG;exact .ax _ _ _ b o cap f ak hle hu dA kq
   | cH cells len z b o cap =>
     simp only [bK,Option.map_eq_some_iff] at h;obtain ⟨cs,hm,rfl⟩:=h;exact .cH _ _ z b o cap
   | bT cells b o f k eG =>
     simp only [bK,Option.map_eq_some_iff] at h;obtain ⟨cs,hm,rfl⟩:=h;obtain ⟨dA,kq⟩:=list hm k eG;exact .bT _ b o f dA kq
   | agg as vs k p one q =>
     simp only [bK,Option.map_eq_some_iff] at h;obtain ⟨cs,hm,rfl⟩:=h;obtain ⟨aB,aF,aS⟩:=arr hm k p q;exact .agg _ vs aB aF one aS
   | tuple as vs k p q =>
     simp only [bK,Option.map_eq_some_iff] at h;obtain ⟨cs,hm,rfl⟩:=h;obtain ⟨aB,aF,aS⟩:=arr hm k p q;exact .tuple _ vs aB aF aS
   | func f as bs vs ws aL aQ bP b4 aW aX =>
     simp only [bK] at h;split at h
     ·rename_i cu ag;simp only [Option.some.injEq] at h;subst h;obtain ⟨aB,aF,aS⟩:=arr cu aL bP aW;obtain ⟨br,cU,ff⟩:=arr ag aQ b4 aX;exact .func f _ _ vs ws aB br aF cU aS ff
     ·simp at h
   | ptr id off b k =>
     simp only [bK] at h;split at h
     ·rename_i aY;simp only [Option.some.injEq] at h;subst h;exact .ptr _ _ b (bF id b aY k)
     ·rename_i e5;split at h
      ·rename_i heq;subst heq;simp only [Option.some.injEq] at h;subst h;exact .ptr _ _ b (aP b k)
      ·rename_i bY;split at h
       ·rename_i l aE;simp only [Option.map_eq_some_iff] at h;obtain ⟨cs,hm,rfl⟩:=h;obtain ⟨ao,cur,e,aB,aF,aS,bp,bf,bg⟩:=ah.obj id _ aE;rw [k] at aB;cases aB;obtain ⟨c8,c9⟩:=jC hm;(have bw:∀ o,o<cur.size→w.cell? ⟨b,o,none⟩=cur[o]?:=fun o ar=>by simp [World.cell?,aS,ar]);have facts:∀ (j:Nat) (y:I),cs[j]?=some y→∃ x c,off+j<cur.size∧cur[off+j]?=some c∧c.oneCell'=true∧x.plain=true∧bK H lo id0 n d x=some y∧Rel J S w x c:=fun j y aZ=>by
         obtain ⟨x,al,aN⟩:=c9 j y aZ;have hQ:=(List.getElem?_eq_some_iff.1 al).1;simp at hQ;(have fj:off+j<l.length:=by omega);(have e6:off+j<cur.size:=by omega);have aq:l[off+j]?=some l[off+j]:=List.getElem?_eq_getElem fj;have ae:cur[off+j]?=some cur[off+j]:=Array.getElem?_eq_getElem e6;obtain ⟨a',bm,bt,b6⟩:=bg (off+j) _ _ aq ae;rw [List.getElem?_map,List.getElem?_drop,aq] at al;simp at al;subst al;exact ⟨_,_,e6,ae,bm,I.c_ _,aN,bt.view a'⟩
        refine .bT cs b off (fun j=>cur.getD (off+j) undef) (fun j y aZ=>?_) (fun j y aZ=>?_)
        ·obtain ⟨x,c,az,c2,ad,aD,aN,ea⟩:=facts j y aZ;(have aK:cur.getD (off+j) undef=c:=by rw [Array.getD_eq_getD_getElem?,c2];rfl);rw [aK];exact ⟨.inr ⟨⟨id,by omega,bY,aF⟩,c,by rw [bw _ az,c2]⟩,by rw [bw _ az,c2],(hN aN).1 aD,ad⟩
        ·obtain ⟨x,c,az,c2,ad,aD,aN,ea⟩:=facts j y aZ;(have aK:cur.getD (off+j) undef=c:=by rw [Array.getD_eq_getD_getElem?,c2];rfl);simp only [aK];exact a9 x y c aN ea
       ·simp at h
   | ref id off len cap sz b gu k ak hle =>
     simp only [bK] at h;split at h
     ·rename_i aY;simp only [Option.some.injEq] at h;subst h;exact .ref _ _ _ _ _ b gu (bF id b aY k) ak hle
     ·rename_i e5;split at h
      ·rename_i heq;subst heq;simp only [Option.some.injEq] at h;subst h;exact .ref _ _ _ _ _ b gu (aP b k) ak hle
      ·rename_i bY;split at h
       ·rename_i row cO;simp only [Option.map_eq_some_iff] at h;obtain ⟨cs,hm,rfl⟩:=h;unfold rowOf at cO;simp only at cO;split at cO
        ·rename_i l aE;split at cO
         ·rename_i dy;simp only [Option.some.injEq] at cO;obtain ⟨ao,cur,e,aB,aF,aS,bp,bf,bg⟩:=ah.obj id _ aE;rw [k] at aB;cases aB;obtain ⟨c8,c9⟩:=jC hm;(have bw:∀ o,o<cur.size→w.cell? ⟨b,o,none⟩=cur[o]?:=fun o ar=>by simp [World.cell?,aS,ar]);have facts:∀ (j:Nat) (y:I),cs[j]?=some y→∃ x c,off+j<cur.size∧cur[off+j]?=some c∧c.oneCell'=true∧x.plain=true∧bK H lo id0 n d x=some y∧Rel J S w x c:=fun j y aZ=>by
           obtain ⟨x,al,aN⟩:=c9 j y aZ;subst cO;have hQ:=(List.getElem?_eq_some_iff.1 al).1;simp at hQ;(have fj:off+j<l.length:=by omega);(have e6:off+j<cur.size:=by omega);have aq:l[off+j]?=some l[off+j]:=List.getElem?_eq_getElem fj;have ae:cur[off+j]?=some cur[off+j]:=Array.getElem?_eq_getElem e6;obtain ⟨a',bm,bt,b6⟩:=bg (off+j) _ _ aq ae;rw [List.getElem?_map,List.getElem?_take,if_pos (by omega),List.getElem?_drop,aq] at al;simp at al;subst al;exact ⟨_,_,e6,ae,bm,I.c_ _,aN,bt.view a'⟩
          refine .ax cs len _ b off gu (fun j=>cur.getD (off+j) undef) (fun BR=>Bm ak BR) hle (fun z=>x1 z) (fun j y aZ=>?_) (fun j y aZ=>?_)
          ·obtain ⟨x,c,az,c2,ad,aD,aN,ea⟩:=facts j y aZ;(have aK:cur.getD (off+j) undef=c:=by rw [Array.getD_eq_getD_getElem?,c2];rfl);rw [aK];exact ⟨.inr ⟨⟨id,by omega,bY,aF⟩,c,by rw [bw _ az,c2]⟩,by rw [bw _ az,c2],(hN aN).1 aD,ad⟩
          ·obtain ⟨x,c,az,c2,ad,aD,aN,ea⟩:=facts j y aZ;(have aK:cur.getD (off+j) undef=c:=by rw [Array.getD_eq_getD_getElem?,c2];rfl);simp only [aK];exact a9 x y c aN ea
         ·simp at cO
        ·simp at cO
       ·simp at h
end
end Go.Proofs.YtfakoboiahbhaaaGreat.Ab


namespace Go.Proofs.YtfakoboiahbhaaaGreat.Ab
open Go
def fG (U:Nat→Option aG) (lo id0 n:Nat):Nat→Option aG:=fun b=>match U b with
 | some (.obj id)=>if id<lo then some (.obj id) else if id=id0 then some (.obj n) else none
 | some (.cell id j)=>if id<lo then some (.cell id j) else if id=id0 then some (.cell n j) else none
 | x=>x
section
variable {P:Program} {B N:Nat} {J:List Nat} {w:World} {H:List au} {U:Nat→Option aG} {S:Nat→Nat→Prop}
theorem gj.narrow {bo mu:Nat→Option aG} {ca:List Nat} {bI jb:Nat→Nat→Prop} {bS:World} (bL:Ext J ca) {id:Nat} {o:au} (h:gj U J S w id o) (af:gj bo ca bI bS id o)
  (cg:∀ b o,bI b o→jb b o) (av:∀ b l,bo b=some l→(l=.obj id∨∃ j,l=.cell id j)→mu b=some l∧∀ o,jb b o→bI b o):gj mu J jb bS id o:=by
 cases o with
 | dead=>trivial
 | map es clock =>
   obtain ⟨b,bx,aB,aF,aS,bp,bf,bg⟩:=h;obtain ⟨cU,Bh,a',bm,bt,b6,dQ,fN⟩:=af;rw [bL _ _ aB] at a';cases a';obtain ⟨aL,aQ⟩:=av b _ bm (.inl rfl);refine ⟨b,Bh,aB,aL,bt,b6,fun o ar=>dQ o (aQ o ar),fun j i k v x hu ae=>?_⟩;(have az:j<bx.size:=by have:=(List.getElem?_eq_some_iff.1 hu).1;omega);obtain ⟨bP,b4,ev,fI,l9⟩:=bg j i k v bx[j] hu (Array.getElem?_eq_getElem az);obtain ⟨aW,aX,cw,dG,mc⟩:=fN j i k v x hu ae;exact ⟨aW,aX,(ev.narrow bL cw).mono (Ext.refl J) (fun b o h=>⟨cg b o h,rfl⟩),dG,(l9.narrow bL mc).mono (Ext.refl J) (fun b o h=>⟨cg b o h,rfl⟩)⟩
 | iter m s e t =>
   obtain ⟨b,d_,aB,aF,aS,bp,bf⟩:=h;obtain ⟨cU,Fq,a',bm,bt,b6,dQ⟩:=af;rw [bL _ _ aB] at a';cases a';rw [bL _ _ aS] at bt;cases bt;obtain ⟨aL,aQ⟩:=av b _ bm (.inl rfl);exact ⟨b,d_,aB,aL,aS,b6,fun o ar=>dQ o (aQ o ar)⟩
 | cells l =>
   obtain ⟨b,cur,e,aB,aF,aS,bp,bf,bg⟩:=h;obtain ⟨cU,oe,cd,a',bm,bt,b6,dQ,fN⟩:=af;rw [bL _ _ aB] at a';cases a';obtain ⟨aL,aQ⟩:=av b _ bm (.inl rfl);refine ⟨b,oe,cd,aB,aL,bt,b6,fun o ar=>dQ o (aQ o ar),fun j u v hu ae=>?_⟩;(have az:j<cur.size:=by have:=(List.getElem?_eq_some_iff.1 hu).1;omega);obtain ⟨bP,b4,ev,fI⟩:=bg j u cur[j] hu (Array.getElem?_eq_getElem az);obtain ⟨aW,aX,cw,dG⟩:=fN j u v hu ae;refine ⟨aW,aX,(ev.narrow bL cw).mono (Ext.refl J) (fun b o h=>⟨cg b o h,rfl⟩),?_⟩;have hm:=fun b ag=>av b (.cell id j) ag (.inr ⟨j,rfl⟩);unfold aV at dG ⊢;split at dG
   ·rcases dG with dG | ⟨ad,af,aH,bh,bM,bU,cM,cN,cR⟩
    ·exact .inl dG
    ·exact .inr ⟨(hm _ ad).1,af,aH,bh,bM,bU,cM,cN,fun o ar ai=>cR o ar ((hm _ ad).2 o ai)⟩
   ·simp [I.cP] at aW
   ·obtain ⟨ad,aT,bh,bM,bU,cM,ai,⟨cur,e,cN,cR,dq⟩,fg⟩:=dG;have lK:=ai;rw [List.all_eq_true] at lK;exact ⟨(hm _ ad).1,aT,bh,bM,bU,cM,ai,⟨cur,e,cN,cR,fun j u v hu ae=>⟨(dq j u v hu ae).1,Ac (lK u (List.mem_of_getElem? hu)) (dq j u v hu ae).2⟩⟩,fun o ai=>fg o ((hm _ ad).2 o ai)⟩
   ·trivial
 | grow l gid z =>
   obtain ⟨b,cur,e,aB,aF,aS,bp,bf,bg,cap,cY,c4⟩:=h;obtain ⟨cU,oe,cd,a',bm,bt,b6,dQ,fN,ob,mC,mD⟩:=af;rw [bL _ _ aB] at a';cases a';rw [bL _ _ cY] at mC;cases mC;obtain ⟨aL,aQ⟩:=av b _ bm (.inl rfl);refine ⟨b,oe,cd,aB,aL,bt,b6,fun o ar=>dQ o (aQ o ar),fun j u v hu ae=>?_,cap,cY,mD⟩;(have az:j<cur.size:=by have:=(List.getElem?_eq_some_iff.1 hu).1;omega);obtain ⟨bP,b4,ev,fI⟩:=bg j u cur[j] hu (Array.getElem?_eq_getElem az);obtain ⟨aW,aX,cw,dG⟩:=fN j u v hu ae;refine ⟨aW,aX,(ev.narrow bL cw).mono (Ext.refl J) (fun b o h=>⟨cg b o h,rfl⟩),?_⟩;have hm:=fun b ag=>av b (.cell id j) ag (.inr ⟨j,rfl⟩);unfold aV at dG ⊢;split at dG
   ·rcases dG with dG | ⟨ad,af,aH,bh,bM,bU,cM,cN,cR⟩
    ·exact .inl dG
    ·exact .inr ⟨(hm _ ad).1,af,aH,bh,bM,bU,cM,cN,fun o ar ai=>cR o ar ((hm _ ad).2 o ai)⟩
   ·simp [I.cP] at aW
   ·obtain ⟨ad,aT,bh,bM,bU,cM,ai,⟨cur,e,cN,cR,dq⟩,fg⟩:=dG;have lK:=ai;rw [List.all_eq_true] at lK;exact ⟨(hm _ ad).1,aT,bh,bM,bU,cM,ai,⟨cur,e,cN,cR,fun j u v hu ae=>⟨(dq j u v hu ae).1,Ac (lK u (List.mem_of_getElem? hu)) (dq j u v hu ae).2⟩⟩,fun o ai=>fg o ((hm _ ad).2 o ai)⟩
   ·trivial
 | loop st cB fn T params assign body jg =>
   obtain ⟨al,aZ,b,L,aB,aF,aS,bp,bf,bg,cY,c4,dv⟩:=h;obtain ⟨_,_,cU,h',a',bm,bt,b6,dQ,fN,mC,mD,A8⟩:=af;rw [bL _ _ aB] at a';cases a';refine ⟨al,aZ,b,h',aB,(av b _ bm (.inl rfl)).1,bt,b6,dQ,fN,mC,fun i u v hu ae=>?_,A8⟩;(have az:i<L.tmps.size:=by have:=(List.getElem?_eq_some_iff.1 hu).1;omega);exact ⟨(mD i u v hu ae).1,(((c4 i u L.tmps[i] hu (Array.getElem?_eq_getElem az)).2).narrow bL (mD i u v hu ae).2).mono (Ext.refl J) (fun b o h=>⟨cg b o h,rfl⟩)⟩
theorem nk {lo id0 n b:Nat} {l:aG} (h:U b=some l) (aq:∀ id,(l=.obj id∨∃ j,l=.cell id j)→id<lo):fG U lo id0 n b=some l:=by
 unfold fG;rw [h];cases l with
 | obj id=>simp [aq id (.inl rfl)]
 | cell id j=>simp [aq id (.inr ⟨j,rfl⟩)]
 | _=>rfl
theorem C0 {lo id0 n b:Nat} (h:U b=none):fG U lo id0 n b=none:=by simp [fG,h]
theorem ow {bo:Nat→Option aG} {ca:List Nat} {bI:Nat→Nat→Prop} {bS:World} {a3:List au} (ah:aJ B U J S w H) (bL:Ext J ca) (aA:bj U S w bo bI bS) (ck:aJ B bo ca bI bS a3)
  (jy:∀ id,id<H.length→a3[id]?=H[id]?) (id0 n:Nat) :
  bj U S w (fG bo H.length id0 n) (gi bo bI bS H.length id0) bS∧aJ B (fG bo H.length id0 n) J (gi bo bI bS H.length id0) bS H:=by
 have aP:∀ b,fG bo H.length id0 n b≠none→bo b≠none:=fun b h aT=>h (C0 aT);refine ⟨⟨aA.os,aA.tape,aA.output,aA.size,aA.cG,fun b o h=>⟨.inl (aA.set b o h).1,(aA.set b o h).2⟩,fun b o h=>?_,fun b h=>aA.own b (aP b h)⟩,⟨ah.cA,fun id o ar=>?_,fun b o h=>?_,fun b l ag=>?_,ck.cV⟩⟩
 ·rcases h with h | ⟨⟨id,_,_,h⟩,_⟩
  ·exact aA.fresh b o h
  ·rcases aA.own b (by simp [h]) with ad | ad
   ·exact .inr (.inl ad)
   ·exact .inr (.inr ad)
 ·have aY:=(List.getElem?_eq_some_iff.1 ar).1;have pb:a3[id]?=some o:=by rw [jy id aY];exact ar
  refine (ah.obj id o ar).narrow bL (ck.obj id o pb) (fun b o h=>.inl h) fun b l ag aq=>⟨nk ag fun bA dr=>?_,fun o h=>?_⟩
  ·have:bA=id:=by
    rcases aq with rfl | ⟨j,rfl⟩ <;> rcases dr with h | ⟨yG,h⟩ <;> cases h <;> rfl
   omega
  ·rcases h with h | ⟨⟨bA,ad,_,h⟩,_⟩
   ·exact h
   ·rw [ag] at h;rcases aq with rfl | ⟨j,rfl⟩
    ·cases h;omega
    ·cases h
 ·rcases h with h | ⟨_,h⟩
  ·exact ck.b' b o h
  ·exact h
 ·cases h:bo b with
  | none=>simp [fG,h] at ag
  | some l'=>exact ck.base b l' h
theorem j9 {ca gf:List Nat} {bS:World} {bo mu:Nat→Option aG} {bI jb:Nat→Nat→Prop} {l l':aG} (fV:∀ b,bo b=some l→mu b=some l'∧∀ o,jb b o→bI b o) {a3:List au} {lo id0 n d:Nat} {u r:I} {v:Value}
  (b7:∀ (d:Nat) (u r:I) (v:Value),bK a3 lo id0 n d u=some r→Rel ca bI bS u v→Rel gf jb bS r v)
  (h:bK a3 lo id0 n d u=some r) (ar:aV bo ca bI bS l u v):aV mu gf jb bS l' r v:=by
 by_cases aD:u.plain=true
 ·exact aV.b3 ((hN h).1 aD)
 ·cases d with
  | zero=>simp [bK] at h
  | succ d =>
    obtain ⟨cells,len,c,rfl⟩:∃ cells len c,u=.ax cells len c:=by
     cases u <;> first | exact ⟨_,_,_,rfl⟩ | exact absurd rfl aD | simp [bK] at h
    simp only [bK,Option.map_eq_some_iff] at h;obtain ⟨cs,hm,rfl⟩:=h;obtain ⟨c8,c9⟩:=jC hm;cases c with
    | shared=>exact absurd rfl aD
    | full=>exact absurd rfl aD
    | own z =>
      cases v with
      | slice aa m gu =>
       cases aa with
       | none=>trivial
       | some a =>
        simp only [aV] at ar ⊢;rcases ar with ⟨ad,af,aH⟩ | ⟨ad,af,aH,bh,bM,bU,cM,cN,cR⟩
        ·subst aH;simp [dY] at hm;subst hm;exact .inl ⟨ad,af,rfl⟩
        ·exact .inr ⟨(fV _ ad).1,af,aH,bh,bM,bU,by omega,cN,fun o ar ai=>cR o (by omega) ((fV _ ad).2 o ai)⟩
      | _=>trivial
    | uniq z =>
      cases v with
      | slice aa m gu =>
       cases aa with
       | none=>trivial
       | some a =>
        simp only [aV] at ar ⊢;rcases ar with ⟨ad,af,aH⟩ | ⟨ad,af,bh,bM,bU,cM,⟨cur,e,cN,cR,dq⟩,fg⟩
        ·subst aH;simp [dY] at hm;subst hm;exact .inl ⟨ad,af,rfl⟩
        ·refine .inr ⟨(fV _ ad).1,af,bh,bM,bU,by omega,⟨cur,e,cN,cR,fun j y c aZ ak=>?_⟩,fun o ai=>fg o ((fV _ ad).2 o ai)⟩;obtain ⟨x,al,aN⟩:=c9 j y aZ;obtain ⟨aW,aX,cw⟩:=dq j x c al ak;exact ⟨(hN aN).1 aW,aX,b7 d x y c aN cw⟩
      | _=>trivial
theorem pL (ah:aJ B U J S w H) {a3:List au} {r v:I} {x:Value} {bS:World} (jy:∀ id,id<H.length→a3[id]?=H[id]?) {n d:Nat} (aN:bK a3 H.length a3.length n d r=some v)
  (aD:a0 B U J S w a3 r x bS):a0 B U J S w H v x bS:=by
 obtain ⟨bo,ca,bI,bL,aA,ck,aj,ar⟩:=aD;obtain ⟨dw,aH⟩:=ow ah bL aA ck jy a3.length n
 have b7:=fun d u r v=>lf (gf:=J) (id0:=a3.length) (n:=n) ck (lo:=H.length) (fun id b aY ag=>by
   (have jt:id<J.length:=by rw [ah.cA];exact aY);have al:=List.getElem?_eq_getElem jt;rw [bL _ _ al] at ag;cases ag;exact al) (fun b ag=>by
   have:=(List.getElem?_eq_some_iff.1 ag).1;rw [ck.cA] at this;omega) d u r v
 refine ⟨_,J,_,Ext.refl J,dw,aH,b7 d r v x aN aj,j9 (l:=.res) (fun b ag=>⟨nk ag (fun id h=>by rcases h with h | ⟨j,h⟩ <;> cases h),fun o h=>?_⟩) b7 aN ar⟩;rcases h with h | ⟨⟨id,_,_,h⟩,_⟩
 ·exact h
 ·rw [ag] at h;cases h
theorem Du (ah:aJ B U J S w H) {a3:List au} {r v:I} {x:Value} {bS:World} (jy:∀ id,id<H.length→a3[id]?=H[id]?) {id0 d gR:Nat} {l l':List I} (e5:H.length≤id0)
  (aE:a3[id0]?=some (.cells l)) (aq:dY (bK a3 H.length id0 H.length gR) l=some l') (aN:bK a3 H.length id0 H.length d r=some v)
  (aD:a0 B U J S w a3 r x bS):a0 B U J S w (H++[.cells l']) v x bS:=by
 obtain ⟨bo,ca,bI,bL,aA,ck,aj,ar⟩:=aD;obtain ⟨dw,aH⟩:=ow ah bL aA ck jy id0 H.length;obtain ⟨dp,cur,e,aB,aF,aS,bp,bf,bg⟩:=ck.obj id0 _ aE;have lP:Ext J (J++[dp]):=Ext.append J [dp]
 have b7:=fun d u r v=>lf (gf:=J++[dp]) (id0:=id0) (n:=H.length) ck (lo:=H.length) (fun id b aY ag=>by
   (have jt:id<J.length:=by rw [ah.cA];exact aY);have al:=List.getElem?_eq_getElem jt;rw [bL _ _ al] at ag;cases ag;exact lP _ _ al) (fun b ag=>by
   rw [aB] at ag;cases ag;exact Ext.last ah dp) d u r v
 obtain ⟨c8,c9⟩:=jC aq;have oX:∀ id,(aG.obj id0≠.obj id)∨id=id0:=fun id=>by
  by_cases h:id=id0
  ·exact .inr h
  ·exact .inl fun e=>h (by cases e;rfl)
 have kf:∀ b,bo b=some (.obj id0)→fG bo H.length id0 H.length b=some (.obj H.length):=fun b ag=>by
  simp only [fG,ag];simp;omega
 have B2:∀ b j,bo b=some (.cell id0 j)→fG bo H.length id0 H.length b=some (.cell H.length j):=fun b j ag=>by
  simp only [fG,ag];simp;omega
 have cg:∀ b l,bo b=some l→(∀ id,l≠.obj id∨id=id0)→∀ o,gi bo bI bS H.length id0 b o→bI b o:=fun b l ag bY o h=>by
  rcases h with h | ⟨⟨id,_,aP,h⟩,_⟩
  ·exact h
  ·rw [ag] at h;cases h;rcases bY id with h | h
   ·exact absurd rfl h
   ·exact absurd h aP
 refine ⟨_,J++[dp],_,lP,dw,aH.push dp ⟨dp,cur,e,Ext.last ah dp,kf dp aF,aS,by omega,fun o h=>bf o (cg dp _ aF oX o h),fun j u c hu ak=>?_⟩,
  b7 d r v x aN aj,j9 (l:=.res) (fun b ag=>⟨nk ag (fun id h=>by rcases h with h | ⟨j,h⟩ <;> cases h),cg b _ ag (fun id=>.inl (by simp))⟩) b7 aN ar⟩
 obtain ⟨y,aZ,oW⟩:=c9 j u hu;obtain ⟨a',bm,bt,b6⟩:=bg j y c aZ ak;exact ⟨(hN oW).2 a',bm,b7 gR y u c oW bt,j9 (l:=.cell id0 j) (fun b ag=>⟨B2 b j ag,cg b _ ag (fun id=>.inl (by simp))⟩) b7 oW b6⟩
theorem mapM_some {f:I→Option I}:∀ {xs ys:List (Nat×I×I)},mapM f xs=some ys→ys.length=xs.length∧∀ (j i:Nat) (k v:I),ys[j]?=some (i,k,v)→∃ c7 v0,xs[j]?=some (i,c7,v0)∧f c7=some k∧f v0=some v
 | [],ys,h=>by simp [mapM] at h;subst h;simp
 | (i0,c7,v0)::xs,ys,h=>by
   simp only [mapM] at h;split at h
   ·rename_i aL v1 av ae;simp only [Option.map_eq_some_iff] at h;obtain ⟨ys,h,rfl⟩:=h;obtain ⟨ad,af⟩:=mapM_some h;refine ⟨by simp [ad],fun j i k v az=>?_⟩;cases j with
    | zero=>simp at az;obtain ⟨rfl,rfl,rfl⟩:=az;exact ⟨c7,v0,rfl,av,ae⟩
    | succ j=>simpa using af j i k v (by simpa using az)
   ·simp at h
theorem Dv (ah:aJ B U J S w H) {a3:List au} {r v:I} {x:Value} {bS:World} (jy:∀ id,id<H.length→a3[id]?=H[id]?) {id0 d gR:Nat} {es es':List (Nat×I×I)} {clock:Nat} (e5:H.length≤id0)
  (aE:a3[id0]?=some (.map es clock)) (aq:mapM (bK a3 H.length id0 H.length gR) es=some es') (aN:bK a3 H.length id0 H.length d r=some v)
  (aD:a0 B U J S w a3 r x bS):a0 B U J S w (H++[.map es' clock]) v x bS:=by
 obtain ⟨bo,ca,bI,bL,aA,ck,aj,ar⟩:=aD;obtain ⟨dw,aH⟩:=ow ah bL aA ck jy id0 H.length;obtain ⟨dp,bx,aB,aF,aS,bp,bf,bg⟩:=ck.obj id0 _ aE;have lP:Ext J (J++[dp]):=Ext.append J [dp]
 have b7:=fun d u r v=>lf (gf:=J++[dp]) (id0:=id0) (n:=H.length) ck (lo:=H.length) (fun id b aY ag=>by
   (have jt:id<J.length:=by rw [ah.cA];exact aY);have al:=List.getElem?_eq_getElem jt;rw [bL _ _ al] at ag;cases ag;exact lP _ _ al) (fun b ag=>by
   rw [aB] at ag;cases ag;exact Ext.last ah dp) d u r v
 obtain ⟨c8,c9⟩:=mapM_some aq;have oX:∀ id,(aG.obj id0≠.obj id)∨id=id0:=fun id=>by
  by_cases h:id=id0
  ·exact .inr h
  ·exact .inl fun e=>h (by cases e;rfl)
 have kf:∀ b,bo b=some (.obj id0)→fG bo H.length id0 H.length b=some (.obj H.length):=fun b ag=>by
  simp only [fG,ag];simp;omega
 have cg:∀ b l,bo b=some l→(∀ id,l≠.obj id∨id=id0)→∀ o,gi bo bI bS H.length id0 b o→bI b o:=fun b l ag bY o h=>by
  rcases h with h | ⟨⟨id,_,aP,h⟩,_⟩
  ·exact h
  ·rw [ag] at h;cases h;rcases bY id with h | h
   ·exact absurd rfl h
   ·exact absurd h aP
 refine ⟨_,J++[dp],_,lP,dw,aH.push dp ⟨dp,bx,Ext.last ah dp,kf dp aF,aS,by omega,fun o h=>bf o (cg dp _ aF oX o h),fun j i k v c hu ak=>?_⟩,
  b7 d r v x aN aj,j9 (l:=.res) (fun b ag=>⟨nk ag (fun id h=>by rcases h with h | ⟨j,h⟩ <;> cases h),cg b _ ag (fun id=>.inl (by simp))⟩) b7 aN ar⟩
 obtain ⟨c7,v0,aZ,x',ke⟩:=c9 j i k v hu;obtain ⟨a',bm,bt,b6,dQ⟩:=bg j i c7 v0 c aZ ak;exact ⟨a',(hN x').1 bm,b7 gR c7 k _ x' bt,(hN ke).1 b6,b7 gR v0 v _ ke dQ⟩
theorem xN {u:I} (h:u.plain=true):u.gS.plain=true:=by
 unfold I.gS;split
 ·rfl
 ·exact h
theorem Bg {u:I} (h:u.plain=true):u.cm.plain=true:=by
 unfold I.cm;split <;> first | rfl | exact h
theorem Rel.gS {u:I} {v:Value} (h:Rel J S w u v):Rel J S w u.gS v:=by
 unfold I.gS;split
 ·rename_i c n;cases h with
  | b2 _ a=>exact .b2 _ a
  | ax _ _ _ b o cap f ak hle hu k eG=>exact .ax _ _ _ b o cap f (by simp) hle (by simp) k eG
 ·exact h
theorem Rel.cm {u:I} {v:Value} (h:Rel J S w u v):Rel J S w u.cm v:=by
 unfold I.cm;split
 ·rename_i c n;cases h with
  | b2 _ a=>exact .b2 _ a
  | ax _ _ _ b o cap f ak hle hu k eG=>exact .ax _ _ _ b o cap f (by simp) hle (by simp) k eG
 ·cases h with
  | agg as vs l p one r =>
    refine .agg _ vs (by simpa using l) (fun u hu=>?_) one fun j u v hu ae=>?_
    ·obtain ⟨x,al,rfl⟩:=List.mem_map.1 hu;exact xN (p x al)
    ·rw [List.getElem?_map] at hu;simp only [Option.map_eq_some_iff] at hu;obtain ⟨x,al,rfl⟩:=hu;exact (r j x v al ae).gS
 ·cases h with
  | tuple as vs l p r =>
    refine .tuple _ vs (by simpa using l) (fun u hu=>?_) fun j u v hu ae=>?_
    ·obtain ⟨x,al,rfl⟩:=List.mem_map.1 hu;exact xN (p x al)
    ·rw [List.getElem?_map] at hu;simp only [Option.map_eq_some_iff] at hu;obtain ⟨x,al,rfl⟩:=hu;exact (r j x v al ae).gS
 ·exact h
theorem aV.cm {l:aG} {u:I} {v:Value} (h:aV U J S w l u v):aV U J S w l u.cm v:=by
 by_cases aD:u.plain=true
 ·exact aV.b3 (Bg aD)
 ·have:u.cm=u:=by
   cases u <;> first | exact absurd rfl aD | skip
   ·rename_i c n k;cases k <;> first | rfl | exact absurd rfl aD
   ·rfl
   ·rfl
  rw [this];exact h
theorem a7.cm {bB:Nat→aG} {T:List I} {bd:List Value} (h:a7 bB U J S w T bd):a7 bB U J S w (T.map I.cm) bd :=
 ⟨by simpa using h.len,fun i u v hu ae=>by
  rw [List.getElem?_map] at hu;simp only [Option.map_eq_some_iff] at hu;obtain ⟨x,al,rfl⟩:=hu;exact (h.rel i x v al ae).cm,fun i u v hu ae=>by
  rw [List.getElem?_map] at hu;simp only [Option.map_eq_some_iff] at hu
  obtain ⟨x,al,rfl⟩:=hu;exact (h.own i x v al ae).cm⟩
theorem a0.cm {H':List au} {r:I} {v:Value} {w':World} (h:a0 B U J S w H' r v w'):a0 B U J S w H' r.cm v w':=by
 obtain ⟨bo,ca,bI,a,b,c,d,e⟩:=h;exact ⟨bo,ca,bI,a,b,c,d.cm,e.cm⟩
theorem Rel.pure (bZ:List Nat) {u:I} {v:Value} (h:Rel J S w u v):∀ {d:Nat},cl d u=true→Rel bZ S w u v:=by
 have all:∀ {d:Nat} {l:List I},l.all (cl d)=true→∀ {j:Nat} {u:I},l[j]?=some u→cl d u=true:=fun h j u hu=>by
  rw [List.all_eq_true] at h;exact h u (List.mem_of_getElem? hu)
 induction h with
 | junk v=>intro d h;cases d <;> simp [cl] at h
 | bool b=>intros;exact .bool b
 | dg b=>intros;exact .dg b
 | int k n=>intros;exact .int k n
 | str s=>intros;exact .str s
 | eu=>intros;exact .eu
 | ptr id off b k=>intro d h;cases d <;> simp [cl] at h
 | bT cells b o f k eG a9 =>
   intro d h;cases d with
   | zero=>simp [cl] at h
   | succ d=>simp only [cl] at h;exact .bT cells b o f k fun j u az=>a9 j u az (all h az)
 | b2 c a=>intros;exact .b2 c a
 | ax cells len c b o cap f ak hle hu k eG a9 =>
   intro d h;cases d with
   | zero=>simp [cl] at h
   | succ d=>simp only [cl] at h;exact .ax cells len c b o cap f ak hle hu k fun j u az=>a9 j u az (all h az)
 | cH cells len z b o cap=>intros;exact .cH cells len z b o cap
 | raw=>intro d h;cases d <;> simp [cl] at h
 | cf=>intro d h;cases d <;> simp [cl] at h
 | ref id off len c sz b cap k ak hle=>intro d h;cases d <;> simp [cl] at h
 | func f as bs vs ws ad af bP b4 aR r2 i1 i2 =>
   intro d h;cases d with
   | zero=>simp [cl] at h
   | succ d =>
     simp only [cl,Bool.and_eq_true] at h;exact .func f as bs vs ws ad af bP b4 (fun j u v hu ae=>i1 j u v hu ae (all h.1 hu)) (fun j u v hu ae=>i2 j u v hu ae (all h.2 hu))
 | yield id b k=>intro d h;cases d <;> simp [cl] at h
 | map id b k=>intro d h;cases d <;> simp [cl] at h
 | agg as vs k p one r a9 =>
   intro d h;cases d with
   | zero=>simp [cl] at h
   | succ d=>simp only [cl] at h;exact .agg as vs k p one fun j u v hu ae=>a9 j u v hu ae (all h hu)
 | tuple as vs k p r a9 =>
   intro d h;cases d with
   | zero=>simp [cl] at h
   | succ d=>simp only [cl] at h;exact .tuple as vs k p fun j u v hu ae=>a9 j u v hu ae (all h hu)
def dO (U:Nat→Option aG):Nat→Option aG:=fun b=>match U b with
 | some (.arg i)=>some (.arg i)
 | _=>none
theorem xB {b i:Nat} (h:U b=some (.arg i)):dO U b=some (.arg i):=by simp [dO,h]
theorem k3 {b:Nat} {l:aG} (h:dO U b=some l):∃ i,U b=some (.arg i)∧l=.arg i:=by
 unfold dO at h;split at h
 ·rename_i i hi;cases h;exact ⟨i,hi,rfl⟩
 ·cases h
theorem aV.pure (bZ:List Nat) {i:Nat} {u:I} {v:Value} {d:Nat} (aD:cl d u=true) (h:aV U J S w (.arg i) u v):aV (dO U) bZ S w (.arg i) u v:=by
 unfold aV at h ⊢;split at h
 ·rcases h with h | ⟨ad,h⟩
  ·exact .inl h
  ·exact .inr ⟨xB ad,h⟩
 ·rename_i cells len z a n cap;cases d with
  | zero=>simp [cl] at aD
  | succ d =>
    simp only [cl] at aD;rcases h with h | ⟨ad,af,aH,bh,bM,bU,⟨cur,e,cM,cN,cR⟩,dq⟩
    ·exact .inl h
    ·refine .inr ⟨xB ad,af,aH,bh,bM,bU,⟨cur,e,cM,cN,fun j u v hu ae=>?_⟩,dq⟩;obtain ⟨bP,b4,ev⟩:=cR j u v hu ae;rw [List.all_eq_true] at aD;exact ⟨bP,b4,ev.pure bZ (aD u (List.mem_of_getElem? hu))⟩
 ·cases d <;> simp [cl] at aD
 ·trivial
theorem a7.pure {T:List I} {bd:List Value} (h:a7 (fun i=>.arg i) U J S w T bd) (aD:T.all (cl 8)=true):a7 (fun i=>.arg i) (dO U) [] S w T bd:=by
 rw [List.all_eq_true] at aD;exact ⟨h.len,fun i u v hu ae=>(h.rel i u v hu ae).pure [] (aD u (List.mem_of_getElem? hu)),fun i u v hu ae=>(h.own i u v hu ae).pure [] (aD u (List.mem_of_getElem? hu))⟩
theorem yq (ah:aJ B U J S w H):aJ B (dO U) [] S w [] :=
 ⟨rfl,fun id o h=>by simp at h,ah.b',fun b l ag=>by obtain ⟨i,h,_⟩:=k3 ag;exact ah.base b _ h,ah.cV⟩
theorem zi (ah:aJ B U J S w H) {a3:List au} {r v:I} {x:Value} {bS:World} {n d:Nat} (aN:bK a3 0 a3.length n d r=some v)
  (aD:a0 B (dO U) [] S w a3 r x bS):a0 B U J S w H v x bS:=by
 classical
 obtain ⟨bo,ca,bI,bL,aA,ck,aj,ar⟩:=aD
 let ay:Nat→Option aG:=fun b=>match U b with
  | some (.obj id)=>some (.obj id)
  | some (.cell id j)=>some (.cell id j)
  | _=>match bo b with
    | some (.obj _)=>none
    | some (.cell _ _)=>none
    | l=>l
 have jw:∀ b l,U b=some l→((∃ id,l=.obj id)∨∃ id j,l=.cell id j)→ay b=some l∧bo b=none∧b<w.heap.size:=fun b l ag aq=>by
  have aY:=(ah.base b l ag).2;have af:bo b=none:=by
   cases h:bo b with
   | none=>rfl
   | some l' =>
     rcases aA.own b (by simp [h]) with ad | ad
     ·exfalso;apply ad;rcases aq with ⟨id,rfl⟩ | ⟨id,j,rfl⟩ <;> simp [dO,ag]
     ·omega
  refine ⟨?_,af,aY⟩;rcases aq with ⟨id,rfl⟩ | ⟨id,j,rfl⟩ <;> simp [ay,ag]
 have pe:∀ b,ay b≠none→U b≠none∨bo b≠none:=fun b h=>by
  by_cases ad:U b=none
  ·right;intro af;apply h;simp [ay,ad,af]
  ·exact .inl ad
 have cu:∀ b,dO U b≠none→U b≠none:=fun b h aT=>h (by simp [dO,aT]);have oE:∀ b o,gi bo bI bS 0 a3.length b o→S b o∨U b≠none∨w.heap.size≤b:=fun b o h=>by
  rcases h with h | ⟨⟨id,_,_,h⟩,_⟩
  ·rcases aA.fresh b o h with h | h | h
   ·exact .inl h
   ·exact .inr (.inl (cu b h))
   ·exact .inr (.inr h)
  ·rcases aA.own b (by simp [h]) with ad | ad
   ·exact .inr (.inl (cu b ad))
   ·exact .inr (.inr ad)
 have la:bj U S w ay (gi bo bI bS 0 a3.length) bS :=
  ⟨aA.os,aA.tape,aA.output,aA.size,fun b ag aP=>aA.cG b ag (by simp [dO,aP]),fun b o h=>⟨.inl (aA.set b o h).1,(aA.set b o h).2⟩,oE,fun b h=>by
   rcases pe b h with h | h
   ·exact .inl h
   ·rcases aA.own b h with h | h
    ·exact .inl (cu b h)
    ·exact .inr h⟩
 have b7:=fun d u r v=>lf (gf:=J) (id0:=a3.length) (n:=n) ck (lo:=0) (fun id b aY ag=>by omega) (fun b ag=>by
   have:=(List.getElem?_eq_some_iff.1 ag).1;rw [ck.cA] at this;omega) d u r v
 refine ⟨ay,J,_,Ext.refl J,la,ah.frame la (fun b l ag aq=>?_) (fun b o h=>?_) (fun b l ag=>?_),b7 d r v x aN aj,j9 (l:=.res) (fun b ag=>?_) b7 aN ar⟩
 ·obtain ⟨ad,af,aH⟩:=jw b l ag aq;have aP:dO U b=none:=by rcases aq with ⟨id,rfl⟩ | ⟨id,j,rfl⟩ <;> simp [dO,ag]
  refine ⟨ad,aA.cG b aH aP,fun o h=>?_⟩;rcases h with h | ⟨⟨id,_,_,h⟩,_⟩
  ·rcases aA.fresh b o h with h | h | h
   ·exact h
   ·exact absurd aP h
   ·omega
  ·rw [af] at h;cases h
 ·rcases h with h | ⟨_,h⟩
  ·exact ck.b' b o h
  ·exact h
 ·by_cases h:U b=none
  ·(have bq:bo b≠none:=fun af=>by simp [ay,h,af] at ag);cases af:bo b with
   | none=>exact absurd af bq
   | some l'=>exact ck.base b l' af
  ·cases ad:U b with
   | none=>exact absurd ad h
   | some l'=>obtain ⟨p,q⟩:=ah.base b l' ad;exact ⟨p,Nat.lt_of_lt_of_le q aA.size⟩
 ·refine ⟨?_,fun o h=>?_⟩
  ·cases ad:U b with
   | none=>simp [ay,ad,ag]
   | some l =>
     cases l with
     | obj id=>have:=(jw b _ ad (.inl ⟨id,rfl⟩)).2.1;rw [ag] at this;cases this
     | cell id j=>have:=(jw b _ ad (.inr ⟨id,j,rfl⟩)).2.1;rw [ag] at this;cases this
     | _=>simp [ay,ad,ag]
  ·rcases h with h | ⟨⟨id,_,_,h⟩,_⟩
   ·exact h
   ·rw [ag] at h;cases h
def fM (U:Nat→Option aG) (S:Nat→Nat→Prop) (w:World):Nat→Nat→Prop:=fun b o=>S b o∨((∃ id,U b=some (.obj id))∧∃ v,w.cell? ⟨b,o,none⟩=some v)
theorem Ad {J bZ:List Nat} {S S':Nat→Nat→Prop} {u:I} {v:Value} (h:gJ u=true) (aj:Rel J S w u v):Rel bZ S' w u v:=by
 cases aj <;> simp [gJ] at h
 ·exact .bool _
 ·exact .int _ _
 ·exact .str _
theorem Ef {bZ:List Nat} {S':Nat→Nat→Prop} {u:I} {v:Value} (h:f' u=true) (aj:Rel J S w u v):Rel bZ S' w u v:=by
 cases aj with
 | bool b=>exact .bool b
 | dg b=>simp [f'] at h
 | int k n=>exact .int k n
 | str s=>exact .str s
 | tuple as vs k p q =>
   simp only [f',List.all_eq_true] at h;exact .tuple as vs k p fun j u v hu ae=>Ad (h u (List.mem_of_getElem? hu)) (q j u v hu ae)
 | cH cells len z b o cap=>exact .cH _ _ _ _ _ _
 | b2 c a =>
   exact .b2 _ _
 | ax cells len c b o cap f ak hle hu k eG=>cases c <;> simp [f'] at h;exact absurd rfl (hu _)
 | _=>simp [f'] at h
theorem Ee {U ay:Nat→Option aG} {bZ:List Nat} {S S':Nat→Nat→Prop} {u:I} {v:Value} (h:f' u=true) (ar:aV U J S w .res u v) (fV:∀ b,U b=some .res→ay b=some .res∧∀ o,S' b o→S b o):aV ay bZ S' w .res u v:=by
 unfold aV at ar ⊢;split at ar
 ·simp [f'] at h
 ·simp only [f',List.all_eq_true] at h;rcases ar with ar | ⟨ad,aT,bh,bM,bU,cM,⟨cur,e,cN,cR,dq⟩,fg⟩
  ·exact .inl ar
  ·obtain ⟨aL,aQ⟩:=fV _ ad;exact .inr ⟨aL,aT,bh,bM,bU,cM,⟨cur,e,cN,cR,fun j u v hu ae=>⟨(dq j u v hu ae).1,(dq j u v hu ae).2.1,Ad (h u (List.mem_of_getElem? hu)) (dq j u v hu ae).2.2⟩⟩,fun o ai=>fg o (aQ o ai)⟩
 ·simp [f'] at h
 ·trivial
theorem Ah {u:I} (h:u.plain=true):(jU H u).plain=true:=by
 unfold jU;split
 ·split <;> rfl
 ·exact h
theorem Ai (ah:aJ B U J S w H) {u:I} {v:Value} (aj:Rel J S w u v):Rel J (fM U S w) w (jU H u) v:=by
 have hm:Rel J (fM U S w) w u v:=aj.mono (Ext.refl J) fun b o h=>⟨.inl h,rfl⟩;cases aj <;> try exact hm
 case ref id off len cap sz b gu ag ak hle =>
  unfold jU;simp only;split
  ·rename_i row cO;unfold rowOf at cO;simp only at cO;split at cO
   ·rename_i l aE;split at cO
    ·rename_i dy;simp only [Option.some.injEq] at cO;obtain ⟨ao,cur,e,aB,aF,aS,bp,bf,bg⟩:=ah.obj id _ aE;rw [ag] at aB;cases aB;(have bw:∀ o,o<cur.size→w.cell? ⟨b,o,none⟩=cur[o]?:=fun o ar=>by simp [World.cell?,aS,ar]);have facts:∀ (j:Nat) (y:I),row[j]?=some y→∃ c,off+j<cur.size∧cur[off+j]?=some c∧c.oneCell'=true∧y.plain=true∧Rel J S w y c:=fun j y aZ=>by
      subst cO;have hQ:=(List.getElem?_eq_some_iff.1 aZ).1;simp at hQ;(have fj:off+j<l.length:=by omega);(have e6:off+j<cur.size:=by omega);have aq:l[off+j]?=some l[off+j]:=List.getElem?_eq_getElem fj;have ae:cur[off+j]?=some cur[off+j]:=Array.getElem?_eq_getElem e6;obtain ⟨a',bm,bt,b6⟩:=bg (off+j) _ _ aq ae;rw [List.getElem?_map,List.getElem?_take,if_pos (by omega),List.getElem?_drop,aq] at aZ;simp at aZ;subst aZ;exact ⟨_,e6,ae,bm,I.c_ _,bt.view a'⟩
     refine .ax row len .shared b off gu (fun j=>cur.getD (off+j) undef) (by simp) hle (by simp) (fun j y aZ=>?_) (fun j y aZ=>?_)
     ·obtain ⟨c,az,c2,ad,aD,ea⟩:=facts j y aZ;(have aK:cur.getD (off+j) undef=c:=by rw [Array.getD_eq_getD_getElem?,c2];rfl);rw [aK];exact ⟨.inr ⟨⟨id,aF⟩,c,by rw [bw _ az,c2]⟩,by rw [bw _ az,c2],aD,ad⟩
     ·obtain ⟨c,az,c2,ad,aD,ea⟩:=facts j y aZ;(have aK:cur.getD (off+j) undef=c:=by rw [Array.getD_eq_getD_getElem?,c2];rfl);simp only [aK];exact ea.mono (Ext.refl J) fun b o h=>⟨.inl h,rfl⟩
    ·cases cO
   ·cases cO
  ·exact hm
theorem xi (ah:aJ B U J S w H) {u:I} {v:Value} (aj:Rel J S w u v):Rel J (fM U S w) w (hz H u) v:=by
 have hm:Rel J (fM U S w) w u v:=aj.mono (Ext.refl J) fun b o h=>⟨.inl h,rfl⟩;have lj:=Ai ah aj;cases aj <;> first | exact hm | exact lj | skip
 rename_i id off b ag;unfold hz;simp only;split
 ·rename_i l aE;obtain ⟨ao,cur,e,aB,aF,aS,bp,bf,bg⟩:=ah.obj id _ aE;rw [ag] at aB;cases aB;have bw:∀ o,o<cur.size→w.cell? ⟨b,o,none⟩=cur[o]?:=fun o ar=>by simp [World.cell?,aS,ar]
  have facts:∀ (j:Nat) (y:I),(((l.drop off).map I.view).map (jU H))[j]?=some y→∃ c,off+j<cur.size∧cur[off+j]?=some c∧c.oneCell'=true∧y.plain=true∧Rel J (fM U S w) w y c:=fun j y aZ=>by
   have hQ:=(List.getElem?_eq_some_iff.1 aZ).1;simp at hQ;(have fj:off+j<l.length:=by omega);(have e6:off+j<cur.size:=by omega);have aq:l[off+j]?=some l[off+j]:=List.getElem?_eq_getElem fj;have ae:cur[off+j]?=some cur[off+j]:=Array.getElem?_eq_getElem e6;obtain ⟨a',bm,bt,b6⟩:=bg (off+j) _ _ aq ae;rw [List.getElem?_map,List.getElem?_map,List.getElem?_drop,aq] at aZ;simp at aZ;subst aZ;exact ⟨_,e6,ae,bm,Ah (I.c_ _),Ai ah (bt.view a')⟩
  refine .bT _ b off (fun j=>cur.getD (off+j) undef) (fun j y aZ=>?_) (fun j y aZ=>?_)
  ·obtain ⟨c,az,c2,ad,aD,ea⟩:=facts j y aZ;(have aK:cur.getD (off+j) undef=c:=by rw [Array.getD_eq_getD_getElem?,c2];rfl);rw [aK];exact ⟨.inr ⟨⟨id,aF⟩,c,by rw [bw _ az,c2]⟩,by rw [bw _ az,c2],aD,ad⟩
  ·obtain ⟨c,az,c2,ad,aD,ea⟩:=facts j y aZ;(have aK:cur.getD (off+j) undef=c:=by rw [Array.getD_eq_getD_getElem?,c2];rfl);simp only [aK];exact ea
 ·exact hm
theorem nO {u:I} (h:u.plain=true):(hz H u).plain=true:=by
 unfold hz;split
 ·split <;> rfl
 ·exact Ah rfl
 ·exact h
theorem En (ah:aJ B U J S w H) {u:I} {v:Value} (aj:Rel J S w u v):Rel J (fM U S w) w (h6 H u) v:=by
 have hm:Rel J (fM U S w) w u v:=aj.mono (Ext.refl J) fun b o h=>⟨.inl h,rfl⟩;have m7:=xi ah aj;cases aj <;> try exact hm
 ·exact m7
 ·exact m7
 ·rename_i f as bs vs ws ad af bP b4 aR r2;refine .func f _ _ vs ws (by simpa using ad) (by simpa using af) (fun u hu=>?_) (fun u hu=>?_) (fun j u v hu ae=>?_) (fun j u v hu ae=>?_)
  ·obtain ⟨x,al,rfl⟩:=List.mem_map.1 hu;exact nO (bP x al)
  ·obtain ⟨x,al,rfl⟩:=List.mem_map.1 hu;exact nO (b4 x al)
  ·rw [List.getElem?_map] at hu;simp only [Option.map_eq_some_iff] at hu;obtain ⟨x,al,rfl⟩:=hu;exact xi ah (aR j x v al ae)
  ·rw [List.getElem?_map] at hu;simp only [Option.map_eq_some_iff] at hu;obtain ⟨x,al,rfl⟩:=hu;exact xi ah (r2 j x v al ae)
theorem Em {i:Nat} {u:I} {v:Value} (h:aV U J S w (.arg i) u v):aV U J (fM U S w) w (.arg i) (h6 H u) v:=by
 have cg:∀ b,U b=some (.arg i)→∀ o,fM U S w b o→S b o:=fun b ag o h=>by
  rcases h with h | ⟨⟨id,h⟩,_⟩
  ·exact h
  ·rw [ag] at h;cases h
 have hm:aV U J (fM U S w) w (.arg i) u v:=h.mono (Ext.refl J) (fun b o h=>⟨.inl h,rfl⟩) fun b ag=>⟨ag,rfl,cg b ag⟩;cases u <;> try exact hm
 ·rename_i id off;exact aV.b3 (show (hz H (.ptr id off)).plain=true from nO rfl)
 ·rename_i id off len cap sz;exact aV.b3 (show (hz H (.ref id off len cap sz)).plain=true from nO rfl)
theorem E' (ah:aJ B U J S w H) {T:List I} {bd:List Value} (h:a7 (fun i=>.arg i) U J S w T bd):a7 (fun i=>.arg i) U J (fM U S w) w (T.map (h6 H)) bd :=
 ⟨by simpa using h.len,fun i u v hu ae=>by
  rw [List.getElem?_map] at hu;simp only [Option.map_eq_some_iff] at hu;obtain ⟨x,al,rfl⟩:=hu;exact En ah (h.rel i x v al ae),fun i u v hu ae=>by
  rw [List.getElem?_map] at hu;simp only [Option.map_eq_some_iff] at hu
  obtain ⟨x,al,rfl⟩:=hu;exact Em (h.own i x v al ae)⟩
theorem Cp (ah:aJ B U J S w H):aJ B (dO U) [] (fM U S w) w [] :=
 ⟨rfl,fun id o h=>by simp at h,fun b o h=>by
  rcases h with h | ⟨_,h⟩
  ·exact ah.b' b o h
  ·exact h,fun b l ag=>by obtain ⟨i,h,_⟩:=k3 ag;exact ah.base b _ h,ah.cV⟩
theorem Dw (ah:aJ B U J S w H) {a3:List au} {r v:I} {x:Value} {bS:World} {n d:Nat} (aN:bK a3 0 a3.length n d r=some v)
  (ai:f' v=true) (aD:a0 B (dO U) [] (fM U S w) w a3 r x bS):a0 B U J S w H v x bS:=by
 classical
 obtain ⟨bo,ca,bI,bL,aA,ck,aj,ar⟩:=aD
 let ay:Nat→Option aG:=fun b=>match U b with
  | some (.obj id)=>some (.obj id)
  | some (.cell id j)=>some (.cell id j)
  | _=>match bo b with
    | some (.obj _)=>none
    | some (.cell _ _)=>none
    | l=>l
 have jw:∀ b l,U b=some l→((∃ id,l=.obj id)∨∃ id j,l=.cell id j)→ay b=some l∧bo b=none∧b<w.heap.size:=fun b l ag aq=>by
  have aY:=(ah.base b l ag).2;have af:bo b=none:=by
   cases h:bo b with
   | none=>rfl
   | some l' =>
     rcases aA.own b (by simp [h]) with ad | ad
     ·exfalso;apply ad;rcases aq with ⟨id,rfl⟩ | ⟨id,j,rfl⟩ <;> simp [dO,ag]
     ·omega
  refine ⟨?_,af,aY⟩;rcases aq with ⟨id,rfl⟩ | ⟨id,j,rfl⟩ <;> simp [ay,ag]
 have pe:∀ b,ay b≠none→U b≠none∨bo b≠none:=fun b h=>by
  by_cases ad:U b=none
  ·right;intro af;apply h;simp [ay,ad,af]
  ·exact .inl ad
 have cu:∀ b,dO U b≠none→U b≠none:=fun b h aT=>h (by simp [dO,aT])
 let S':Nat→Nat→Prop:=fun b o=>S b o∨(gi bo bI bS 0 a3.length b o∧∀ id,U b≠some (.obj id))
 have oE:∀ b o,S' b o→S b o∨U b≠none∨w.heap.size≤b:=fun b o h=>by
  rcases h with h | ⟨h | ⟨⟨id,_,_,h⟩,_⟩,fS⟩
  ·exact .inl h
  ·rcases aA.fresh b o h with (h | ⟨⟨id,h⟩,_⟩) | h | h
   ·exact .inl h
   ·exact absurd h (fS id)
   ·exact .inr (.inl (cu b h))
   ·exact .inr (.inr h)
  ·rcases aA.own b (by simp [h]) with ad | ad
   ·exact .inr (.inl (cu b ad))
   ·exact .inr (.inr ad)
 have la:bj U S w ay S' bS :=
  ⟨aA.os,aA.tape,aA.output,aA.size,fun b ag aP=>aA.cG b ag (by simp [dO,aP]),fun b o h=>⟨.inl h,(aA.set b o (.inl h)).2⟩,oE,fun b h=>by
   rcases pe b h with h | h
   ·exact .inl h
   ·rcases aA.own b h with h | h
    ·exact .inl (cu b h)
    ·exact .inr h⟩
 have b7:=fun d u r v=>lf (gf:=J) (id0:=a3.length) (n:=n) ck (lo:=0) (fun id b aY ag=>by omega) (fun b ag=>by
   have:=(List.getElem?_eq_some_iff.1 ag).1;rw [ck.cA] at this;omega) d u r v
 have Cm:=b7 d r v x aN aj
 have m4:aV (fun b=>match bo b with | some .res=>some .res | _=>none) J (gi bo bI bS 0 a3.length) bS .res v x:=j9 (l:=.res) (fun b ag=>⟨by simp [ag],fun o h=>by
  rcases h with h | ⟨⟨id,_,_,h⟩,_⟩
  ·exact h
  ·rw [ag] at h;cases h⟩) b7 aN ar
 refine ⟨ay,J,S',Ext.refl J,la,ah.frame la (fun b l ag aq=>?_) (fun b o h=>?_) (fun b l ag=>?_),Ef ai Cm,Ee ai m4 fun b ag=>?_⟩
 ·obtain ⟨ad,af,aH⟩:=jw b l ag aq;have aP:dO U b=none:=by rcases aq with ⟨id,rfl⟩ | ⟨id,j,rfl⟩ <;> simp [dO,ag]
  refine ⟨ad,aA.cG b aH aP,fun o h=>?_⟩;rcases h with h | ⟨h | ⟨⟨id,_,_,h⟩,_⟩,fS⟩
  ·exact h
  ·rcases aA.fresh b o h with (h | ⟨⟨id,h⟩,_⟩) | h | h
   ·exact h
   ·exact absurd h (fS id)
   ·exact absurd aP h
   ·omega
  ·rw [af] at h;cases h
 ·rcases h with h | ⟨h | ⟨_,h⟩,_⟩
  ·obtain ⟨v,ae⟩:=ah.b' b o h;exact ⟨v,((aA.set b o (.inl h)).2).trans ae⟩
  ·exact ck.b' b o h
  ·exact h
 ·by_cases h:U b=none
  ·(have bq:bo b≠none:=fun af=>by simp [ay,h,af] at ag);cases af:bo b with
   | none=>exact absurd af bq
   | some l'=>exact ck.base b l' af
  ·cases ad:U b with
   | none=>exact absurd ad h
   | some l'=>obtain ⟨p,q⟩:=ah.base b l' ad;exact ⟨p,Nat.lt_of_lt_of_le q aA.size⟩
 ·have fi:bo b=some .res:=by
   split at ag
   ·assumption
   ·cases ag
  refine ⟨?_,fun o h=>?_⟩
  ·cases ad:U b with
   | none=>simp [ay,ad,fi]
   | some l =>
     cases l with
     | obj id=>have:=(jw b _ ad (.inl ⟨id,rfl⟩)).2.1;rw [fi] at this;cases this
     | cell id j=>have:=(jw b _ ad (.inr ⟨id,j,rfl⟩)).2.1;rw [fi] at this;cases this
     | _=>simp [ay,ad,fi]
  ·rcases h with h | ⟨h,_⟩
   ·exact .inl ((aA.set b o (.inl h)).1)
   ·exact h
end
end Go.Proofs.YtfakoboiahbhaaaGreat.Ab


namespace Go.Proofs.YtfakoboiahbhaaaGreat.Ab
open Go
def a_ (lo:Nat) (H H':List au):Prop:=H.length≤H'.length∧∀ id,id<lo→id<H.length→H'[id]?=H[id]?
theorem a_.refl (lo:Nat) (H:List au):a_ lo H H:=⟨Nat.le_refl _,fun _ _ _=>rfl⟩
theorem a_.trans {lo:Nat} {H H1 a3:List au} (h:a_ lo H H1) (k:a_ lo H1 a3):a_ lo H a3 :=
 ⟨Nat.le_trans h.1 k.1,fun id ad af=>(k.2 id ad (Nat.lt_of_lt_of_le af h.1)).trans (h.2 id ad af)⟩
theorem a_.append (lo:Nat) (H X:List au):a_ lo H (H++X):=⟨by simp,fun id _ h=>List.getElem?_append_left h⟩
theorem a_.set {lo id:Nat} (H:List au) (x:au) (h:lo≤id):a_ lo H (H.set id x):=⟨by simp,fun bA ad _=>List.getElem?_set_ne (by omega)⟩
def fr (B:Nat) (U:Nat→Option aG) (J:List Nat) (S:Nat→Nat→Prop) (w:World) (H':List au) (r:I):Ending→World→Prop
 | .returned v,w'=>a0 B U J S w H' r v w'
 | _,_=>False
def mx (U:Nat→Option aG):Prop:=∀ b i,U b≠some (.slot i)
def hx (L:Loop) (vs:List Value):Array Value:=(L.params.zip vs.toArray).foldl (fun tmps (x:Tmp×Value)=>tmps.setIfInBounds x.1 x.2) L.tmps
def jc (P:Program) (b1:eZ) (args:List I) (H H':List au) (r:I):Prop :=
 match b1 with
 | .fn k => (∃ f, P.funcs[k]? = some f ∧ f.body.isSome = true ∧ f.name ≠ "runtime.NumGoroutine") ∧
   ∀ B U J S w vs,aJ B U J S w H→mx U→a7 (fun i=>.arg i) U J S w args vs→CallsIn Fence.wide 0 P k vs.toArray w (fr B U J S w H' r)
 | .yield l=>∀ B U J S w vs b,aJ B U J S w H→mx U→a7 (fun i=>.arg i) U J S w args vs→J[l]?=some b →
   ∃ L,w.heap[b]?=some (.loop L)∧vs.length=L.params.size∧RoundIn Fence.wide 0 P b L.fn (hx L vs) L.assign L.body w (fr B U J S w H' r)
structure dn (P:Program) (C:cc):Prop where
 low:∀ {b1 args H lo r H'},C b1 args H lo=some (r,H')→a_ lo H H'
 ok:∀ {b1 args H lo r H'},C b1 args H lo=some (r,H')→jc P b1 args H H' r
section
variable {P:Program} {B N:Nat} {J:List Nat} {w:World} {H:List au} {U:Nat→Option aG} {S:Nat→Nat→Prop}
theorem fr.mono {H' H1:List au} {r r':I} (h:∀ v w',a0 B U J S w H' r v w'→a0 B U J S w H1 r' v w') (e:Ending) (w':World) (k:fr B U J S w H' r e w'):fr B U J S w H1 r' e w':=by
 cases e with
 | returned v=>exact h v w' k
 | panicked c=>exact k
 | outgrown=>exact k
theorem jc.mono {b1:eZ} {args:List I} {H' H1:List au} {r r':I} (k:jc P b1 args H H' r)
  (h:∀ B U J S w,aJ B U J S w H→∀ v w',a0 B U J S w H' r v w'→a0 B U J S w H1 r' v w'):jc P b1 args H H1 r':=by
 cases b1 with
 | fn f =>
   exact ⟨k.1,fun B U J S w vs ah aP ae=>CallsIn.mono (k.2 B U J S w vs ah aP ae) (fr.mono (h B U J S w ah))⟩
 | yield l =>
   intro B U J S w vs b ah aP ae ag;obtain ⟨L,ad,af,aH⟩:=k B U J S w vs b ah aP ae ag;exact ⟨L,ad,af,RoundIn.mono aH (fr.mono (h B U J S w ah))⟩
theorem Br (ah:aJ B U J S w H) {id:Nat} {l:List I} (aE:H[id]?=some (.cells l)) {v:Value} (aj:Rel J S w (.ptr id 0) v) :
  ∃ ay S',bj U S w ay S' w∧aJ B ay J S' w (H.set id .dead)∧Rel J S' w (.bT (l.map I.view)) v:=by
 classical
 cases aj with
 | ptr _ _ b ag =>
   obtain ⟨ao,cur,e,aB,aF,aS,bp,bf,bg⟩:=ah.obj id _ aE;rw [ag] at aB;cases aB
   let S':Nat→Nat→Prop:=fun ao o=>S ao o∨(ao=b∧o<cur.size)
   let ay:Nat→Option aG:=fun ao=>if ao=b then none else U ao
   have bw:∀ o,o<cur.size→w.cell? ⟨b,o,none⟩=cur[o]?:=fun o ar=>by
    simp [World.cell?,aS,ar]
   have aA:bj U S w ay S' w:=⟨rfl,rfl,rfl,Nat.le_refl _,fun _ _ _=>rfl,fun _ _ h=>⟨.inl h,rfl⟩,fun ao o h=>by
     rcases h with h | ⟨rfl,_⟩
     ·exact .inl h
     ·exact .inr (.inl (by simp [aF])),fun ao bq=>by
     by_cases dx:ao=b
     ·simp [ay,dx] at bq
     ·simp only [ay,dx,if_false] at bq;exact .inl bq⟩
   have bV:aJ B ay J S' w (H.set id .dead):=by
    refine ⟨by simpa using ah.cA,fun bA o ar=>?_,fun ao o h=>?_,fun ao l' bq=>?_,ah.cV⟩
    ·by_cases cr:bA=id
     ·subst cr
      have:o=.dead:=by
       have:=(List.getElem?_eq_some_iff.1 aE).1;simp [this] at ar;exact ar.symm
      subst this;trivial
     ·rw [List.getElem?_set_ne (Ne.symm cr)] at ar;refine (ah.obj bA o ar).frame (Ext.refl J) aA.set (fun ao l' bq aq=>?_);have bY:ao≠b:=fun e=>by
       subst e;rw [aF] at bq;cases bq;rcases aq with h | ⟨j,h⟩
       ·cases h;exact cr rfl
       ·cases h
      exact ⟨by simp [ay,bY,bq],rfl,fun o h=>h.resolve_right fun h=>bY h.1⟩
    ·rcases h with h | ⟨rfl,h⟩
     ·exact ah.b' _ _ h
     ·exact ⟨_,(bw o h).trans (Array.getElem?_eq_getElem h)⟩
    ·by_cases dx:ao=b
     ·simp [ay,dx] at bq
     ·simp only [ay,dx,if_false] at bq;exact ah.base _ _ bq
   refine ⟨ay,S',aA,bV,.bT _ b 0 (fun j=>cur.getD j undef) (fun j u az=>?_) (fun j u az=>?_)⟩
   all_goals
    rw [List.getElem?_map] at az;cases aq:l[j]? with
    | none=>rw [aq] at az;simp at az
    | some xn =>
      rw [aq] at az;simp only [Option.map_some,Option.some.injEq] at az;subst az;have aY:=(List.getElem?_eq_some_iff.1 aq).1;have o1:cur[j]?=some cur[j]:=Array.getElem?_eq_getElem (by omega);(have aK:cur.getD j undef=cur[j]:=by simp [Array.getD_eq_getD_getElem?,o1]);obtain ⟨a',bm,bt,b6⟩:=bg j xn _ aq o1
      first
       | (simp only [aK];exact ⟨.inr ⟨rfl,by omega⟩,by rw [Nat.zero_add,bw j (by omega),o1],I.c_ _,bm⟩)
       | (simp only [aK];exact (bt.view a').mono (Ext.refl J) aA.set)
theorem a7.Dl {bB:Nat→aG} {u:I} {vs:List Value} (h:a7 bB U J S w [u] vs):∃ v,vs=[v]∧Rel J S w u v∧aV U J S w (bB 0) u v:=by
 cases vs with
 | nil=>have:=h.len;simp at this
 | cons v r=>cases r with
   | nil=>exact ⟨v,rfl,h.rel 0 u v rfl rfl,h.own 0 u v rfl rfl⟩
   | cons x y=>have:=h.len;simp at this
theorem mF {C:cc} (bD:dn P C) {lo mode:Nat} {b1:eZ} {args:List I} {v:I} {H1:List au} (h:eP C lo mode b1 args H=some (v,H1)):a_ lo H H1∧jc P b1 args H H1 v:=by
 have frozen:∀ {r:I} {a3:List au},C b1 args H H.length=some (r,a3)→((bK a3 H.length a3.length 0 8 r).map fun v=>(v,H))=some (v,H1)→a_ lo H H1∧jc P b1 args H H1 v:=fun ak aN=>by
  simp only [Option.map_eq_some_iff,Prod.mk.injEq] at aN;obtain ⟨bu,aN,rfl,rfl⟩:=aN;exact ⟨a_.refl _ _,(bD.ok ak).mono fun B U J S w ah x w' aD=>pL ah (fun id aE=>(bD.low ak).2 id aE aE) aN aD⟩
 unfold eP at h;split at h
 ·simp only [Option.bind_eq_some_iff] at h;obtain ⟨⟨r,a3⟩,ak,aN⟩:=h;exact frozen ak aN
 ·exact ⟨bD.low h,bD.ok h⟩
 ·split at h
  ·rename_i k aD;simp only [Option.bind_eq_some_iff] at h;obtain ⟨⟨r,a3⟩,ak,aN⟩:=h;simp only [Option.map_eq_some_iff,Prod.mk.injEq] at aN;obtain ⟨bu,aN,rfl,rfl⟩:=aN;obtain ⟨aL,aQ⟩:=bD.ok ak
   exact ⟨a_.refl _ _,aL,fun B U J S w vs ah aP ae=>CallsIn.mono (aQ B _ [] S w vs (yq ah) (fun b i h=>by obtain ⟨_,_,h⟩:=k3 h;cases h) (ae.pure aD).cm) fun e w' he=>by
     cases e with
     | returned v=>exact (zi ah aN he).cm
     | panicked c=>exact he.elim
     | outgrown=>exact he.elim⟩
  ·simp at h
 ·split at h
  ·rename_i k aD;simp only [Option.bind_eq_some_iff] at h;obtain ⟨⟨r,a3⟩,ak,bu,aN,h⟩:=h;split at h
   ·rename_i pd;simp only [Option.some.injEq,Prod.mk.injEq] at h;obtain ⟨rfl,rfl⟩:=h;obtain ⟨aL,aQ⟩:=bD.ok ak
    exact ⟨a_.refl _ _,aL,fun B U J S w vs ah aP ae=>CallsIn.mono (aQ B _ [] _ w vs (Cp ah) (fun b i h=>by obtain ⟨_,_,h⟩:=k3 h;cases h) ((E' ah ae).pure aD).cm) fun e w' he=>by
     cases e with
     | returned v=>exact (Dw ah aN pd he).cm
     | panicked c=>exact he.elim
     | outgrown=>exact he.elim⟩
   ·simp at h
  ·simp at h
 ·split at h
  ·rename_i k id;split at h
   ·rename_i bF;split at h
    ·rename_i l aE;split at h
     ·rename_i aD;simp only [Option.bind_eq_some_iff] at h;obtain ⟨⟨r,a3⟩,ak,aN⟩:=h;simp only [Option.map_eq_some_iff,Prod.mk.injEq] at aN;obtain ⟨bu,aN,rfl,rfl⟩:=aN;obtain ⟨aL,aQ⟩:=bD.ok ak;refine ⟨a_.set _ _ bF,aL,fun B U J S w vs ah aP ae=>?_⟩;obtain ⟨v0,fT,aR,_⟩:=a7.Dl ae;subst fT;obtain ⟨ay,S',aA,bV,r2⟩:=Br ah aE aR
      have dt:a7 (fun i=>.arg i) ay J S' w [I.bT (l.map I.view)] [v0]:=⟨rfl,fun i u v hu ae=>by
       cases i with
       | zero=>simp at hu ae;subst hu ae;exact r2
       | succ i=>simp at hu,fun i u v hu ae=>by
       cases i with
       | zero=>simp at hu ae;subst hu;exact aV.b3 rfl
       | succ i=>simp at hu⟩
      (have m5:([I.bT (l.map I.view)]).all (cl 8)=true:=by simp [aD]);exact CallsIn.mono (aQ B _ [] S' w _ (yq bV) (fun b i h=>by obtain ⟨_,_,h⟩:=k3 h;cases h) (dt.pure m5).cm) fun e w' he=>by
       cases e with
       | returned v=>exact a0.after (Ext.refl J) aA (zi bV aN he).cm
       | panicked c=>exact he.elim
       | outgrown=>exact he.elim
     ·simp at h
    ·simp at h
   ·simp at h
  ·simp at h
 ·simp only [Option.bind_eq_some_iff] at h;obtain ⟨⟨r,a3⟩,ak,aN⟩:=h;simp only [Option.map_eq_some_iff,Prod.mk.injEq] at aN;obtain ⟨bu,aN,rfl,rfl⟩:=aN;refine ⟨a_.refl _ _,?_⟩;have b0:=(bD.ok ak).mono (r':=bu.cm) (H1:=H) fun B U J S w ah x w' aD=>(pL ah (fun id aE=>(bD.low ak).2 id aE aE) aN aD).cm;cases b1 with
  | fn k=>exact ⟨b0.1,fun B U J S w vs ah aP ae=>b0.2 B U J S w vs ah aP ae.cm⟩
  | yield l=>exact fun B U J S w vs b ah aP ae ag=>b0 B U J S w vs b ah aP ae.cm ag
 ·simp only [Option.bind_eq_some_iff] at h;obtain ⟨⟨r,a3⟩,ak,aN⟩:=h;split at aN
  ·exact frozen ak aN
  ·rename_i id0 oU;split at aN
   ·rename_i l aE;split at aN
    ·rename_i e5;split at aN
     ·rename_i l' bu aq ae;simp only [Option.some.injEq,Prod.mk.injEq] at aN;obtain ⟨rfl,rfl⟩:=aN;exact ⟨a_.append _ _ _,(bD.ok ak).mono fun B U J S w ah x w' aD=>Du ah (fun id aE=>(bD.low ak).2 id aE aE) e5 aE aq ae aD⟩
     ·simp at aN
    ·simp at aN
   ·rename_i es clock aE;split at aN
    ·rename_i e5;split at aN
     ·rename_i l' bu aq ae;simp only [Option.some.injEq,Prod.mk.injEq] at aN;obtain ⟨rfl,rfl⟩:=aN;exact ⟨a_.append _ _ _,(bD.ok ak).mono fun B U J S w ah x w' aD=>Dv ah (fun id aE=>(bD.low ak).2 id aE aE) e5 aE aq ae aD⟩
     ·simp at aN
    ·simp at aN
   ·simp at aN
end
end Go.Proofs.YtfakoboiahbhaaaGreat.Ab


namespace Go.Proofs.YtfakoboiahbhaaaGreat.Ab
open Go
def fY (g:Nat→Option Nat) (U:Nat→Option aG):Nat→Option aG:=fun b=>match U b with
 | some (.arg i)=>(g i).map .arg
 | some (.obj id)=>some (.obj id)
 | some (.cell id j)=>some (.cell id j)
 | _=>none
def fm (dX:Bool) (vs:List I):List I:=match dX with | true=>vs | false=>vs.map I.view
def eA (F:Fence):Prop:=F=Fence.wide∨∃ l,F=Fence.wide.inRound l
section
variable {P:Program} {B N:Nat} {J:List Nat} {w:World} {H:List au} {U:Nat→Option aG} {S:Nat→Nat→Prop}
theorem eA.fn {F:Fence} (h:eA F) (f:FuncId):F.fn f:=by rcases h with rfl | ⟨l,rfl⟩ <;> trivial
theorem eA.depth {F:Fence} (h:eA F):F.depth=none:=by rcases h with rfl | ⟨l,rfl⟩ <;> rfl
theorem eA.calls {F:Fence} (h:eA F) {n:Nat} {f:FuncId} {args:Array Value} {w:World} {R:Ending→World→Prop} (k:CallsIn Fence.wide n P f args w R):CallsIn F n P f args w R:=by
 rcases h with rfl | ⟨l,rfl⟩
 ·exact k
 ·exact CallsIn.inRound l k
theorem eA.rounds {F:Fence} (h:eA F) {n l:Nat} {f:FuncId} {tmps:Array Value} {assign body:Code} {w:World} {R:Ending→World→Prop} (k:RoundIn Fence.wide n P l f tmps assign body w R):RoundIn F n P l f tmps assign body w R:=by
 rcases h with rfl | ⟨l,rfl⟩
 ·exact k
 ·exact k
theorem DI {g:Nat→Option Nat} {b:Nat} (h:U b=none):fY g U b=none:=by simp [fY,h]
theorem DJ {g:Nat→Option Nat} {b:Nat} (h:fY g U b≠none):U b≠none:=fun aT=>h (DI aT)
theorem zz (g:Nat→Option Nat) (U:Nat→Option aG) (S:Nat→Nat→Prop) (w:World):bj U S w (fY g U) S w :=
 ⟨rfl,rfl,rfl,Nat.le_refl _,fun _ _ _=>rfl,fun _ _ h=>⟨h,rfl⟩,fun _ _ h=>.inl h,fun _ h=>.inl (DJ h)⟩
theorem zA (g:Nat→Option Nat) (U:Nat→Option aG):mx (fY g U):=fun b i h=>by
 unfold fY at h;split at h <;> simp at h
theorem yr (ah:aJ B U J S w H) (g:Nat→Option Nat):aJ B (fY g U) J S w H:=by
 refine ⟨ah.cA,fun id o ar=>?_,ah.b',fun b l ag=>?_,ah.cV⟩
 ·refine (ah.obj id o ar).frame (Ext.refl J) (fun _ _ h=>⟨h,rfl⟩) fun b l ag aq=>⟨?_,rfl,fun _ h=>h⟩;rcases aq with rfl | ⟨j,rfl⟩ <;> simp [fY,ag]
 ·cases h:U b with
  | none=>simp [fY,h] at ag
  | some l'=>exact ah.base b l' h
theorem Ds {g:Nat→Option Nat} {i j:Nat} (aK:g i=some j) {u:I} {v:Value} (h:aV U J S w (.arg i) u v):aV (fY g U) J S w (.arg j) u v :=
 h.mono (Ext.refl J) (fun _ _ h=>⟨h,rfl⟩) fun b ag=>⟨by simp [fY,ag,aK],rfl,fun _ h=>h⟩
theorem DE {T:List I} {a:Act} (aM:cz B N U J S w ⟨T,H⟩ a) (ops:List Operand) (ts:List Bool) (dX:Bool) :
  ∃ b5 a5,bj U S w b5 a5 w∧cz B N b5 J a5 w ⟨(rd T ts ops).2,H⟩ a ∧
    a7 (fun i=>.arg i) b5 J a5 w (fm dX (rd T ts ops).1) (ops.map a.eval):=by
 obtain ⟨b5,a5,g,bW,ah,ae⟩:=DF a ops ts T 0 U S aM.T aM.H;simp only [Nat.zero_add] at ae;cases dX with
 | true=>exact ⟨b5,a5,g.aA w,⟨bW,ah,aM.M.aA (g.aA w)⟩,ae⟩
 | false =>
   obtain ⟨bI,aL,aQ,ck,dt⟩:=Eh (rd T ts ops).1 (ops.map a.eval) (fun i=>.arg i) a5 (fun i j h=>by cases h;rfl) (fun i id=>by simp) (fun i id j=>by simp) ae ah;have aA:bj b5 a5 w b5 bI w:=bj.settle aL fun b o h=>(aQ b o h).imp id fun ⟨i,h⟩=>⟨_,h⟩;refine ⟨b5,bI,(g.aA w).trans aA,⟨⟨bW.len,fun i u v hu ae=>(bW.rel i u v hu ae).mono (Ext.refl J) (fun b o h=>⟨aL b o h,rfl⟩),fun i u v hu ae=>?_⟩,ck,(aM.M.aA (g.aA w)).aA aA⟩,dt⟩;refine (bW.own i u v hu ae).mono (Ext.refl J) (fun b o h=>⟨aL b o h,rfl⟩) fun b ag=>⟨ag,rfl,fun o h=>?_⟩;rcases aQ b o h with h | ⟨j,h⟩
   ·exact h
   ·rw [ag] at h;cases h
theorem oq {C:cc} {lo:Nat} {o:Oper} {an:cq} {s aI:a8} (h:Ab.execOp P C lo o an s=some aI) :
  ∃ r H',a6 P C lo o an.mode (fm (dE o) (rd s.T an.cx (opsOf o)).1) s.H=some (r,H') ∧
    aI=⟨put (inPlace o an.mode (rd s.T an.cx (opsOf o)).2 r) o.dst r,H'⟩:=by
 unfold Ab.execOp at h;simp only [Option.map_eq_some_iff] at h;obtain ⟨⟨r,H'⟩,h,rfl⟩:=h;exact ⟨r,H',h,rfl⟩
theorem De {C:cc} {lo mode:Nat} {o:Oper} {us:List I} {r:I} {H':List au} {t:Nat} (hm:mode≠0) (B5:mode≠4) (ar:o.op=.move (.tmp t)∨o.op=.assign (.tmp t))
  (h:a6 P C lo o mode us H=some (r,H')) {U:Nat→Option aG} {J:List Nat} {S:Nat→Nat→Prop} {w:World} {l:aG} {v:Value} (aj:Rel J S w r v) (hw:aV U J S w l r v):Rel J S w r.view v:=by
 by_cases hu:r.cP=true
 ·exact aj.view hu
 ·obtain ⟨cells,len,z,rfl⟩:∃ cells len z,r=.ax cells len (.uniq z):=by
   unfold I.cP at hu;split at hu
   ·exact ⟨_,_,_,rfl⟩
   ·simp at hu
  have aT:len=0:=by
   (have a4:eK P lo mode o.type (.tmp t) H us=some (.ax cells len (.uniq z),H'):=by rcases ar with ar | ar <;> simpa only [a6,ar] using h);unfold eK at a4;split at a4
   ·split at a4
    ·exact absurd rfl hm
    ·split at a4
     ·split at a4
      ·rename_i bn;cases a4;exact bn
      ·cases a4
     ·cases a4
     ·cases a4
     ·simp at a4
    ·exact absurd rfl B5
    ·split at a4
     ·split at a4
      ·simp only [Option.bind_eq_some_iff,Option.map_eq_some_iff,Prod.mk.injEq] at a4;obtain ⟨row,cO,n,aP,ad,af⟩:=a4;have:=congrArg (fun x=>match x with | I.ax _ _ c=>c | _=>.shared) ad;exact absurd this (x1 z)
      ·simp at a4
     ·split at a4
      ·split at a4
       ·split at a4
        ·cases a4
        ·cases a4
       ·cases a4
      ·cases a4
     ·simp only [Option.some.injEq,Prod.mk.injEq] at a4;have:=a4.1 ▸ I.c_ _;cases this
   ·simp at a4
  subst aT;have ak:cells=[]:=by
   cases aj with
   | b2 c a=>rfl
   | ax _ _ _ b o cap f ak hle b8 k eG=>exact absurd rfl (b8 z)
   | cH _ _ z b o cap =>
     rcases hw with ⟨_,_,h⟩ | ⟨_,_,_,_,_,h,_⟩
     ·exact h
     ·exact List.length_eq_zero_iff.1 (by simpa using h)
  subst ak;cases aj with
  | b2 c a=>exact .b2 _ _
  | ax _ _ _ b o cap f ak hle b8 k eG=>exact absurd rfl (b8 z)
  | cH _ _ z b o cap=>exact .ax [] 0 .shared b o cap (fun _=>undef) (by simp) (Nat.zero_le _) (by simp) (by simp) (by simp)
theorem yV {lo id:Nat} {H H':List au} {f:List I→Option (List I)} (h:g4 lo H id f=some H'):a_ lo H H':=by
 unfold g4 at h;split at h
 ·rename_i bF;split at h
  ·simp only [Option.map_eq_some_iff] at h;obtain ⟨l',_,rfl⟩:=h;exact a_.set _ _ bF
  ·simp at h
 ·simp at h
theorem CY {lo:Nat} {t:TypeId} {us:List I} {r:I} {H':List au} (h:iN P lo t H us=some (r,H')):a_ lo H H':=by
 unfold iN at h;split at h
 ·split at h
  ·split at h
   ·split at h
    ·rename_i bF;split at h
     ·split at h
      ·cases h;exact a_.set _ _ bF
      ·cases h;exact a_.set _ _ bF
      ·cases h
     ·cases h
    ·cases h
   ·cases h
  ·cases h
 ·cases h
theorem CW {lo:Nat} {ts:Array TypeId} {us:List I} {r:I} {H':List au} (h:hr P lo ts H us=some (r,H')):a_ lo H H':=by
 unfold hr at h;split at h
 ·split at h
  ·split at h
   ·split at h
    ·rename_i bF;split at h
     ·split at h
      ·cases h;exact a_.set _ _ bF
      ·cases h;exact a_.refl _ _
      ·cases h
     ·cases h
    ·cases h
   ·cases h
  ·cases h
 ·cases h
theorem Ec {t:TypeId} {ok:Bool} {us:List I} {r:I} {H':List au} (h:h0 P t ok H us=some (r,H')):H'=H:=by
 unfold h0 at h;split at h
 ·split at h
  ·split at h
   ·split at h
    ·simp only [Option.map_eq_some_iff,Prod.mk.injEq] at h;obtain ⟨_,_,_,rfl⟩:=h;rfl
    ·cases h
   ·cases h
  ·cases h
 ·cases h
theorem Eb {us:List I} {r:I} {H':List au} (h:kC H us=some (r,H')):H'=H:=by
 unfold kC at h;split at h
 ·split at h
  ·split at h
   ·split at h
    ·split at h
     ·cases h;rfl
     ·cases h
    ·cases h
   ·cases h
  ·cases h
 ·cases h
theorem yW {lo id:Nat} {H H':List au} {f:List I→Option (List I)} (h:g5 lo H id f=some H'):a_ lo H H':=by
 unfold g5 at h;split at h
 ·rename_i bF;split at h
  ·simp only [Option.map_eq_some_iff] at h;obtain ⟨l',_,rfl⟩:=h;exact a_.set _ _ bF
  ·simp only [Option.map_eq_some_iff] at h;obtain ⟨l',_,rfl⟩:=h;exact a_.set _ _ bF
  ·simp at h
 ·simp at h
theorem CV {lo:Nat} {ts:Array TypeId} {us:List I} {r:I} {H':List au} (h:hZ P lo ts H us=some (r,H')):a_ lo H H':=by
 unfold hZ at h;split at h
 ·split at h
  ·split at h
   ·split at h
    ·split at h
     ·cases h
     ·cases h;exact a_.append _ _ _
    ·cases h
   ·split at h
    ·rename_i bF;split at h
     ·split at h
      ·split at h
       ·cases h;exact (a_.set _ _ bF).trans (a_.append _ _ _)
       ·cases h
      ·cases h
     ·cases h
    ·cases h
   ·cases h
  ·cases h
 ·cases h
theorem CU {lo:Nat} {ts:Array TypeId} {us:List I} {r:I} {H':List au} (h:iM P lo ts H us=some (r,H')):a_ lo H H':=by
 refine a_.trans ?_ (CV h);unfold iR;split
 ·split
  ·split
   ·rename_i ak;simp only [Bool.and_eq_true] at ak;exact a_.set _ _ (Nat.le_of_ble_eq_true ak.2)
   ·exact a_.refl _ _
  ·exact a_.refl _ _
 ·exact a_.refl _ _
theorem CZ {lo:Nat} {t:TypeId} {us:List I} {r:I} {H':List au} (h:kE P t H us=some (r,H')):a_ lo H H':=by
 unfold kE at h;split at h
 ·split at h
  ·cases h;exact a_.append _ _ _
  ·cases h
 ·cases h
theorem CX {lo:Nat} {t:TypeId} {x:Option Operand} {r:I} {H':List au} (h:kD P t x H=some (r,H')):a_ lo H H':=by
 unfold kD at h;split at h
 ·cases h;exact a_.append _ _ _
 ·cases h
theorem yU {lo:Nat} {b:Builtin} {ts:Array TypeId} {us:List I} {r:I} {H':List au} (h:en P lo b ts H us=some (r,H')):a_ lo H H':=by
 have same:∀ {x:Option I},x.map (·,H)=some (r,H')→a_ lo H H':=fun h=>by
  simp only [Option.map_eq_some_iff,Prod.mk.injEq] at h;obtain ⟨_,_,_,rfl⟩:=h;exact a_.refl _ _
 unfold en at h;split at h
 ·unfold iL at h;split at h
  ·split at h
   ·exact same h
   ·simp at h
  ·simp at h
 ·unfold g8 at h;split at h
  ·split at h
   ·split at h <;> simp at h;obtain ⟨_,rfl⟩:=h;exact a_.refl _ _
   ·split at h <;> simp at h;obtain ⟨_,rfl⟩:=h;exact a_.refl _ _
   ·split at h <;> simp at h;obtain ⟨_,rfl⟩:=h;exact a_.refl _ _
   ·split at h <;> simp at h;obtain ⟨_,rfl⟩:=h;exact a_.refl _ _
  ·simp at h
 ·unfold jG at h;split at h
  ·split at h <;> simp at h;obtain ⟨_,rfl⟩:=h;exact a_.refl _ _
  ·split at h <;> simp at h;obtain ⟨_,rfl⟩:=h;exact a_.refl _ _
  ·simp at h
 ·unfold jH at h;split at h
  ·split at h
   ·split at h
    ·split at h
     ·simp only [Option.map_eq_some_iff,Prod.mk.injEq] at h;obtain ⟨H1,h,_,rfl⟩:=h;exact yV h
     ·simp at h
    ·simp at h
   ·simp at h
  ·simp at h
 ·unfold kB at h;split at h
  ·split at h
   ·split at h
    ·split at h
     ·simp only [Option.map_eq_some_iff,Prod.mk.injEq] at h;obtain ⟨H1,h,_,rfl⟩:=h;exact yW h
     ·simp at h
    ·simp at h
   ·simp at h
  ·split at h <;> simp at h;obtain ⟨_,rfl⟩:=h;exact a_.refl _ _
  ·simp at h
 ·exact CW h
 ·exact same h
 ·exact same h
 ·simp at h
theorem Dq {C:cc} (bD:dn P C) {lo mode:Nat} {o:Oper} {us:List I} {r:I} {H':List au} (h:a6 P C lo o mode us H=some (r,H')):a_ lo H H':=by
 have same:∀ {x:Option I},x.map (·,H)=some (r,H')→a_ lo H H':=fun h=>by
  simp only [Option.map_eq_some_iff,Prod.mk.injEq] at h;obtain ⟨_,_,_,rfl⟩:=h;exact a_.refl _ _
 have lE:∀ {t:TypeId} {x:Operand},eK P lo mode t x H us=some (r,H')→a_ lo H H':=fun h=>by
  unfold eK at h;split at h
  ·split at h
   ·split at h
    ·simp only [Option.map_eq_some_iff,Prod.mk.injEq] at h;obtain ⟨_,_,_,rfl⟩:=h;exact a_.refl _ _
    ·cases h;exact a_.refl _ _
   ·split at h
    ·split at h
     ·cases h;exact a_.refl _ _
     ·cases h;exact a_.append _ _ _
    ·cases h;exact a_.refl _ _
    ·cases h;exact a_.refl _ _
    ·simp at h
   ·split at h
    ·split at h
     ·rename_i bF;split at h
      ·split at h
       ·cases h;exact a_.set _ _ bF
       ·cases h
      ·cases h
     ·cases h
    ·cases h;exact a_.refl _ _
   ·split at h
    ·split at h
     ·rename_i bF;simp only [Option.bind_eq_some_iff,Option.map_eq_some_iff,Prod.mk.injEq] at h;obtain ⟨_,_,_,_,_,rfl⟩:=h;exact a_.set _ _ bF
     ·simp at h
    ·split at h
     ·rename_i bF;split at h
      ·split at h
       ·cases h;exact a_.set _ _ bF
       ·cases h
      ·cases h
     ·cases h
    ·cases h;exact a_.refl _ _
  ·simp at h
 unfold a6 at h;split at h
 ·exact lE h
 ·exact lE h
 ·unfold dF at h;split at h
  ·split at h
   ·exact same h
   ·split at h
    ·exact same h
    ·simp at h
   ·split at h
    ·split at h
     ·split at h
      ·cases h;exact a_.refl _ _
      ·cases h;exact a_.refl _ _
      ·simp at h
     ·simp at h
    ·simp at h
   ·split at h
    ·split at h
     ·rename_i bF;split at h
      ·split at h
       ·cases h;exact a_.set _ _ bF
       ·split at h
        ·split at h
         ·simp at h
         ·cases h;exact (a_.set _ _ bF).trans (a_.append _ _ _)
        ·cases h;exact a_.set _ _ bF
       ·cases h;exact a_.refl _ _
       ·simp at h
      ·split at h
       ·cases h;exact a_.set _ _ bF
       ·cases h;exact a_.refl _ _
       ·simp at h
      ·simp at h
     ·simp at h
    ·simp at h
  ·simp at h
 ·unfold hs at h;split at h
  ·split at h
   ·simp only [Option.map_eq_some_iff,Prod.mk.injEq] at h;obtain ⟨H1,h,_,rfl⟩:=h;unfold ig at h;split at h
    ·split at h
     ·exact yW h
     ·simp at h
    ·simp at h
   ·simp only [Option.map_eq_some_iff,Prod.mk.injEq] at h;obtain ⟨H1,h,_,rfl⟩:=h;unfold k0 at h;split at h
    ·split at h
     ·exact yV h
     ·simp at h
    ·simp at h
  ·simp at h
 ·unfold gF at h;split at h
  ·split at h
   ·simp only [Option.map_eq_some_iff,Prod.mk.injEq] at h;obtain ⟨_,_,_,rfl⟩:=h;exact a_.append _ _ _
   ·split at h
    ·split at h
     ·cases h;exact a_.refl _ _
     ·cases h
    ·cases h
  ·simp at h
 ·unfold kA at h;split at h
  ·simp only [Option.map_eq_some_iff,Prod.mk.injEq] at h;obtain ⟨_,_,_,rfl⟩:=h;exact a_.append _ _ _
  ·split at h
   ·simp only [Option.map_eq_some_iff,Prod.mk.injEq] at h;obtain ⟨_,_,_,rfl⟩:=h;exact a_.append _ _ _
   ·cases h
 ·split at h
  ·exact same h
  ·simp only [Option.map_eq_some_iff,Prod.mk.injEq] at h;obtain ⟨_,_,_,rfl⟩:=h;exact a_.refl _ _
 ·unfold jI at h;split at h
  ·split at h
   ·split at h
    ·simp only [Option.map_eq_some_iff,Prod.mk.injEq] at h;obtain ⟨_,_,_,rfl⟩:=h;exact a_.append _ _ _
    ·split at h
     ·simp only [Option.map_eq_some_iff,Prod.mk.injEq] at h;obtain ⟨_,_,_,rfl⟩:=h;exact a_.refl _ _
     ·simp at h
   ·simp at h
  ·simp at h
 ·exact CX h
 ·exact CY h
 ·rw [Ec h];exact a_.refl _ _
 ·exact CZ h
 ·rw [Eb h];exact a_.refl _ _
 ·split at h
  ·split at h
   ·split at h
    ·exact yU h
    ·exact CU h
   ·exact yU h
  ·unfold hq at h;split at h
   ·unfold j5 at h;split at h
    ·exact (mF bD h).1
    ·exact (mF bD h).1
    ·simp at h
   ·simp at h
  ·simp at h
 ·exact same h
end
end Go.Proofs.YtfakoboiahbhaaaGreat.Ab


namespace Go.Proofs.YtfakoboiahbhaaaGreat.Ab
open Go
section
variable {P:Program} {B N:Nat} {J:List Nat} {w:World} {H:List au} {U:Nat→Option aG} {S:Nat→Nat→Prop}
theorem z2 {k : Nat} {f : Func} (aN : P.funcs[k]? = some f) (ag : f.body.isSome = true) (aP : f.name ≠ "runtime.NumGoroutine") (args : Array Value) (w : World) :
  (callFunc k args).run P w=.ok (.enter k args) w:=by
 have bq:f.body≠none:=fun h=>by simp [h] at ag
 simp [callFunc,aN,bq,aP]
theorem Az {first us cap:List I} {vs ws xs:List Value} (aN:first.length=vs.length) (bP:∀ u∈first,u.plain=true) (aR:∀ (j:Nat) (u:I) (v:Value),first[j]?=some u→vs[j]?=some v→Rel J S w u v)
  (ak:cap.length=ws.length) (b4:∀ u∈cap,u.plain=true) (r2:∀ (j:Nat) (u:I) (v:Value),cap[j]?=some u→ws[j]?=some v→Rel J S w u v)
  (ae:a7 (fun i=>.arg (i+1)) U J S w us xs) :
  a7 (fun i=>.arg i) (fY (fun i=>match i with | 0=>none | j+1=>some (first.length+j)) U) J S w (first++us++cap) (vs++xs++ws):=by
 have aq:=ae.len;have key:∀ (i:Nat) (u:I) (v:Value),(first++us++cap)[i]?=some u→(vs++xs++ws)[i]?=some v →
   Rel J S w u v∧aV (fY (fun i=>match i with | 0=>none | j+1=>some (first.length+j)) U) J S w (.arg i) u v:=fun i u v hu al=>by
  rcases Nat.lt_or_ge i first.length with ad | ad
  ·rw [List.append_assoc,List.getElem?_append_left ad] at hu;rw [List.append_assoc,List.getElem?_append_left (by omega)] at al;exact ⟨aR i u v hu al,aV.b3 (bP u (List.mem_of_getElem? hu))⟩
  ·rw [List.append_assoc,List.getElem?_append_right ad] at hu;rw [List.append_assoc,List.getElem?_append_right (by omega),←aN] at al;rcases Nat.lt_or_ge (i-first.length) us.length with af | af
   ·rw [List.getElem?_append_left af] at hu;rw [List.getElem?_append_left (by omega)] at al;refine ⟨ae.rel _ u v hu al,Ds ?_ (ae.own _ u v hu al)⟩;show some (first.length+(i-first.length))=some i;congr 1;omega
   ·rw [List.getElem?_append_right af] at hu;rw [List.getElem?_append_right (by omega),←aq] at al;exact ⟨r2 _ u v hu al,aV.b3 (b4 u (List.mem_of_getElem? hu))⟩
 exact ⟨by simp [aN,ak,aq],fun i u v hu al=>(key i u v hu al).1,fun i u v hu al=>(key i u v hu al).2⟩
theorem xk {F:Fence} (bG:eA F) {C:cc} (bD:dn P C) {lo:Nat} {o:Oper} {an:cq} {s aI:a8} (h:Ab.execOp P C lo o an s=some aI) {a:Act} (aM:cz B N U J S w s a)
  {K:Act→World→Prop} {Q:Exit→Act→World→Prop} (gw:∀ aO w',Step B N U J S w aI aO w'→K aO w'):o.wpIn F 0 P a w K Q:=by
 obtain ⟨r,H',aC,rfl⟩:=oq h;obtain ⟨b5,a5,mK,cb,ae⟩:=DE (H:=s.H) aM (opsOf o) an.cx (dE o);generalize yx:fm (dE o) (rd s.T an.cx (opsOf o)).1=us at aC ae;have eF:∀ v,a.eval (.const v)=v:=fun _=>rfl;have lF:∀ c,o.op≠.defer c:=fun c ak=>by simp [a6,ak,cv] at aC
 have mV:∀ v w',(∀ t,o.op=.move (.tmp t)∨o.op=.assign (.tmp t)→v=a.eval (.tmp t))→a0 B (db b5) J a5 w H' r v w'→K (a.put o.dst v) w':=fun v w' dV aD=>by
  refine gw _ _ (Step.trans (Ext.refl J) mK ?_);by_cases hm:an.mode=0∨an.mode=4
  ·obtain ⟨ay,bZ,S',aL,aQ,gV,_⟩:=nw o.dst cb aD .junk (fun _ _ _ _ _=>.junk _);(have gY:inPlace o an.mode (rd s.T an.cx (opsOf o)).2 r=(rd s.T an.cx (opsOf o)).2:=by rcases hm with hm | hm <;> simp [inPlace,hm]);rw [gY];exact ⟨ay,bZ,S',aL,aQ,gV⟩
  ·by_cases aw:∃ t,o.op=.move (.tmp t)∨o.op=.assign (.tmp t)
   ·obtain ⟨t,aw⟩:=aw;have gY:inPlace o an.mode (rd s.T an.cx (opsOf o)).2 r=gK (rd s.T an.cx (opsOf o)).2 t r.view:=by
     unfold inPlace;split
     ·rename_i o7;exact absurd (.inl o7) hm
     ·rename_i o7;exact absurd (.inr o7) hm
     ·rcases aw with aw | aw <;> simp [aw]
    have yy:∀ x,a.tmps.toList[t]?=some x→x=a.eval (.tmp t):=fun x al=>by
     (have na:a.tmps[t]?=some x:=by simpa using al);simp [Act.eval,na,Array.getD_eq_getD_getElem?]
    have yo:v=a.eval (.tmp t):=dV t aw;obtain ⟨ay,bZ,S',aL,aQ,gV,m_⟩:=nw o.dst cb aD r.view (fun bo ca bI aW aX=>De (fun e=>hm (.inl e)) (fun e=>hm (.inr e)) aw aC aW aX);refine ⟨ay,bZ,S',aL,aQ,?_,gV.H,gV.M⟩;rw [gY];have bW:=gV.T;simp only at bW;cases a2:o.dst with
    | none =>
      simp only [a2,put,Act.put,gL] at bW ⊢;exact bW.swap t (I.c_ _) fun x al=>by rw [yy x al,←yo];exact m_
    | some d =>
      simp only [a2,put,Act.put,gL] at bW ⊢;by_cases pg:t=d
      ·subst pg;rw [List.set_set];exact bW
      ·rw [List.set_comm _ _ pg];refine bW.swap t (I.c_ _) fun x al=>?_;rw [Array.toList_setIfInBounds,List.getElem?_set_ne (Ne.symm pg)] at al;rw [yy x al,←yo];exact m_
   ·have gY:inPlace o an.mode (rd s.T an.cx (opsOf o)).2 r=(rd s.T an.cx (opsOf o)).2:=by
     unfold inPlace;split
     ·rfl
     ·rfl
     ·split
      ·rename_i h;exact absurd ⟨_,.inl h⟩ aw
      ·rename_i h;exact absurd ⟨_,.inr h⟩ aw
      ·rfl
    rw [gY];obtain ⟨ay,bZ,S',aL,aQ,gV,_⟩:=nw o.dst cb aD .junk (fun _ _ _ _ _=>.junk _);exact ⟨ay,bZ,S',aL,aQ,gV⟩
 refine ⟨fun f _=>bG.fn f,?_⟩;rw [Oper.semAt_eq _ _ _ lF];by_cases e4:∃ c f,o.op=.call c∧c.callee=.value f
 ·obtain ⟨c,f,kh,hP⟩:=e4;have he:opsOf o=f::c.args.toList:=by
   obtain ⟨A9,args,A4⟩:=c;simp only at hP;subst hP;simp only [opsOf,kh]
  rw [he] at ae;simp only [a6,kh,hP] at aC;have fA:=lJ cb.H;have fT:=AA ae
  match us,aC,fT with
  | [],aC,_=>simp [hq] at aC
  | E5::F3,aC,fT =>
    simp only [hq] at aC;have nE:=fT.rel 0 E5 (a.eval f) rfl rfl;have yz:=fT.tail;unfold j5 at aC;split at aC
    ·(rename_i k first cap);generalize ke:a.eval f=E8 at nE;cases nE with
     | func _ _ _ vs ws aL aQ bP b4 aR r2 =>
       obtain ⟨_,⟨fn,BO,ka,B'⟩,oP⟩:=mF bD aC;have m':=Az (U:=db b5) (J:=J) (S:=a5) (w:=w) (first:=first) (cap:=cap) (vs:=vs.toList) (ws:=ws.toList) (by simp [aL]) bP (fun j u v hu al=>aR j u v hu (by simpa using al)) (by simp [aQ]) b4 (fun j u v hu al=>r2 j u v hu (by simpa using al)) yz;have ak:=oP B _ J a5 w _ (yr fA _) (zA _ _) m';have kj:(resolve a.eval c o.type).run P w=.ok { target:=.fn (.func k) ws,args:=vs++c.args.map a.eval } w:=by
        simp [resolve,hP,ke,Deferred.ofValue]
       have dT:(Go.execOp a.eval o).run P w=.ok (.enter k (vs++c.args.map a.eval++ws)) w:=by
        simp only [Go.execOp,kh,Sem.run_bind,kj,Result.andThen_ok,invoke,z2 BO ka B']
       rw [dT];have hk:(vs.toList++List.map a.eval c.args.toList++ws.toList).toArray=vs++c.args.map a.eval++ws:=by
        apply Array.ext';simp
       rw [hk] at ak;refine ⟨fun iy=>(by rw [bG.depth] at iy;cases iy),bG.calls (CallsIn.mono ak fun e w' he=>?_)⟩;cases e with
       | returned v=>exact mV v w' (fun t aw=>by rcases aw with aw | aw <;> rw [kh] at aw <;> cases aw) (a0.after (Ext.refl J) (zz _ _ _ _) he)
       | panicked c=>exact he.elim
       | outgrown=>exact he.elim
    ·rename_i l;generalize ke:a.eval f=E8 at nE;cases nE with
     | yield _ b ag =>
       obtain ⟨_,oP⟩:=mF bD aC;have m':=Az (U:=db b5) (J:=J) (S:=a5) (w:=w) (first:=[]) (cap:=[]) (vs:=[]) (ws:=[]) rfl (by simp) (by simp) rfl (by simp) (by simp) yz;simp only [List.nil_append,List.append_nil] at m';obtain ⟨L,ad,af,aH⟩:=oP B _ J a5 w _ b (yr fA _) (zA _ _) m' ag;have kj:(resolve a.eval c o.type).run P w=.ok { target:=.fn (.yield b) #[],args:=c.args.map a.eval } w:=by
        simp [resolve,hP,ke,Deferred.ofValue]
       (have bR:(c.args.map a.eval).size=L.params.size:=by rw [←af];simp);have dT:(Go.execOp a.eval o).run P w=.ok (.round b L.fn (hx L (List.map a.eval c.args.toList)) L.assign L.body) w:=by
        simp only [Go.execOp,kh,Sem.run_bind,kj,Result.andThen_ok,invoke]
        have:(List.map a.eval c.args.toList).toArray=c.args.map a.eval:=by apply Array.ext';simp
        simp [Instr.yield,run_getLoop ad,bR,hx,this]
       rw [dT];refine ⟨fun iy=>(by rw [bG.depth] at iy;cases iy),bG.rounds (RoundIn.mono aH fun e w' he=>?_)⟩;cases e with
       | returned v=>exact mV v w' (fun t aw=>by rcases aw with aw | aw <;> rw [kh] at aw <;> cases aw) (a0.after (Ext.refl J) (zz _ _ _ _) he)
       | panicked c=>exact he.elim
       | outgrown=>exact he.elim
    ·simp at aC
 ·have iA:∀ c f,o.op=.call c→c.callee≠.value f:=fun c f ad af=>e4 ⟨c,f,ad,af⟩;have aD:dE o=false→∀ u∈us,u.plain=true:=fun aq u hu=>by
   rw [aq] at yx;subst yx;obtain ⟨x,_,rfl⟩:=List.mem_map.1 hu;exact I.c_ x
  rcases EM eF (lJ cb.H) aC iA aD (AA ae) with ⟨v,w',ad,af⟩ | ⟨w',ad,af⟩
  ·rw [ad];exact mV v w' (fun t aw=>by rcases aw with aw | aw <;> simp [Go.execOp,aw] at ad <;> exact ad.1.symm) af
  ·rw [ad];exact mV undef w' (fun t aw=>by rcases aw with aw | aw <;> simp [Go.execOp,aw] at ad) af
end
end Go.Proofs.YtfakoboiahbhaaaGreat.Ab


namespace Go.Proofs.YtfakoboiahbhaaaGreat.Ab
open Go
section
variable {P:Program} {B N:Nat} {J:List Nat} {w:World} {H:List au} {U:Nat→Option aG} {S:Nat→Nat→Prop}
theorem cz.c1 {s:a8} {a:Act} (aM:cz B N U J S w s a) (t:Nat):Rel J S w (c1 s.T t) (a.tmps.getD t undef):=by
 rw [fR,List.getD_eq_getElem?_getD];cases h:s.T[t]? with
 | none=>exact .junk _
 | some u =>
   have aq:=aM.T.len;have aY:t<s.T.length:=(List.getElem?_eq_some_iff.1 h).1;(have lD:t<a.tmps.size:=by rw [←Array.length_toList,←aq];exact aY);(have al:a.tmps.toList[t]?=some (a.tmps.getD t undef):=by simp [Array.getD_eq_getD_getElem?,lD]);exact aM.T.rel t u _ h al
theorem cz.aA {s:a8} {a:Act} (aM:cz B N U J S w s a) (x:Operand):Rel J S w (aA s.T x) (a.eval x):=by
 cases x with
 | tmp t=>exact aM.c1 t
 | const v=>exact k1 J S w v
 | global g=>exact .junk _
 | func f=>exact .func f [] [] #[] #[] rfl rfl (by simp) (by simp) (by simp) (by simp)
theorem kQ {ops:Array Oper} {o:Oper} {s:a8} {a:Act} (aM:cz B N U J S w s a) {x:Bool} (h:eo ops o s.T=some x):Region.wanted o (yielded ops a.tmps)=x:=by
 unfold eo at h;unfold Region.wanted;split at h
 ·rename_i aK;rw [aK];simpa using h
 ·rename_i j want aK;rw [aK];split at h
  ·rename_i d a2;split at h
   ·rename_i b ag;have aj:=aM.c1 d;rw [ag] at aj;have:=aj.hM;simp only [Option.some.injEq] at h;subst h;have aY:a.tmps[d]?=some (.bool b):=by
     rw [Array.getD_eq_getD_getElem?] at this;cases h:a.tmps[d]? with
     | none=>rw [h] at this;simp [undef] at this
     | some v=>rw [h] at this;simpa using this
    simp [yielded,a2,aY]
   ·rename_i ag;have aj:=aM.c1 d;rw [ag] at aj;simp only [Option.some.injEq] at h;subst h;have aP:yielded ops a.tmps j=none:=by
     unfold yielded;rw [a2,Option.bind_some];cases h:a.tmps[d]? with
     | none=>rfl
     | some v =>
       rw [Array.getD_eq_getD_getElem?,h] at aj;simp only [Option.getD_some] at aj;cases aj;rfl
    simp [aP]
   ·simp at h
  ·simp at h
theorem cz.skip {T:List I} {a:Act} (aM:cz B N U J S w ⟨T,H⟩ a) (d:Option Tmp):cz B N U J S w ⟨put T d (.tuple []),H⟩ (a.put d undef):=by
 cases d with
 | none=>exact aM
 | some d =>
   refine ⟨?_,aM.H,aM.M⟩;have bW:=aM.T;simp only [put,gL,Act.put] at bW ⊢;have key:∀ (i:Nat) (u:I) (x:Value),(T.set d (.tuple []))[i]?=some u→(a.tmps.toList.set d undef)[i]?=some x→Rel J S w u x∧aV U J S w (.slot i) u x:=fun i u x hu al=>by
    by_cases aE:d=i
    ·subst aE;(have aY:d<T.length:=by have:=(List.getElem?_eq_some_iff.1 hu).1;simpa using this);rw [List.getElem?_set_self aY] at hu;cases hu;rw [List.getElem?_set_self (by have:=(List.getElem?_eq_some_iff.1 al).1;simpa using this)] at al;cases al;exact ⟨.tuple _ _ rfl (by simp) (by simp),aV.b3 rfl⟩
    ·rw [List.getElem?_set_ne aE] at hu al;exact ⟨bW.rel i u x hu al,bW.own i u x hu al⟩
   refine ⟨by simpa using bW.len,fun i u x hu al=>?_,fun i u x hu al=>?_⟩
   ·rw [Array.toList_setIfInBounds] at al;exact (key i u x hu al).1
   ·rw [Array.toList_setIfInBounds] at al;exact (key i u x hu al).2
theorem xu:∀ (k:List Bool) (T:List I) (i:Nat),(eL k T)[i]?=T[i]?∨(eL k T)[i]?=(T[i]?).map fun _=>.junk
 | [],T,i=>.inl (by simp [eL])
 | b::bs,[],i=>.inl (by simp [eL])
 | b::bs,v::vs,i=>by
   cases i with
   | zero=>cases b <;> simp [eL]
   | succ i=>simpa [eL] using xu bs vs i
theorem AK:∀ (k:List Bool) (T:List I),(eL k T).length=T.length
 | [],T=>by simp [eL]
 | b::bs,[]=>by simp [eL]
 | b::bs,v::vs=>by simp [eL,AK bs vs]
theorem cz.cG {s:a8} {a:Act} (aM:cz B N U J S w s a) (lY:List (Nat×List Bool)) (id:Nat):cz B N U J S w (eS lY id s) a:=by
 unfold eS;split
 ·rename_i k _;refine ⟨⟨by rw [AK];exact aM.T.len,fun i u x hu al=>?_,fun i u x hu al=>?_⟩,aM.H,aM.M⟩
  all_goals simp only at hu
  ·rcases xu k s.T i with h | h
   ·rw [h] at hu;exact aM.T.rel i u x hu al
   ·rw [h] at hu;simp only [Option.map_eq_some_iff] at hu;obtain ⟨_,_,rfl⟩:=hu;exact .junk _
  ·rcases xu k s.T i with h | h
   ·rw [h] at hu;exact aM.T.own i u x hu al
   ·rw [h] at hu;simp only [Option.map_eq_some_iff] at hu;obtain ⟨_,_,rfl⟩:=hu;exact aV.b3 rfl
 ·exact aM
theorem Step.here {s:a8} {a:Act} (aM:cz B N U J S w s a):Step B N U J S w s a w:=⟨U,J,S,Ext.refl J,bj.refl U S w,aM⟩
theorem pC {F:Fence} (bG:eA F) {C:cc} (bD:dn P C) {lo:Nat} {ops:Array Oper} {aI:a8} {Q:Exit→Act→World→Prop} :
  ∀ (rest:List Oper) (as:List cq) (s:a8) (a:Act) (w:World) (U:Nat→Option aG) (J:List Nat) (S:Nat→Nat→Prop),eC P C lo ops rest as s=some aI→cz B N U J S w s a →
    (∀ aO w',Step B N U J S w aI aO w'→Q .normal aO w')→wpListIn F 0 P ops Q rest a w
 | [],as,s,a,w,U,J,S,h,aM,bz=>by
   simp only [eC,Option.some.injEq] at h;subst h;exact bz a w (Step.here aM)
 | o::rest,as,s,a,w,U,J,S,h,aM,bz=>by
   simp only [eC] at h;unfold wpListIn;split at h
   ·rename_i hw;rw [kQ aM hw];simp only [if_true];simp only [Option.bind_eq_some_iff] at h;obtain ⟨s1,ad,af⟩:=h;refine xk bG bD ad aM fun aO w' ai=>?_;obtain ⟨b5,cT,a5,aL,aQ,cb⟩:=ai;exact pC bG bD rest as.tail s1 aO w' b5 cT a5 af cb fun hJ h7 dU=>bz hJ h7 (dU.trans aL aQ)
   ·rename_i hw;rw [kQ aM hw];simp only [Bool.false_eq_true,if_false];exact ⟨fun f _=>bG.fn f,pC bG bD rest as.tail _ _ w U J S h (aM.skip o.dst) bz⟩
   ·simp at h
end
end Go.Proofs.YtfakoboiahbhaaaGreat.Ab


namespace Go.Proofs.YtfakoboiahbhaaaGreat.Ab
open Go
theorem k9 {xs ys:List Nat} (h:jj xs ys=true) (x:Nat) (al:x∈xs):x ∉ ys:=by
 simp only [jj,List.all_eq_true] at h;have:=h x al;simpa using this
theorem xh (u:I):u.settle.settle=u.settle:=by
 cases u <;> try rfl
 rename_i c n k;cases k <;> rfl
theorem xo (u:I):u.settle.view=u.view:=by
 cases u <;> try rfl
 rename_i c n k;cases k <;> rfl
theorem mm (T:List I) (t j:Nat):(fL T t (c1 T t))[j]?=if t=j then (T[j]?).map I.settle else T[j]?:=by
 have aK:c1 T t=T.getD t .junk:=fR T t;by_cases gZ:t=j
 ·subst gZ;simp only [if_true];cases h:T[t]? with
  | none =>
    (have az:c1 T t=.junk:=by rw [aK,List.getD_eq_getElem?_getD,h];rfl);rw [az];simp [fL,h]
  | some u =>
    (have az:c1 T t=u:=by rw [aK,List.getD_eq_getElem?_getD,h];rfl);have aY:=(List.getElem?_eq_some_iff.1 h).1;rw [az];(cases u <;> try (simp [fL,h,I.settle];done));rename_i c n k;cases k <;> simp only [fL,h,I.settle,gL,Option.map_some] <;> rw [List.getElem?_set_self aY]
 ·simp only [gZ,if_false];unfold fL;split
  ·rw [gL,List.getElem?_set_ne gZ]
  ·rfl
theorem kM (T:List I) (t j:Nat) (v:I):(gK T t v)[j]?=if t=j then (T[j]?).map fun _=>v else T[j]?:=by
 rw [gL];by_cases h:t=j
 ·subst h;simp only [if_true];rcases Nat.lt_or_ge t T.length with aq | aq
  ·rw [List.getElem?_set_self aq,List.getElem?_eq_getElem aq];rfl
  ·rw [List.getElem?_eq_none (by simpa using aq),List.getElem?_eq_none aq];rfl
 ·rw [List.getElem?_set_ne h];simp [h]
theorem jM:∀ (xs:List Operand) (ts:List Bool) (T:List I) (j:Nat),
  ((rd T ts xs).2)[j]?=(T[j]?).map fun u=>if j∈cX ts xs then .junk else if j∈tmpsOf xs then u.settle else u
 | [],ts,T,j=>by simp [rd,cX,tmpsOf]
 | .tmp t::rest,ts,T,j=>by
   (have aw:tmpsOf (.tmp t::rest)=t::tmpsOf rest:=by simp [tmpsOf]);rw [aw];cases bJ:ts.headD false with
   | true =>
     simp only [rd,bJ,cX];rw [jM rest ts.tail,kM];by_cases gZ:t=j
     ·subst gZ;simp only [if_true,List.mem_cons,true_or];cases T[t]? with
      | none=>rfl
      | some u=>simp only [Option.map_some,I.settle];split <;> simp
     ·have ph:¬ j=t:=fun e=>gZ e.symm;simp [gZ,ph]
   | false =>
     simp only [rd,bJ,cX];rw [jM rest ts.tail,mm];by_cases gZ:t=j
     ·subst gZ;simp only [if_true,List.mem_cons,true_or];cases T[t]? with
      | none=>rfl
      | some u=>simp only [Option.map_some,xh];split <;> (try split) <;> rfl
     ·have ph:¬ j=t:=fun e=>gZ e.symm;simp [gZ,ph]
 | .const v::rest,ts,T,j=>by simpa [rd,cX,tmpsOf] using jM rest ts.tail T j
 | .func f::rest,ts,T,j=>by simpa [rd,cX,tmpsOf] using jM rest ts.tail T j
 | .global g::rest,ts,T,j=>by simpa [rd,cX,tmpsOf] using jM rest ts.tail T j
theorem Bq {T bb:List I} {t:Nat} (h:(T[t]?).map I.settle=(bb[t]?).map I.settle):(c1 T t).view=(c1 bb t).view:=by
 rw [fR,fR,List.getD_eq_getElem?_getD,List.getD_eq_getElem?_getD];cases ad:T[t]? <;> cases af:bb[t]? <;> rw [ad,af] at h <;> simp at h <;> simp only [Option.getD_some];rw [←xo,h,xo]
theorem jL:∀ (xs:List Operand) (ts:List Bool) (T bb:List I),(∀ t∈tmpsOf xs,(T[t]?).map I.settle=(bb[t]?).map I.settle)→(∀ t∈cX ts xs,T[t]?=bb[t]?) →
  (rd T ts xs).1=(rd bb ts xs).1
 | [],ts,T,bb,_,_=>by simp [rd]
 | .tmp t::rest,ts,T,bb,ad,af=>by
   (have aw:tmpsOf (.tmp t::rest)=t::tmpsOf rest:=by simp [tmpsOf]);rw [aw] at ad;cases bJ:ts.headD false with
   | true =>
     simp only [cX,bJ] at af;simp only [rd,bJ];have e:T[t]?=bb[t]?:=af t (by simp);rw [jL rest ts.tail (gK T t .junk) (gK bb t .junk) (fun u hu=>?_) (fun u hu=>?_)]
     ·congr 1;rw [fR,fR,List.getD_eq_getElem?_getD,List.getD_eq_getElem?_getD,e]
     ·rw [kM,kM];by_cases g1:t=u
      ·subst g1;simp [e]
      ·simp [g1,ad u (by simp [hu])]
     ·rw [kM,kM];by_cases g1:t=u
      ·subst g1;simp [e]
      ·simp [g1,af u (by simp [hu])]
   | false =>
     simp only [cX,bJ] at af;simp only [rd,bJ];have e:=ad t (by simp);rw [jL rest ts.tail (fL T t (c1 T t)) (fL bb t (c1 bb t)) (fun u hu=>?_) (fun u hu=>?_),Bq e]
     ·rw [mm,mm];by_cases g1:t=u
      ·subst g1;simp only [if_true,e]
      ·simp only [g1,if_false];exact ad u (by simp [hu])
     ·rw [mm,mm];by_cases g1:t=u
      ·subst g1;simp only [if_true,e]
      ·simp only [g1,if_false];exact af u hu
 | .const v::rest,ts,T,bb,ad,af=>by
   simp only [rd];rw [jL rest ts.tail T bb (by simpa [tmpsOf] using ad) (by simpa [cX] using af)];rfl
 | .func f::rest,ts,T,bb,ad,af=>by
   simp only [rd];rw [jL rest ts.tail T bb (by simpa [tmpsOf] using ad) (by simpa [cX] using af)];rfl
 | .global g::rest,ts,T,bb,ad,af=>by
   simp only [rd];rw [jL rest ts.tail T bb (by simpa [tmpsOf] using ad) (by simpa [cX] using af)];rfl
section
variable {P:Program}
theorem mG {C:cc} {lo mode:Nat} {o:Oper} {us:List I} {r:I} {H H':List au} (ak:da o mode=0) (h:a6 P C lo o mode us H=some (r,H')) :
  H'=H∧∀ a3,a6 P C lo o mode us a3=some (r,a3):=by
 have base:∀ {x:Option I},x.map (fun y=>(y,H))=some (r,H')→H'=H∧∀ a3:List au,x.map (fun y=>(y,a3))=some (r,a3):=fun {x} h=>by
  simp only [Option.map_eq_some_iff,Prod.mk.injEq] at h;obtain ⟨_,rfl,rfl,rfl⟩:=h;exact ⟨rfl,fun _=>rfl⟩
 have lE:∀ {t:TypeId} {x:Operand},mode=0→eK P lo mode t x H us=some (r,H')→H'=H∧∀ a3,eK P lo mode t x a3 us=some (r,a3):=fun hm h=>by
  subst hm;unfold eK at h;simp only [eK];split at h
  ·simp only at h ⊢;split at h
   ·simp only [Option.map_eq_some_iff,Prod.mk.injEq] at h;obtain ⟨z,bn,rfl,rfl⟩:=h;exact ⟨rfl,fun _=>by simp [bn]⟩
   ·cases h;exact ⟨rfl,fun _=>rfl⟩
  ·simp at h
 cases aC:o.op <;> simp only [da,aC] at ak <;> simp only [a6,aC] at h ⊢
 case move x=>exact lE (by by_cases h:mode=0 <;> simp_all) h
 case assign x=>exact lE (by by_cases h:mode=0 <;> simp_all) h
 case load t a =>
  have hm:mode=3:=by by_cases h:mode=0 <;> by_cases af:mode=2 <;> by_cases aH:mode=3 <;> by_cases bM:mode=5 <;> simp_all
  subst hm;unfold dF at h;simp only [dF];split at h
  ·simp only at h ⊢;split at h
   ·exact base h
   ·cases h
  ·cases h
 case makeSlice t a b =>
  have hm:mode≠0:=by intro h;simp [h] at ak
  unfold jI at h;simp only [jI];split at h
  ·split at h
   ·rename_i iA;split at h
    ·exact absurd rfl hm
    ·split at h
     ·rename_i af;simp only [Option.map_eq_some_iff,Prod.mk.injEq] at h;obtain ⟨x,al,rfl,rfl⟩:=h;exact ⟨rfl,fun _=>by obtain ⟨e,aT⟩:=af;subst e;simp [al,aT]⟩
     ·simp at h
   ·simp at h
  ·simp at h
 case box e x =>
  have hm:mode≠0:=by intro h;simp [h] at ak
  unfold gF at h;simp only [gF];split at h
  ·split at h
   ·exact absurd rfl hm
   ·split at h
    ·rename_i ae;split at h
     ·rename_i aD;cases h;exact ⟨rfl,fun _=>by simp [ae,aD]⟩
     ·cases h
    ·cases h
  ·cases h
 case buildSlice t len parts =>
  split at h
  ·exact base h
  ·simp only [Option.map_eq_some_iff,Prod.mk.injEq] at h ⊢;obtain ⟨x,al,rfl,rfl⟩:=h;exact ⟨rfl,fun _=>⟨x,al,rfl,trivial⟩⟩
 case call c =>
  split at ak
  ·split at ak
   ·by_cases hm:mode=0 <;> simp [hm] at ak
   all_goals simp at ak
  ·rename_i f hP;simp only [hP] at h ⊢;have hm:mode=3:=by
    by_cases aT:mode=0
    ·simp [aT] at ak
    ·by_cases aH:mode=3
     ·exact aH
     ·by_cases bh:mode=4 <;> by_cases bU:mode=6 <;> simp [aT,aH,bh,bU] at ak
   subst hm;unfold hq at h;simp only [hq];split at h
   ·unfold j5 at h;simp only [j5];have key:∀ {b1:eZ} {args:List I},eP C lo 3 b1 args H=some (r,H')→H'=H∧∀ a3,eP C lo 3 b1 args a3=some (r,a3):=fun {b1 args} h=>by
     simp only [eP] at h ⊢;split at h
     ·simp only [Option.bind_eq_some_iff] at h;obtain ⟨x,al,h⟩:=h;simp only [Option.map_eq_some_iff,Prod.mk.injEq] at h;obtain ⟨v,ae,rfl,rfl⟩:=h;rename_i aD;exact ⟨rfl,fun a3=>by simp [al,ae]⟩
     ·simp at h
    split at h
    ·exact key h
    ·exact key h
    ·simp at h
   ·simp at h
  ·simp at ak
 case store=>simp at ak
 case alloc=>simp at ak
 case makeMap=>simp at ak
 case mapUpdate=>simp at ak
 case lookup=>simp at ak
 case range=>simp at ak
 case entry=>simp at ak
 all_goals exact base h
def dN (H a3:List au):Prop:=∀ (id:Nat) (o:au),H[id]?=some o→a3[id]?=some o∨(∃ l l',o=.cells l∧a3[id]?=some (.cells l')∧l'.map I.view=l.map I.view)∨∃ l l' g z,o=.grow l g z∧a3[id]?=some (.grow l' g z)∧l'.map I.view=l.map I.view
theorem dN.cells {H a3:List au} (h:dN H a3) {id:Nat} {l:List I} (aE:H[id]?=some (.cells l)):∃ l',a3[id]?=some (.cells l')∧l'.map I.view=l.map I.view:=by
 rcases h id _ aE with h | ⟨ct,l',ad,af,aH⟩ | ⟨_,_,_,_,ad,_⟩
 ·exact ⟨l,h,rfl⟩
 ·cases ad;exact ⟨l',af,aH⟩
 ·cases ad
theorem dN.grow {H a3:List au} (h:dN H a3) {id g z:Nat} {l:List I} (aE:H[id]?=some (.grow l g z)):∃ l',a3[id]?=some (.grow l' g z)∧l'.map I.view=l.map I.view:=by
 rcases h id _ aE with h | ⟨_,_,ad,_⟩ | ⟨ct,l',Fw,cQ,ad,af,aH⟩
 ·exact ⟨l,h,rfl⟩
 ·cases ad
 ·cases ad;exact ⟨l',af,aH⟩
theorem dN.append (H:List au) (X:List au):dN H (H++X):=fun id o h=>.inl (by
 rw [List.getElem?_append_left (List.getElem?_eq_some_iff.1 h).1];exact h)
theorem yN {t:TypeId} {l l':List I} {off:Nat} (h:l'.map I.view=l.map I.view):ek P t l' off=ek P t l off:=by
 have aq:l'.length=l.length:=by have:=congrArg List.length h;simpa using this
 unfold ek;split
 ·have:∀ s,((l'.drop off).take s).map I.view=((l.drop off).take s).map I.view:=fun s=>by
   rw [List.map_take,List.map_drop,h,←List.map_drop,←List.map_take]
  simp only [aq,this]
 ·split
  ·have:=congrArg (fun x=>x[off]?) h;simpa using this
  ·rfl
theorem AT {H a3:List au} (ai:dN H a3) {t:TypeId} {a r:I} (h:dI P H t a=some r):dI P a3 t a=some r:=by
 unfold dI at h ⊢;split at h
 ·split at h
  ·rename_i l aE;obtain ⟨l',ad,af⟩:=ai.cells aE;rw [ad];simp only;rw [yN af];exact h
  ·rename_i l g z aE;obtain ⟨l',ad,af⟩:=ai.grow aE;rw [ad];simp only;rw [yN af];exact h
  ·simp at h
 ·exact h
 ·simp at h
theorem zW {H a3:List au} (ai:dN H a3) {x:I} {row:List I} (h:rowOf H x=some row):rowOf a3 x=some row:=by
 unfold rowOf at h ⊢;split at h
 ·exact h
 ·split at h
  ·rename_i l aE;obtain ⟨l',ad,af⟩:=ai.cells aE;(have aq:l'.length=l.length:=by have:=congrArg List.length af;simpa using this);rw [ad];simp only [aq]
   have:∀ s off,((l'.drop off).take s).map I.view=((l.drop off).take s).map I.view:=fun s off=>by
    rw [List.map_take,List.map_drop,af,←List.map_drop,←List.map_take]
   simp only [this];exact h
  ·simp at h
 ·simp at h
theorem A0 {H a3:List au} (ai:dN H a3) {x:I} {r:Nat×List I} (h:appended H x=some r):appended a3 x=some r:=by
 unfold appended at h ⊢;split at h
 ·rename_i m row hm aj;rw [hm,zW ai aj];exact h
 ·simp at h
theorem AN {H a3:List au} (ai:dN H a3) {t de:TypeId} {s x r:I} (h:e0 P H t de s x=some r):e0 P a3 t de s x=some r:=by
 unfold e0 at h ⊢;split at h
 ·split at h
  ·rename_i sz bytes z ad af aH;split at h
   ·rename_i ag;split at h
    ·rename_i m new cu;simp only [A0 ai cu];split at h
     ·rename_i ak;rw [if_pos ak];split at h
      ·exact h
      ·rename_i id off len cap nR;split at h
       ·rename_i hO;rw [if_pos hO];simp only [Option.bind_eq_some_iff] at h;obtain ⟨fH,ar,h⟩:=h;simp only [zW ai ar,Option.bind_some];exact h
       ·simp at h
      ·simp at h
     ·simp at h
    ·simp at h
   ·exact h
  ·simp at h
 ·simp at h
theorem jh {C:cc} {lo mode:Nat} {o:Oper} {us:List I} {r:I} {H H':List au} (ak:da o mode=1) (h:a6 P C lo o mode us H=some (r,H')) :
  H'=H∧∀ a3,dN H a3→a6 P C lo o mode us a3=some (r,a3):=by
 cases aC:o.op <;> simp only [da,aC] at ak <;> simp only [a6,aC] at h ⊢
 case load =>
  have hm:mode=0:=by by_cases h:mode=0 <;> by_cases af:mode=2 <;> by_cases aH:mode=3 <;> by_cases bM:mode=5 <;> simp_all
  subst hm;unfold dF at h;simp only [dF];split at h
  ·simp only [Option.map_eq_some_iff,Prod.mk.injEq] at h ⊢;obtain ⟨v,ae,rfl,rfl⟩:=h;exact ⟨rfl,fun a3 ai=>⟨v,AT ai ae,rfl,trivial⟩⟩
  ·simp at h
 case call c =>
  split at ak
  ·rename_i b oO;simp only [oO] at h ⊢;split at ak
   ·(have hm:mode=0:=by by_cases h:mode=0 <;> simp_all);subst hm;simp only [en,iL] at h ⊢;split at h
    ·split at h
     ·simp only [Option.map_eq_some_iff,Prod.mk.injEq] at h ⊢;obtain ⟨v,ae,rfl,rfl⟩:=h;exact ⟨rfl,fun a3 ai=>⟨v,AN ai ae,rfl,trivial⟩⟩
     ·simp at h
    ·simp at h
   ·simp only [en,g8] at h ⊢;split at h
    ·split at h
     ·split at h <;> simp at h;obtain ⟨rfl,rfl⟩:=h;exact ⟨rfl,fun _ _=>by simp_all⟩
     ·split at h <;> simp at h;obtain ⟨rfl,rfl⟩:=h;exact ⟨rfl,fun _ _=>by simp_all⟩
     ·split at h
      ·rename_i aw aE;simp at h;obtain ⟨rfl,rfl⟩:=h;refine ⟨rfl,fun a3 ai=>?_⟩;rcases ai _ _ aE with h | ⟨l,l',h,_⟩ | ⟨_,_,_,_,h,_⟩
       ·simp [aw,h]
       ·cases h
       ·cases h
      ·simp at h
     ·split at h
      ·simp at h;obtain ⟨rfl,rfl⟩:=h;exact ⟨rfl,fun _ _=>by simp_all⟩
      ·simp at h
    ·simp at h
   ·simp only [en,jG] at h ⊢;split at h
    ·split at h <;> simp at h;obtain ⟨rfl,rfl⟩:=h;exact ⟨rfl,fun _ _=>by simp_all⟩
    ·split at h <;> simp at h;obtain ⟨rfl,rfl⟩:=h;exact ⟨rfl,fun _ _=>by simp_all⟩
    ·simp at h
   ·simp only [en,Option.map_eq_some_iff,Prod.mk.injEq] at h ⊢;obtain ⟨v,ae,rfl,rfl⟩:=h;exact ⟨rfl,fun _ _=>⟨v,ae,rfl,trivial⟩⟩
   ·simp only [en,Option.map_eq_some_iff,Prod.mk.injEq] at h ⊢;obtain ⟨v,ae,rfl,rfl⟩:=h;exact ⟨rfl,fun _ _=>⟨v,ae,rfl,trivial⟩⟩
   ·simp at ak
  ·exfalso;by_cases aT:mode=0
   ·simp [aT] at ak
   ·by_cases aH:mode=3
    ·simp [aH] at ak
    ·by_cases bh:mode=4 <;> by_cases bU:mode=6 <;> simp [aT,aH,bh,bU] at ak
  ·simp at ak
 case move=>by_cases h:mode=0 <;> simp [h] at ak
 case assign=>by_cases h:mode=0 <;> simp [h] at ak
 case makeSlice=>by_cases h:mode=0 <;> simp [h] at ak
 case box=>by_cases h:mode=0 <;> simp [h] at ak
 all_goals simp at ak
theorem Bb {C:cc} {lo mode:Nat} {o:Oper} {us:List I} {r:I} {H H':List au} (ak:da o mode=3) (h:a6 P C lo o mode us H=some (r,H')):H'=H:=by
 have base:∀ {x:Option I},x.map (fun y=>(y,H))=some (r,H')→H'=H:=fun {x} h=>by
  simp only [Option.map_eq_some_iff,Prod.mk.injEq] at h;obtain ⟨_,rfl,rfl,rfl⟩:=h;rfl
 cases aC:o.op <;> simp only [da,aC] at ak <;> simp only [a6,aC] at h
 case load=>by_cases h:mode=0 <;> by_cases af:mode=2 <;> by_cases aH:mode=3 <;> by_cases bM:mode=5 <;> simp [h,af,aH,bM] at ak
 case call c =>
  split at ak
  ·split at ak
   ·by_cases hm:mode=0 <;> simp [hm] at ak
   all_goals simp at ak
  ·rename_i f hP;simp only [hP] at h;have hm:mode=0∨mode=4∨mode=6:=by
    by_cases aT:mode=0
    ·exact .inl aT
    ·by_cases aH:mode=3
     ·simp [aH] at ak
     ·by_cases bh:mode=4
      ·exact .inr (.inl bh)
      ·by_cases bU:mode=6
       ·exact .inr (.inr bU)
       ·simp [aT,aH,bh,bU] at ak
   have key:∀ {b1:eZ} {args:List I},eP C lo mode b1 args H=some (r,H')→H'=H:=fun {b1 args} h=>by
    rcases hm with rfl | rfl | rfl
    ·simp only [eP,Option.bind_eq_some_iff] at h;obtain ⟨x,_,h⟩:=h;exact base h
    ·simp only [eP,Option.bind_eq_some_iff,Option.map_eq_some_iff,Prod.mk.injEq] at h;obtain ⟨x,_,v,_,_,h⟩:=h;exact h.symm
    ·simp only [eP] at h;split at h
     ·simp only [Option.bind_eq_some_iff] at h;obtain ⟨x,_,v,_,h⟩:=h;split at h
      ·simp only [Option.some.injEq,Prod.mk.injEq] at h;exact h.2.symm
      ·cases h
     ·cases h
   unfold hq at h;split at h
   ·unfold j5 at h;split at h
    ·exact key h
    ·exact key h
    ·simp at h
   ·simp at h
  ·simp at ak
 case move=>by_cases h:mode=0 <;> simp [h] at ak
 case assign=>by_cases h:mode=0 <;> simp [h] at ak
 case makeSlice=>by_cases h:mode=0 <;> simp [h] at ak
 case box=>by_cases h:mode=0 <;> simp [h] at ak
 all_goals simp at ak
theorem E9 {off:Nat} {l:List I} {u:I} (hu:l[off]?=some u):(l.set off u.view).map I.view=l.map I.view:=by
 rw [List.map_set];have kl:u.view.view=u.view:=I.jZ (I.c_ u);rw [kl];apply List.ext_getElem?;intro j;by_cases az:off=j
 ·subst az;rw [List.getElem?_set_self (by simpa using (List.getElem?_eq_some_iff.1 hu).1),List.getElem?_map,hu];rfl
 ·rw [List.getElem?_set_ne az]
theorem Eg {H:List au} {id off g z:Nat} {l:List I} {u:I} (aE:H[id]?=some (.grow l g z)) (hu:l[off]?=some u):dN H (H.set id (.grow (l.set off u.view) g z))∧dN (H.set id (.grow (l.set off u.view) g z)) H:=by
 have ae:=E9 hu;have aY:=(List.getElem?_eq_some_iff.1 aE).1;constructor
 ·intro i o h;by_cases hi:id=i
  ·subst hi;rw [aE] at h;cases h;exact .inr (.inr ⟨l,_,g,z,rfl,List.getElem?_set_self aY,ae⟩)
  ·exact .inl (by rw [List.getElem?_set_ne hi];exact h)
 ·intro i o h;by_cases hi:id=i
  ·subst hi;rw [List.getElem?_set_self aY] at h;cases h;exact .inr (.inr ⟨_,l,g,z,rfl,aE,ae.symm⟩)
  ·rw [List.getElem?_set_ne hi] at h;exact .inl h
theorem Ae {H:List au} {id off:Nat} {l:List I} {u:I} (aE:H[id]?=some (.cells l)) (hu:l[off]?=some u):dN H (H.set id (.cells (l.set off u.view)))∧dN (H.set id (.cells (l.set off u.view))) H:=by
 have ae:(l.set off u.view).map I.view=l.map I.view:=by
  rw [List.map_set];have kl:u.view.view=u.view:=I.jZ (I.c_ u);rw [kl];apply List.ext_getElem?;intro j;by_cases az:off=j
  ·subst az;rw [List.getElem?_set_self (by simpa using (List.getElem?_eq_some_iff.1 hu).1),List.getElem?_map,hu];rfl
  ·rw [List.getElem?_set_ne az]
 have aY:=(List.getElem?_eq_some_iff.1 aE).1;constructor
 ·intro i o h;by_cases hi:id=i
  ·subst hi;rw [aE] at h;cases h;exact .inr (.inl ⟨l,_,rfl,List.getElem?_set_self aY,ae⟩)
  ·exact .inl (by rw [List.getElem?_set_ne hi];exact h)
 ·intro i o h;by_cases hi:id=i
  ·subst hi;rw [List.getElem?_set_self aY] at h;cases h;exact .inr (.inl ⟨_,l,rfl,aE,ae.symm⟩)
  ·rw [List.getElem?_set_ne hi] at h;exact .inl h
theorem xL {C:cc} {lo mode:Nat} {o:Oper} {us:List I} {r:I} {H H':List au} (ak:da o mode=5) (h:a6 P C lo o mode us H=some (r,H')):dN H H'∧dN H' H:=by
 have refl:dN H H:=fun id o h=>.inl h;cases aC:o.op <;> simp only [da,aC] at ak <;> simp only [a6,aC] at h
 case load t a =>
  have hm:mode≠0:=by intro h;simp [h] at ak
  unfold dF at h;split at h
  ·split at h
   ·exact absurd rfl hm
   ·simp at ak
   ·simp at ak
   ·split at h
    ·split at h
     ·split at h
      ·rename_i l aE;split at h
       ·rename_i c n z cS;cases h;exact Ae aE cS
       ·rename_i c n z cS;rw [if_neg (by intro af;simp [af] at ak)] at h;cases h;exact Ae aE cS
       ·cases h;exact ⟨refl,refl⟩
       ·simp at h
      ·rename_i l g z aE;split at h
       ·rename_i c n cQ cS;cases h;exact Eg aE cS
       ·cases h;exact ⟨refl,refl⟩
       ·cases h
      ·simp at h
     ·simp at h
    ·simp at h
  ·simp at h
 case call c =>
  split at ak
  ·split at ak
   ·by_cases hm:mode=0 <;> simp [hm] at ak
   all_goals simp at ak
  ·exfalso;by_cases aT:mode=0
   ·simp [aT] at ak
   ·by_cases aH:mode=3
    ·simp [aH] at ak
    ·by_cases bh:mode=4 <;> by_cases bU:mode=6 <;> simp [aT,aH,bh,bU] at ak
  ·simp at ak
 case move=>by_cases h:mode=0 <;> simp [h] at ak
 case assign=>by_cases h:mode=0 <;> simp [h] at ak
 case makeSlice=>by_cases h:mode=0 <;> simp [h] at ak
 case box=>by_cases h:mode=0 <;> simp [h] at ak
 all_goals simp at ak
theorem Bc {C:cc} {lo mode:Nat} {o:Oper} {us:List I} {r:I} {H H':List au} (ak:da o mode=6) (h:a6 P C lo o mode us H=some (r,H')):dN H H':=by
 cases aC:o.op <;> simp only [da,aC] at ak <;> simp only [a6,aC] at h
 case load=>by_cases h:mode=0 <;> by_cases af:mode=2 <;> by_cases aH:mode=3 <;> by_cases bM:mode=5 <;> simp [h,af,aH,bM] at ak
 case box e x =>
  have hm:mode=0:=by by_cases h:mode=0 <;> simp_all
  subst hm;unfold gF at h;split at h
  ·simp only [Option.map_eq_some_iff,Prod.mk.injEq] at h;obtain ⟨_,_,_,rfl⟩:=h;exact dN.append _ _
  ·simp at h
 case alloc t =>
  unfold kA at h;split at h
  ·simp only [Option.map_eq_some_iff,Prod.mk.injEq] at h;obtain ⟨_,_,_,rfl⟩:=h;exact dN.append _ _
  ·split at h
   ·simp only [Option.map_eq_some_iff,Prod.mk.injEq] at h;obtain ⟨_,_,_,rfl⟩:=h;exact dN.append _ _
   ·cases h
 case call c =>
  split at ak
  ·split at ak
   ·by_cases hm:mode=0 <;> simp [hm] at ak
   all_goals simp at ak
  ·exfalso;by_cases aT:mode=0
   ·simp [aT] at ak
   ·by_cases aH:mode=3
    ·simp [aH] at ak
    ·by_cases bh:mode=4 <;> by_cases bU:mode=6 <;> simp [aT,aH,bh,bU] at ak
  ·simp at ak
 case move=>by_cases h:mode=0 <;> simp [h] at ak
 case assign=>by_cases h:mode=0 <;> simp [h] at ak
 case makeSlice=>by_cases h:mode=0 <;> simp [h] at ak
 all_goals simp at ak
noncomputable def dL (P:Program) (C:cc) (lo:Nat) (ops:Array Oper) (o:Oper) (an:cq) (s:a8):Option a8 :=
 match eo ops o s.T with
 | some true=>Ab.execOp P C lo o an s
 | some false=>some ⟨put s.T o.dst (.tuple []),s.H⟩
 | none=>none
theorem AB {ops:Array Oper} {o:Oper} {T bb:List I} (h:∀ t∈oA ops o,(T[t]?).map I.settle=(bb[t]?).map I.settle):eo ops o T=eo ops o bb:=by
 unfold eo;split
 ·rfl
 ·rename_i j want aK;split
  ·rename_i d a2;have hm:=h d (by simp [oA,aK,a2]);have ai:(c1 T d).settle=(c1 bb d).settle:=by
    rw [fR,fR,List.getD_eq_getElem?_getD,List.getD_eq_getElem?_getD];cases ad:T[d]? <;> cases af:bb[d]? <;> rw [ad,af] at hm <;> simp at hm <;> simp [hm]
   have key:∀ x:I,(match x with | .bool b=>some (b == want) | .tuple []=>some false | _=>none)=(match x.settle with | .bool b=>some (b == want) | .tuple []=>some false | _=>none):=fun x=>by
    (cases x <;> try rfl);rename_i c n k;cases k <;> rfl
   exact (key _).trans (Eq.trans (by rw [ai]) (key _).symm)
  ·rfl
theorem ny (T:List I) (d:Option Nat) (v:I) (j:Nat):(put T d v)[j]?=if d=some j then (T[j]?).map fun _=>v else T[j]?:=by
 cases d with
 | none=>simp [put]
 | some d=>simp only [put,kM,Option.some.injEq]
def gT (o:Oper) (an:cq) (w:Bool) (r:I) (j:Nat) (u:I):I :=
 if o.dst=some j then r else if w=false then u else if j∈cX an.cx (opsOf o) then .junk else if j∈tmpsOf (opsOf o) then u.settle else u
theorem xH {o:Oper} {mode:Nat} (h:calm o mode=true) (T:List I) (v:I):inPlace o mode T v=T:=by
 unfold inPlace;split
 ·rfl
 ·rfl
 ·rename_i hm _;split
  ·rename_i aC;simp [calm,aC] at h;exact absurd h hm
  ·rename_i aC;simp [calm,aC] at h;exact absurd h hm
  ·rfl
theorem Au {C:cc} {lo:Nat} {ops:Array Oper} {o:Oper} {an:cq} {s aI:a8} (oM:calm o an.mode=true) (h:dL P C lo ops o an s=some aI) :
  ∃ w r,eo ops o s.T=some w∧(∀ j,aI.T[j]?=(s.T[j]?).map (gT o an w r j)) ∧
    (w=true→a6 P C lo o an.mode (fm (dE o) (rd s.T an.cx (opsOf o)).1) s.H=some (r,aI.H))∧(w=false→r=.tuple []∧aI.H=s.H):=by
 unfold dL at h;split at h
 ·rename_i hw;obtain ⟨r,H',aC,rfl⟩:=oq h;refine ⟨true,r,hw,fun j=>?_,fun _=>aC,by simp⟩;rw [xH oM];simp only [ny,jM];cases s.T[j]? with
  | none=>split <;> rfl
  | some u=>by_cases a2:o.dst=some j <;> simp [gT,a2]
 ·rename_i hw;simp only [Option.some.injEq] at h;subst h;refine ⟨false,.tuple [],hw,fun j=>?_,by simp,fun _=>⟨rfl,rfl⟩⟩;simp only [ny];cases s.T[j]? with
  | none=>split <;> rfl
  | some u=>by_cases a2:o.dst=some j <;> simp [gT,a2]
 ·simp at h
theorem At {C:cc} {lo:Nat} {ops:Array Oper} {o:Oper} {an:cq} {s:a8} (oM:calm o an.mode=true) {w:Bool} {r:I} {H':List au} (hw:eo ops o s.T=some w)
  (ad:w=true→a6 P C lo o an.mode (fm (dE o) (rd s.T an.cx (opsOf o)).1) s.H=some (r,H')) (af:w=false→r=.tuple []∧H'=s.H) :
  ∃ bb,dL P C lo ops o an s=some ⟨bb,H'⟩∧∀ j,bb[j]?=(s.T[j]?).map (gT o an w r j):=by
 cases w with
 | true =>
   refine ⟨put (inPlace o an.mode (rd s.T an.cx (opsOf o)).2 r) o.dst r,?_,fun j=>?_⟩
   ·have ad:=ad rfl;simp only [dL,hw,Ab.execOp];unfold fm at ad;cases aq:dE o <;> rw [aq] at ad <;> simp only at ad ⊢ <;> rw [ad] <;> rfl
   ·rw [xH oM];simp only [ny,jM];cases s.T[j]? with
    | none=>split <;> rfl
    | some u=>by_cases a2:o.dst=some j <;> simp [gT,a2]
 | false =>
   obtain ⟨rfl,rfl⟩:=af rfl;refine ⟨put s.T o.dst (.tuple []),by simp only [dL,hw],fun j=>?_⟩;simp only [ny];cases s.T[j]? with
   | none=>split <;> rfl
   | some u=>by_cases a2:o.dst=some j <;> simp [gT,a2]
theorem CO {t:TypeId} {H:List au} {id c dP:Nat} {es es':List (Nat×I×I)} (aE:H[id]?=some (.map es c)) (a:I):dI P (H.set id (.map es' dP)) t a=dI P H t a:=by
 have aq:=(List.getElem?_eq_some_iff.1 aE).1;unfold dI;cases a with
 | ptr i off =>
   simp only;by_cases h:id=i
   ·subst h;rw [List.getElem?_set_self aq,aE]
   ·rw [List.getElem?_set_ne h]
 | _=>rfl
theorem CP {C:cc} {lo:Nat} {bC bO:Oper} {c9:Nat} {us vs:List I} {aR r2:I} {H a3:List au} (h:ks bC 0 bO=true) (ad:a6 P C lo bC 0 us H=some (aR,H)) (af:a6 P C lo bO c9 vs H=some (r2,a3)) :
  a6 P C lo bC 0 us a3=some (aR,a3):=by
 unfold ks at h;split at h
 ·rename_i t x iT m k v iC dS;simp only [a6,iC] at ad ⊢;simp only [a6,dS] at af;unfold dF at ad ⊢;split at ad
  ·rename_i a;simp only [Option.map_eq_some_iff,Prod.mk.injEq] at ad;obtain ⟨r,ad,rfl,-⟩:=ad;have key:∃ id c es dP es',H[id]?=some (.map es c)∧a3=H.set id (.map es' dP):=by
    unfold iN at af;split at af
    ·split at af
     ·split at af
      ·split at af
       ·split at af
        ·rename_i aE;split at af
         ·cases af;exact ⟨_,_,_,_,_,aE,rfl⟩
         ·cases af;exact ⟨_,_,_,_,_,aE,rfl⟩
         ·simp at af
        ·simp at af
       ·simp at af
      ·simp at af
     ·simp at af
    ·simp at af
   obtain ⟨id,c,es,dP,es',aE,rfl⟩:=key;simp only;rw [CO aE,ad];rfl
  ·simp at ad
 ·simp at h
theorem EX {C:cc} {lo:Nat} {ops:Array Oper} {bC bO:Oper} {aB aF:cq} (hi:indep ops bC aB bO aF=true) {s s1 s2:a8} (ad:dL P C lo ops bC aB s=some s1) (af:dL P C lo ops bO aF s1=some s2) :
  ∃ nL,dL P C lo ops bO aF s=some nL∧dL P C lo ops bC aB nL=some s2:=by
 simp only [indep,Bool.and_eq_true] at hi;obtain ⟨⟨⟨⟨⟨⟨⟨d1,d2⟩,d3⟩,d4⟩,d5⟩,a'⟩,bm⟩,bJ⟩:=hi;have e1:∀ t,bC.dst=some t→t ∉ eW ops bO:=fun t aw=>k9 d1 t (by simp [aw]);have cd:∀ t,bO.dst=some t→t ∉ eW ops bC:=fun t aw=>k9 d2 t (by simp [aw]);have dw:∀ t,bC.dst=some t→bO.dst≠some t:=fun t aw h=>k9 d3 t (by simp [aw]) (by simp [h]);have oh:=k9 d4;have oi:=k9 d5;have hA:∀ (xs:List Operand) (ts:List Bool) (t:Nat),t∈cX ts xs→t∈tmpsOf xs:=by
  intro xs
  induction xs with
  | nil=>intro ts t h;simp [cX] at h
  | cons x rest a9 =>
    intro ts t h;cases x with
    | tmp u =>
      (have aw:tmpsOf (.tmp u::rest)=u::tmpsOf rest:=by simp [tmpsOf]);rw [aw];simp only [cX] at h;split at h
      ·rcases List.mem_cons.1 h with rfl | h
       ·simp
       ·exact List.mem_cons_of_mem _ (a9 _ t h)
      ·exact List.mem_cons_of_mem _ (a9 _ t h)
    | const v=>simpa [tmpsOf] using a9 _ t (by simpa [cX] using h)
    | func f=>simpa [tmpsOf] using a9 _ t (by simpa [cX] using h)
    | global g=>simpa [tmpsOf] using a9 _ t (by simpa [cX] using h)
 obtain ⟨bE,aR,cn,t1,fp,v1⟩:=Au a' ad;obtain ⟨bS,r2,cp,t2,gb,v2⟩:=Au bm af;have cG:∀ (o:Oper) (a:cq) (w:Bool) (r:I) (t:Nat),o.dst≠some t→t ∉ cX a.cx (opsOf o)→∀ u,(gT o a w r t u).settle=u.settle:=fun o a w r t a2 aw u=>by
  unfold gT;rw [if_neg a2];split
  ·rfl
  ·by_cases h:t∈tmpsOf (opsOf o) <;> simp only [h,if_true,if_false];exact xh u
 have stay:∀ (o:Oper) (a:cq) (w:Bool) (r:I) (t:Nat),o.dst≠some t→t ∉ tmpsOf (opsOf o)→∀ u,gT o a w r t u=u:=fun o a w r t a2 aw u=>by
  unfold gT;rw [if_neg a2];split
  ·rfl
  ·have CA:t ∉ cX a.cx (opsOf o):=fun h=>aw (hA _ _ t h);simp only [CA,if_false]
 have c8:∀ t∈eW ops bO,(s1.T[t]?).map I.settle=(s.T[t]?).map I.settle:=fun t aw=>by
  rw [t1];cases s.T[t]? with
  | none=>rfl
  | some u=>simp only [Option.map_some];rw [cG bC aB bE aR t (fun h=>e1 t h aw) (fun h=>oh t h aw)]
 have aL:∀ t∈cX aF.cx (opsOf bO),s1.T[t]?=s.T[t]?:=fun t aw=>by
  rw [t1];have aP:bC.dst≠some t:=fun h=>e1 t h (by simp [eW,hA _ _ t aw]);have o8:t ∉ tmpsOf (opsOf bC):=fun h=>oi t aw (by simp [eW,h]);cases s.T[t]? with
  | none=>rfl
  | some u=>simp only [Option.map_some];rw [stay bC aB bE aR t aP o8]
 have Bt:eo ops bO s.T=some bS:=by rw [←cp];exact (AB fun t aw=>c8 t (by simp [eW,aw])).symm
 have dt:(rd s1.T aF.cx (opsOf bO)).1=(rd s.T aF.cx (opsOf bO)).1:=jL _ _ _ _ (fun t aw=>c8 t (by simp [eW,aw])) aL;have zv:∀ {o:Oper} {a:cq} {us:List I} {r:I} {H H':List au},da o a.mode=1∨da o a.mode=3→a6 P C lo o a.mode us H=some (r,H')→H'=H:=fun ak aC=>by
  rcases ak with ak | ak
  ·exact (jh ak aC).1
  ·exact Bb ak aC
 have av:da bC aB.mode=0∨da bO aF.mode=0∨((da bC aB.mode=1∨da bC aB.mode=3)∧(da bO aF.mode=1∨da bO aF.mode=3)) ∨
   (da bC aB.mode=1∧da bO aF.mode=5)∨(da bC aB.mode=5∧da bO aF.mode=1)∨(da bC aB.mode=1∧da bO aF.mode=6)∨(aB.mode=0∧ks bC 0 bO=true):=by
  rw [Bool.or_eq_true] at bJ;rcases bJ with bJ | bJ
  rotate_left
  ·refine .inr (.inr (.inr (.inr (.inr (.inr ?_)))));have aT:aB.mode=0:=by
    unfold ks at bJ;split at bJ
    ·simpa using bJ
    ·simp at bJ
   rw [aT] at bJ;exact ⟨aT,bJ⟩
  simp only [b0,Bool.or_eq_true,Bool.and_eq_true,beq_iff_eq] at bJ;rcases bJ with ((((h | h) | h) | h) | h) | h
  ·exact .inl h
  ·exact .inr (.inl h)
  ·exact .inr (.inr (.inl h))
  ·exact .inr (.inr (.inr (.inl h)))
  ·exact .inr (.inr (.inr (.inr (.inl h))))
  ·exact .inr (.inr (.inr (.inr (.inr (.inl h)))))
 have mem:∃ i_,(bS=true→a6 P C lo bO aF.mode (fm (dE bO) (rd s.T aF.cx (opsOf bO)).1) s.H=some (r2,i_))∧(bS=false→r2=.tuple []∧i_=s.H) ∧
   (bE=true→∀ vs,a6 P C lo bC aB.mode vs s.H=some (aR,s1.H)→a6 P C lo bC aB.mode vs i_=some (aR,s2.H))∧(bE=false→s2.H=i_):=by
  cases bS with
  | false =>
    obtain ⟨aW,aX⟩:=v2 rfl;refine ⟨s.H,by simp,fun _=>⟨aW,rfl⟩,fun _ vs h=>by rw [aX];exact h,fun hw=>by rw [aX];exact (v1 hw).2⟩
  | true =>
    have dS:=gb rfl;rw [dt] at dS;cases bE with
    | false =>
      have q:=(v1 rfl).2;rw [q] at dS;exact ⟨s2.H,fun _=>dS,by simp,by simp,fun _=>rfl⟩
    | true =>
      have iC:=fp rfl;rcases av with h | h | ⟨h,a4⟩ | ⟨h,a4⟩ | ⟨h,a4⟩ | ⟨h,a4⟩ | ⟨h,a4⟩
      ·have q:=(mG h iC).1;rw [q] at dS;exact ⟨s2.H,fun _=>dS,by simp,fun _ vs bJ=>(mG h bJ).2 s2.H,by simp⟩
      ·have q:=(mG h dS).1;refine ⟨s.H,fun _=>(mG h dS).2 s.H,by simp,fun _ vs bJ=>by rw [q];exact bJ,by simp⟩
      ·have aW:=zv h iC;have aX:=zv a4 dS;rw [aX,aW] at dS;exact ⟨s.H,fun _=>dS,by simp,fun _ vs bJ=>by rw [aX];exact bJ,by simp⟩
      ·have aW:=(jh h iC).1;rw [aW] at dS;exact ⟨s2.H,fun _=>dS,by simp,fun _ vs bJ=>(jh h bJ).2 s2.H (xL a4 dS).1,by simp⟩
      ·obtain ⟨aX,cw⟩:=jh a4 dS;exact ⟨s.H,fun _=>cw s.H (xL h iC).2,by simp,fun _ vs bJ=>by rw [aX];exact bJ,by simp⟩
      ·have aW:=(jh h iC).1;rw [aW] at dS;exact ⟨s2.H,fun _=>dS,by simp,fun _ vs bJ=>(jh h bJ).2 s2.H (Bc a4 dS),by simp⟩
      ·have aW:s1.H=s.H:=by
        have ak:da bC aB.mode=1:=by
         unfold ks at a4;split at a4
         ·rename_i aC _;simp only [da,aC,h];rfl
         ·simp at a4
        exact (jh ak iC).1
       rw [aW] at dS;refine ⟨s2.H,fun _=>dS,by simp,fun _ vs bJ=>?_,by simp⟩;rw [aW] at bJ;rw [h] at bJ ⊢;exact CP a4 bJ dS
 obtain ⟨i_,br,cU,ff,n'⟩:=mem;obtain ⟨dH,Cu,oH⟩:=At (C:=C) (lo:=lo) (s:=s) bm Bt br cU;have c9:∀ t∈eW ops bC,(dH[t]?).map I.settle=(s.T[t]?).map I.settle:=fun t aw=>by
  rw [oH];cases s.T[t]? with
  | none=>rfl
  | some u=>simp only [Option.map_some];rw [cG bO aF bS r2 t (fun h=>cd t h aw) (fun h=>oi t h aw)]
 have aQ:∀ t∈cX aB.cx (opsOf bC),dH[t]?=s.T[t]?:=fun t aw=>by
  rw [oH];have aP:bO.dst≠some t:=fun h=>cd t h (by simp [eW,hA _ _ t aw]);have o8:t ∉ tmpsOf (opsOf bO):=fun h=>oh t aw (by simp [eW,h]);cases s.T[t]? with
  | none=>rfl
  | some u=>simp only [Option.map_some];rw [stay bO aF bS r2 t aP o8]
 have Bs:eo ops bC dH=some bE:=by rw [←cn];exact AB fun t aw=>c9 t (by simp [eW,aw])
 have dV:(rd dH aB.cx (opsOf bC)).1=(rd s.T aB.cx (opsOf bC)).1:=jL _ _ _ _ (fun t aw=>c9 t (by simp [eW,aw])) aQ
 obtain ⟨AM,Cv,Bw⟩:=At (C:=C) (lo:=lo) (s:=⟨dH,i_⟩) (r:=aR) (H':=s2.H) a' Bs (fun hw=>by
  simp only;rw [dV];exact ff hw _ (fp hw)) (fun hw=>⟨(v1 hw).1,n' hw⟩)
 refine ⟨⟨dH,i_⟩,Cu,?_⟩;rw [Cv];congr 1
 have:AM=s2.T:=by
  apply List.ext_getElem?;intro j;rw [Bw,t2];simp only [oH,t1];cases s.T[j]? with
  | none=>rfl
  | some u =>
    simp only [Option.map_some,Option.some.injEq];unfold gT;have Fg:=dw j;have nY:=e1 j;have nZ:=cd j;have AH:=oh j;have AI:=oi j;have xt:=hA (opsOf bC) aB.cx j;have n0:=hA (opsOf bO) aF.cx j;simp only [eW,List.mem_append,not_or] at nY nZ AH AI;by_cases bP:bC.dst=some j
    ·have q:=(nY bP).2;have fK:j ∉ cX aF.cx (opsOf bO):=fun h=>q (n0 h);simp only [bP,if_true,Fg bP,if_false,q,fK];split <;> rfl
    ·by_cases b4:bO.dst=some j
     ·have q:=(nZ b4).2;have fK:j ∉ cX aB.cx (opsOf bC):=fun h=>q (xt h);simp only [bP,b4,if_true,if_false,q,fK];split <;> rfl
     ·simp only [bP,b4,if_false];by_cases nS:j∈cX aB.cx (opsOf bC)
      ·have q:=(AH nS).2;have fK:j ∉ cX aF.cx (opsOf bO):=fun h=>q (n0 h);simp only [nS,q,fK,if_true,if_false];split <;> split <;> rfl
      ·by_cases xl:j∈cX aF.cx (opsOf bO)
       ·have q:=(AI xl).2;simp only [nS,xl,q,if_true,if_false];split <;> split <;> rfl
       ·simp only [nS,xl,if_false];by_cases D':j∈tmpsOf (opsOf bC) <;> by_cases Ea:j∈tmpsOf (opsOf bO) <;> simp only [D',Ea,if_true,if_false] <;> split <;> split <;> first | rfl | rw [xh]
 rw [this]
end
end Go.Proofs.YtfakoboiahbhaaaGreat.Ab


namespace Go.Proofs.YtfakoboiahbhaaaGreat.Ab
open Go
section
variable {P:Program}
theorem pF (ms:List Nat) (j:Nat):∀ (l:List Edge) (nm:Nat),(l.foldl (fun m e=>if Region.binds .any e then m ||| (ms.getD e.on 0 ||| 1 <<< e.on) else m) nm).testBit j=true →
  nm.testBit j=true∨∃ e∈l,Region.binds .any e=true∧((ms.getD e.on 0).testBit j=true∨j=e.on)
 | [],nm,h=>.inl h
 | e::l,nm,h=>by
   simp only [List.foldl_cons] at h;rcases pF ms j l _ h with ad | ⟨cL,mU,ag,ad⟩
   ·by_cases ag:Region.binds .any e=true
    ·simp only [ag,if_true,Nat.testBit_or,Bool.or_eq_true] at ad;rcases ad with ad | ad | ad
     ·exact .inl ad
     ·exact .inr ⟨e,by simp,ag,.inl ad⟩
     ·refine .inr ⟨e,by simp,ag,.inr ?_⟩;rw [Nat.one_shiftLeft,Nat.testBit_two_pow] at ad;simpa using (of_decide_eq_true ad).symm
    ·simp only [ag] at ad;exact .inl ad
   ·exact .inr ⟨cL,by simp [mU],ag,ad⟩
def xK (ops:Array Oper) (cJ:Array Bool):Prop :=
 ∀ k o,ops[k]?=some o→cJ.getD k true=true→∀ e∈o.after,Region.binds .any e=true→cJ.getD e.on false=true
noncomputable def gH (P:Program) (C:cc) (lo:Nat) (ops:Array Oper) (as:List cq):List Nat→a8→Option a8
 | [],s=>some s
 | i::r,s=>match ops[i]? with
   | none=>gH P C lo ops as r s
   | some o=>(dL P C lo ops o (as.getD i {}) s).bind (gH P C lo ops as r)
theorem xT {C:cc} {lo:Nat} {ops:Array Oper} {as:List cq}:∀ (l:List Oper) (k:Nat) (s:a8),(∀ j,l[j]?=ops[k+j]?)→eC P C lo ops l (as.drop k) s=gH P C lo ops as (List.range' k l.length) s
 | [],k,s,_=>by simp [eC,gH]
 | o::l,k,s,h=>by
   (have aT:ops[k]?=some o:=by simpa using (h 0).symm);have a9:=fun s=>xT (C:=C) (lo:=lo) (as:=as) l (k+1) s (fun j=>by have:=h (j+1);simpa [Nat.add_assoc,Nat.add_comm 1 j] using this);(have a2:(as.drop k).headD {}=as.getD k {}:=by rw [List.headD_eq_head?_getD,List.head?_drop,List.getD_eq_getElem?_getD]);(have aw:(as.drop k).tail=as.drop (k+1):=by rw [List.tail_drop]);simp only [eC,List.length_cons,List.range'_succ,gH,aT,a2,aw];unfold dL;split
   ·rename_i hw;simp only [hw];congr 1;funext aI;exact a9 aI
   ·rename_i hw;simp only [hw];exact a9 _
   ·rename_i hw;simp only [hw];rfl
def ey (n:Nat) (cJ:Array Bool):List Nat:=(List.range n).filter fun i=>!cJ.getD i true
theorem zB {n i:Nat} {cJ:Array Bool}:ey n (cJ.setIfInBounds i true)=(ey n cJ).erase i:=by
 have lF:(ey n cJ).Nodup:=List.nodup_range.filter _;rw [lF.erase_eq_filter];simp only [ey,List.filter_filter];congr 1;funext j;by_cases lx:j=i
 ·subst lx;rcases Nat.lt_or_ge j cJ.size with h | h
  ·simp [Array.getD_eq_getD_getElem?,h]
  ·simp [Array.getD_eq_getD_getElem?,h]
 ·have:(cJ.setIfInBounds i true).getD j true=cJ.getD j true:=by
   simp only [Array.getD_eq_getD_getElem?];rw [Array.getElem?_setIfInBounds_ne (Ne.symm lx)]
  rw [this];simp [lx]
theorem xe {C:cc} {lo:Nat} {ops:Array Oper} {as:List cq} {i:Nat} {gE:Oper} (hi:ops[i]?=some gE) {aI:a8}:∀ (l:List Nat) (s:a8),l.Pairwise (·<·)→i∈l →
  (∀ j∈l,j<i→∀ fa,ops[j]?=some fa→indep ops fa (as.getD j {}) gE (as.getD i {})=true)→gH P C lo ops as l s=some aI →
  ∃ s1,dL P C lo ops gE (as.getD i {}) s=some s1∧gH P C lo ops as (l.erase i) s1=some aI
 | [],s,_,h,_,_=>by simp at h
 | j::r,s,aD,hm,o0,h=>by
   by_cases ly:j=i
   ·subst ly;simp only [gH,hi,Option.bind_eq_some_iff] at h;obtain ⟨s1,ad,af⟩:=h;exact ⟨s1,ad,by simpa using af⟩
   ·have aj:i∈r:=by
     rcases List.mem_cons.1 hm with h | h
     ·exact absurd h.symm ly
     ·exact h
    have aY:j<i:=(List.pairwise_cons.1 aD).1 i aj;have he:(j::r).erase i=j::r.erase i:=by
     rw [List.erase_cons];simp [ly]
    rw [he];simp only [gH] at h ⊢;cases az:ops[j]? with
    | none =>
      simp only [az] at h;exact xe hi r s (List.pairwise_cons.1 aD).2 aj (fun k av=>o0 k (by simp [av])) h
    | some fa =>
      simp only [az,Option.bind_eq_some_iff] at h;obtain ⟨s1,ad,af⟩:=h;obtain ⟨s2,aL,aQ⟩:=xe hi r s1 (List.pairwise_cons.1 aD).2 aj (fun k av=>o0 k (by simp [av])) af;obtain ⟨nL,aW,aX⟩:=EX (o0 j (by simp) aY fa az) ad aL;exact ⟨nL,aW,by dsimp only;rw [aX];exact aQ⟩
variable {B N:Nat} {J:List Nat} {w:World} {U:Nat→Option aG} {S:Nat→Nat→Prop}
theorem EY {F:Fence} (bG:eA F) {C:cc} (bD:dn P C) {lo:Nat} {ops:Array Oper} {Q:Exit→Act→World→Prop} {i:Nat} {o:Oper} (hi:ops[i]?=some o) {an:cq} {s aI:a8}
  (h:dL P C lo ops o an s=some aI) {a:Act} (aM:cz B N U J S w s a) {K:Act→World→Prop} (gw:∀ aO w',Step B N U J S w aI aO w'→K aO w'):wpOpIn F 0 P ops Q i K a w:=by
 unfold wpOpIn;simp only [hi];unfold dL at h;split at h
 ·rename_i hw;rw [kQ aM hw];simp only [if_true];exact xk bG bD h aM gw
 ·rename_i hw;rw [kQ aM hw];simp only [Bool.false_eq_true,if_false];simp only [Option.some.injEq] at h;subst h;exact ⟨fun f _=>bG.fn f,gw _ _ (Step.here (aM.skip o.dst))⟩
 ·simp at h
theorem AW {F:Fence} (bG:eA F) {C:cc} (bD:dn P C) {lo:Nat} {ops:Array Oper} {as:List cq} (a2:mI ops as=true) {Q:Exit→Act→World→Prop} {aI:a8} :
  ∀ (fuel:Nat) (cJ:Array Bool) (s:a8) (a:Act) (w:World) (U:Nat→Option aG) (J:List Nat) (S:Nat→Nat→Prop),(ey ops.size cJ).length≤fuel→xK ops cJ →
    gH P C lo ops as (ey ops.size cJ) s=some aI→cz B N U J S w s a→(∀ aO w',Step B N U J S w aI aO w'→Q .normal aO w')→wpAnyIn F 0 P .any ops Q fuel cJ a w:=by
 have dJ:∀ j fa,ops[j]?=some fa→((ku ops.toList []).getD j 0=pE (ku ops.toList []) fa)∧(∀ e∈fa.after,Region.binds .any e=true→e.on<j) ∧
   ∀ i gE,i<j→ops[i]?=some gE→((ku ops.toList []).getD j 0).testBit i=true∨indep ops gE (as.getD i {}) fa (as.getD j {})=true:=fun j fa az=>by
  have aY:j<ops.size:=(Array.getElem?_eq_some_iff.1 az).1;simp only [mI,zf,List.all_eq_true,List.mem_range] at a2;have h:=a2 j aY;rw [az] at h;simp only [Bool.and_eq_true,beq_iff_eq,List.all_eq_true,List.mem_range] at h;obtain ⟨⟨ad,af⟩,aH⟩:=h;refine ⟨ad,fun e he ag=>?_,fun i gE lx hi=>?_⟩
  ·have:=af e (by simpa using he);simp only [ag,Bool.not_true,Bool.false_or] at this;simpa [Nat.blt_eq] using this
  ·have:=aH i lx;rw [hi] at this;simpa using this
 have DK:∀ (cJ:Array Bool),xK ops cJ→∀ (n k:Nat) ok,k≤n→ops[k]?=some ok→(∀ e∈ok.after,Region.binds .any e=true→cJ.getD e.on false=true) →
   ∀ j,((ku ops.toList []).getD k 0).testBit j=true→cJ.getD j false=true:=by
  intro cJ dh n
  induction n with
  | zero =>
    intro k ok av ar lu j az;rw [(dJ k ok ar).1] at az;rcases pF _ j _ _ az with h | ⟨e,he,ag,h⟩
    ·simp at h
    ·have:=(dJ k ok ar).2.1 e (by simpa using he) ag;omega
  | succ n a9 =>
    intro k ok av ar lu j az;rw [(dJ k ok ar).1] at az;rcases pF _ j _ _ az with h | ⟨e,he,ag,h⟩
    ·simp at h
    ·(have mU:e∈ok.after:=by simpa using he);have aY:=(dJ k ok ar).2.1 e mU ag;have m3:=lu e mU ag;rcases h with h | rfl
     ·have lC:=(Array.getElem?_eq_some_iff.1 ar).1;have yk:ops[e.on]?=some ops[e.on]:=Array.getElem?_eq_getElem (by omega);have Cf:cJ.getD e.on true=true:=by
       rcases Nat.lt_or_ge e.on cJ.size with a4 | a4
       ·simp [Array.getD_eq_getD_getElem?,a4] at m3 ⊢;exact m3
       ·simp [Array.getD_eq_getD_getElem?,a4] at m3
      exact a9 e.on _ (by omega) yk (dh e.on _ yk Cf) j h
     ·exact m3
 intro fuel
 induction fuel with
 | zero =>
   intro cJ s a w U J S BQ dh dT aM bz;have m1:ey ops.size cJ=[]:=List.length_eq_zero_iff.1 (by omega);rw [m1] at dT;simp only [gH,Option.some.injEq] at dT;subst dT;refine ⟨?_,bz a w (Step.here aM)⟩;rw [List.eq_nil_iff_forall_not_mem];intro i hi;obtain ⟨ad,o,ar,_⟩:=mem_ready.1 hi
   have:i∈ey ops.size cJ:=by
    simp only [ey,List.mem_filter,List.mem_range];exact ⟨(Array.getElem?_eq_some_iff.1 ar).1,by simp [ad]⟩
   rw [m1] at this;simp at this
 | succ fuel a9 =>
   intro cJ s a w U J S BQ dh dT aM bz;refine ⟨fun aj=>?_,fun i hi=>?_⟩
   ·
    have m1:ey ops.size cJ=[]:=by
     rw [List.eq_nil_iff_forall_not_mem];intro i
     induction i using Nat.strongRecOn with
     | _ i CC =>
       intro hi;simp only [ey,List.mem_filter,List.mem_range] at hi;obtain ⟨aY,jA⟩:=hi;have ar:ops[i]?=some ops[i]:=Array.getElem?_eq_getElem aY
       have:i∈Region.ready .any ops cJ:=mem_ready.2 ⟨by simpa using jA,_,ar,fun e he ag=>by
        have jt:=(dJ i _ ar).2.1 e he ag;have m2:=CC e.on jt;simp only [ey,List.mem_filter,List.mem_range,not_and] at m2;have aq:=m2 (by omega);rcases Nat.lt_or_ge e.on cJ.size with a4 | a4
        ·simp [Array.getD_eq_getD_getElem?,a4] at aq ⊢;exact aq
        ·rcases Nat.lt_or_ge i cJ.size with x2 | x2
         ·omega
         ·simp [Array.getD_eq_getD_getElem?,x2] at jA⟩
       rw [aj] at this;simp at this
    rw [m1] at dT;simp only [gH,Option.some.injEq] at dT;subst dT;exact bz a w (Step.here aM)
   ·obtain ⟨ad,gE,ki,lu⟩:=mem_ready.1 hi;have aY:=(Array.getElem?_eq_some_iff.1 ki).1;have m0:i∈ey ops.size cJ:=by
     simp only [ey,List.mem_filter,List.mem_range];exact ⟨aY,by simp [ad]⟩
    have Cy:(ey ops.size cJ).Pairwise (·<·):=List.pairwise_lt_range.filter _
    obtain ⟨s1,aW,aX⟩:=xe ki (ey ops.size cJ) s Cy m0 (fun j az ly fa Ce=>by
     rcases (dJ i gE ki).2.2 j fa ly Ce with h | h
     ·have:=DK cJ dh i i gE (Nat.le_refl _) ki lu j h;simp only [ey,List.mem_filter,List.mem_range] at az;have jA:=az.2;rcases Nat.lt_or_ge j cJ.size with a4 | a4
      ·simp [Array.getD_eq_getD_getElem?,a4] at jA this;rw [this] at jA;simp at jA
      ·simp [Array.getD_eq_getD_getElem?,a4] at jA
     ·exact h) dT
    refine EY bG bD ki aW aM fun aO w' ai=>?_;obtain ⟨b5,cT,a5,aL,aQ,cb⟩:=ai;refine a9 (cJ.setIfInBounds i true) s1 aO w' b5 cT a5 ?_ ?_ (by rw [zB];exact aX) cb fun hJ h7 dU=>bz hJ h7 (dU.trans aL aQ)
    ·rw [zB,List.length_erase_of_mem m0];omega
    ·intro k ok av aq e he ag;by_cases yd:k=i
     ·subst yd;rw [ki] at av;cases av;exact getD_set_true (lu e he ag)
     ·have:cJ.getD k true=true:=by rw [getD_set_ne true (Ne.symm yd)] at aq;exact aq
      exact getD_set_true (dh k ok av this e he ag)
theorem zx {F:Fence} (bG:eA F) (hm:P.follows .mixedOrders=true) {C:cc} (bD:dn P C) {lo id:Nat} {ops:Array Oper} {draw:Bool} {as:List cq} (a2:draw=true→mI ops as=true) {Q:Exit→Act→World→Prop} {s aI:a8} {a:Act}
  (h:eC P C lo ops ops.toList as s=some aI) (aM:cz B N U J S w s a) (bz:∀ aO w',Step B N U J S w aI aO w'→Q .normal aO w'):(Code.region id ops draw).wpIn F 0 P Q a w:=by
 cases draw with
 | false=>exact wpIn_region_list (pC bG bD ops.toList as s a w U J S h aM bz)
 | true =>
   refine wpIn_region_any hm ?_;have hw:aJ B U J S w.drew s.H:=m9 aM.H;have aA:=k_ U S w;have gV:cz B N U J S w.drew s a:=⟨⟨aM.T.len,fun i u v hu ae=>(aM.T.rel i u v hu ae).mono (Ext.refl J) aA.set,fun i u v hu ae=>(aM.T.own i u v hu ae).mono (Ext.refl J) aA.set fun b ag=>⟨ag,rfl,fun _ h=>h⟩⟩,hw,aM.M.aA aA⟩;have aj:=xT (P:=P) (C:=C) (lo:=lo) (as:=as) (ops:=ops) ops.toList 0 s (by simp);rw [List.drop_zero,h] at aj;have yt:ey ops.size (Array.replicate ops.size false)=List.range ops.size:=by
    simp only [ey];rw [List.filter_eq_self];intro i hi;have hi:=List.mem_range.1 hi;simp [Array.getD_eq_getD_getElem?,hi]
   refine AW bG bD (a2 rfl) ops.size (Array.replicate ops.size false) s a w.drew U J S (by rw [yt];simp) ?_ (by rw [yt,List.range_eq_range',←Array.length_toList];exact aj.symm) gV fun aO w' ai=>bz aO w' (ai.trans (Ext.refl J) aA);intro k o ar aq;have aY:=(Array.getElem?_eq_some_iff.1 ar).1;simp [Array.getD_eq_getD_getElem?,aY] at aq
end
end Go.Proofs.YtfakoboiahbhaaaGreat.Ab


namespace Go.Proofs.YtfakoboiahbhaaaGreat.Ab
open Go
section
variable {P:Program} {C:cc}
theorem Bj (bD:dn P C) {lo:Nat} {o:Oper} {an:cq} {s aI:a8} (h:Ab.execOp P C lo o an s=some aI):a_ lo s.H aI.H:=by
 obtain ⟨r,H',aC,rfl⟩:=oq h;exact Dq bD aC
theorem ot (bD:dn P C) {lo:Nat} {ops:Array Oper}:∀ (l:List Oper) (as:List cq) (s aI:a8),eC P C lo ops l as s=some aI→a_ lo s.H aI.H
 | [],as,s,aI,h=>by simp only [eC,Option.some.injEq] at h;subst h;exact a_.refl _ _
 | o::l,as,s,aI,h=>by
   simp only [eC] at h;split at h
   ·simp only [Option.bind_eq_some_iff] at h;obtain ⟨s1,ad,af⟩:=h;exact (Bj bD ad).trans (ot bD l _ _ _ af)
   ·have:=ot bD l _ _ _ h;exact this
   ·simp at h
theorem yJ (lY:List (Nat×List Bool)) (id:Nat) (s:a8):(eS lY id s).H=s.H:=by
 unfold eS;split <;> rfl
theorem yR {lo:Nat} {f:a8→Option (cC×a8)} (aN:∀ s e aI,f s=some (e,aI)→a_ lo s.H aI.H):∀ (n:Nat) (s:a8) (e:cC) (aI:a8),hX f n s=some (e,aI)→a_ lo s.H aI.H
 | 0,s,e,aI,h=>by simp [hX] at h
 | n+1,s,e,aI,h=>by
   simp only [hX] at h;split at h
   ·rename_i s1 ad;exact (aN _ _ _ ad).trans (yR aN n _ _ _ h)
   ·exact aN _ _ _ h
theorem ou (bD:dn P C) {A:c'} {fn:FuncId} {lo d:Nat} {rl:Option Nat}:∀ (c:Code) (a1:Nat) (s:a8) (e:cC) (aI:a8),exec P A C fn lo d rl c a1 s=some (e,aI)→a_ lo s.H aI.H:=by
 intro c
 induction c with
 | skip=>intro a1 s e aI h;simp only [exec,Option.some.injEq,Prod.mk.injEq] at h;obtain ⟨_,rfl⟩:=h;exact a_.refl _ _
 | region id ops draw =>
   intro a1 s e aI h;simp only [exec,Option.map_eq_some_iff,Prod.mk.injEq] at h;obtain ⟨s1,h,_,rfl⟩:=h;have:=ot bD _ _ _ _ h
   rwa [yJ] at this
 | seq a b e8 fl =>
   intro a1 s e aI h;simp only [exec] at h;split at h
   ·rename_i s1 ad;exact (e8 _ _ _ _ ad).trans (fl _ _ _ _ h)
   ·exact e8 _ _ _ _ h
 | cond c a b e8 fl =>
   intro a1 s e aI h;simp only [exec] at h;split at h
   ·exact e8 _ _ _ _ h
   ·exact fl _ _ _ _ h
   ·simp at h
 | block id c a9 =>
   intro a1 s e aI h;simp only [exec] at h;split at h
   ·rename_i bA s1 ad;split at h <;> simp only [Option.some.injEq,Prod.mk.injEq] at h <;> obtain ⟨_,rfl⟩:=h <;> exact a9 _ _ _ _ ad
   ·exact a9 _ _ _ _ h
 | loop c a9 =>
   intro a1 s e aI h;simp only [exec] at h;exact yR (fun s e aI h=>by have:=a9 _ _ _ _ h;rwa [yJ] at this) _ _ _ _ h
 | exit id=>intro a1 s e aI h;simp only [exec,Option.some.injEq,Prod.mk.injEq] at h;obtain ⟨_,rfl⟩:=h;exact a_.refl _ _
 | ret=>intro a1 s e aI h;simp only [exec,Option.some.injEq,Prod.mk.injEq] at h;obtain ⟨_,rfl⟩:=h;exact a_.refl _ _
 | scope c a9=>intro a1 s e aI h;simp only [exec] at h;exact a9 _ _ _ _ h
 | label l=>intro a1 s e aI h;simp only [exec,Option.some.injEq,Prod.mk.injEq] at h;obtain ⟨_,rfl⟩:=h;exact a_.refl _ _
 | goto l=>intro a1 s e aI h;simp [exec] at h
 | refuse y=>intro a1 s e aI h;simp [exec] at h
 | rangeFunc g bk a b e8 fl =>
   intro a1 s e aI h;simp only [exec] at h;have key:∀ {H':List au} {r:I} {b1:eZ} {args:List I} {x:au},C b1 args (s.H++[x]) lo=some (r,H')→a_ lo s.H (H'.set s.H.length .dead):=fun {H' r b1 args x} ak=>by
    have aq:=bD.low ak;refine ⟨?_,fun id ad af=>?_⟩
    ·have:=aq.1;simp at this ⊢;omega
    ·rw [List.getElem?_set_ne (by omega),aq.2 id ad (by simp;omega),List.getElem?_append_left af]
   split at h
   ·split at h
    ·rename_i r H' ak;split at h
     ·split at h
      ·simp at h
      ·split at h
       ·simp only [Option.some.injEq,Prod.mk.injEq] at h;obtain ⟨_,rfl⟩:=h;exact key ak
       ·simp only [Option.some.injEq,Prod.mk.injEq] at h;obtain ⟨_,rfl⟩:=h;exact key ak
       ·simp only [Option.some.injEq,Prod.mk.injEq] at h;obtain ⟨_,rfl⟩:=h;exact key ak
       ·simp at h
     ·simp at h
    ·simp at h
   ·simp at h
end
section
variable {P:Program} {F:Fence} {n:Nat} {b:Frame} {a:Act} {k:List Item} {cs:List Frame} {w:World} {Q:Exit→Act→World→Prop}
theorem kN {c:Code}:step P (lone (b.atR a (.code (.scope c)::k)) cs w)=.next (lone (b.atR a (.code c::.inScope c::k)) cs w) :=
 step_lone_go (by simp [stepG,stepG.exec,Frame.atR])
theorem E0 {c:Code}:step P (lone (b.atR a (.inScope c::k)) cs w)=.next (lone (b.atR a k) cs w) :=
 step_lone_go (by simp [stepG,stepG.exec,Frame.atR])
theorem AE {c:Code} (h:c.wpIn F n P Q a w) (aK:∀ l a w,¬ Q (.goto l) a w):(Code.scope c).wpIn F n P Q a w:=by
 intro b k cs Cs ag aj;have aT:(lone (b.atR a (.code (.scope c)::k)) cs w).fenced P F:=fenced_calm ag aj rfl;obtain ⟨e,j3,kT,bl,hk⟩:=h b (.inScope c::k) cs Cs ag aj;have al:∀ id,exitTo id (.inScope c::k)=exitTo id k:=fun id=>by simp [exitTo]
 cases e with
 | normal=>exact ⟨.normal,j3,kT,bl,.head aT kN (StepsIn.trans hk (.one (fenced_calm ag aj rfl) E0))⟩
 | exit id =>
   exact ⟨.exit id,j3,kT,bl,fun k' av=>.head aT kN (hk.1 k' (by rw [al];exact av)),
    fun yp av=>let ⟨k₁,ad,af⟩:=hk.2 yp (by rw [al];exact av);⟨k₁,ad,.head aT kN af⟩⟩
 | goto l=>exact absurd bl (aK l j3 kT)
 | ret=>exact ⟨_,j3,kT,bl,.of_steps (.one aT kN) hk⟩
 | panic Ft=>exact ⟨_,j3,kT,bl,.of_steps (.one aT kN) hk⟩
 | outgrown=>exact ⟨_,j3,kT,bl,.of_steps (.one aT kN) hk⟩
end
end Go.Proofs.YtfakoboiahbhaaaGreat.Ab


namespace Go.Proofs.YtfakoboiahbhaaaGreat.Ab
open Go
section
variable {P:Program} {B N:Nat} {J:List Nat} {w:World} {H:List au} {U:Nat→Option aG} {S:Nat→Nat→Prop}
theorem Af:∀ (T:List I) (bd:List Value) (bB:Nat→aG) (S:Nat→Nat→Prop),(∀ i j,bB i=bB j→i=j)→(∀ i id,bB i≠.obj id)→(∀ i id j,bB i≠.cell id j) →
  a7 bB U J S w T bd→aJ B U J S w H →
  ∃ S':Nat→Nat→Prop,(∀ b o,S b o→S' b o)∧(∀ b o,S' b o→S b o∨∃ i,U b=some (bB i))∧aJ B U J S' w H∧a7 bB U J S' w (T.map I.settle) bd∧a7 bB U J S' w (T.map I.view) bd:=by
 intro T
 induction T with
 | nil=>intro bd bB S _ _ _ ae ah;exact ⟨S,fun _ _ h=>h,fun _ _ h=>.inl h,ah,by simpa using ae,by simpa using ae⟩
 | cons u T a9 =>
   intro bd bB S az b9 cj ae ah;obtain ⟨v,hB,rfl,aj,ar,aw⟩:=ae.gN;have first:∃ a5:Nat→Nat→Prop,(∀ b o,S b o→a5 b o)∧(∀ b o,a5 b o→S b o∨U b=some (bB 0))∧aJ B U J a5 w H∧Rel J a5 w u.view v∧Rel J a5 w u.settle v∧aV U J a5 w (bB 0) u.settle v:=by
    by_cases hu:u.cP=true
    ·have ai:u.settle=u:=by
      (cases u <;> try rfl);rename_i c n k;cases k <;> first | rfl | simp [I.cP] at hu
     exact ⟨S,fun _ _ h=>h,fun _ _ h=>.inl h,ah,aj.view hu,by rw [ai];exact aj,by rw [ai];exact ar⟩
    ·obtain ⟨cells,len,z,rfl⟩:∃ cells len z,u=.ax cells len (.uniq z):=by
      unfold I.cP at hu;split at hu
      ·exact ⟨_,_,_,rfl⟩
      ·simp at hu
     obtain ⟨a5,aL,aQ,ch,aR,r2,ew⟩:=jT ah aj ar;exact ⟨a5,aL,aQ,ah.settle aL (fun b o h=>(aQ b o h).imp id fun h=>⟨_,h,b9 0,cj 0⟩) ch,aR,r2,ew⟩
   (obtain ⟨a5,aL,aQ,bV,di,Ck,pb⟩:=first);have pf:a7 (fun i=>bB (i+1)) U J a5 w T hB:=by
    refine ⟨aw.len,fun i bH bu hu ae=>(aw.rel i bH bu hu ae).mono (Ext.refl J) fun b o ai=>⟨aL b o ai,rfl⟩,fun i bH bu hu ae=>?_⟩;refine (aw.own i bH bu hu ae).mono (Ext.refl J) (fun b o ai=>⟨aL b o ai,rfl⟩) fun b ag=>⟨ag,rfl,fun o ai=>?_⟩;rcases aQ b o ai with h | h
    ·exact h
    ·rw [ag] at h;injection h with h;exact absurd (az _ _ h) (by omega)
   obtain ⟨S',dj,dc,b_,dV,dt⟩:=a9 hB (fun i=>bB (i+1)) a5 (fun i j h=>by have:=az _ _ h;omega) (fun i=>b9 (i+1)) (fun i=>cj (i+1)) pf bV;have cg:∀ b o,a5 b o→S' b o∧w.cell? ⟨b,o,none⟩=w.cell? ⟨b,o,none⟩:=fun b o ai=>⟨dj b o ai,rfl⟩;refine ⟨S',fun b o h=>dj b o (aL b o h),fun b o h=>?_,b_,?_,?_⟩
   ·rcases dc b o h with h | ⟨i,h⟩
    ·exact (aQ b o h).imp id fun h=>⟨0,h⟩
    ·exact .inr ⟨i+1,h⟩
   ·refine a7.cons (Ck.mono (Ext.refl J) cg) (pb.mono (Ext.refl J) cg fun b ag=>⟨ag,rfl,fun o h=>?_⟩) dV;rcases dc b o h with h | ⟨i,h⟩
    ·exact h
    ·rw [ag] at h;injection h with h;exact absurd (az _ _ h) (by omega)
   ·exact a7.cons (di.mono (Ext.refl J) cg) (aV.b3 (I.c_ _)) dt
theorem xR (ah:aJ B U J S w H) (o:Obj):bj U S w U S (w.alloc o) :=
 ⟨rfl,rfl,rfl,by simp,fun b ag _=>heap_alloc_old w o b ag,fun b cK ai=>⟨ai,by obtain ⟨v,ae⟩:=ah.b' b cK ai;exact oc o (l2 ae)⟩,fun _ _ ai=>.inl ai,fun _ ag=>.inl ag⟩
theorem Cn (ah:aJ B U J S w H) (o:Obj):aJ B U J S (w.alloc o) H:=by
 have aA:=xR ah o;refine ah.frame aA (fun b l ag _=>⟨ag,heap_alloc_old w o b (ah.base b l ag).2,fun _ h=>h⟩) (fun b cK ai=>?_) fun b l ag=>?_
 ·obtain ⟨v,ae⟩:=ah.b' b cK ai;exact ⟨v,((aA.set b cK ai).2).trans ae⟩
 ·have:=ah.base b l ag;exact ⟨this.1,by simp;omega⟩
theorem yT (ah:aJ B U J S w H) {id b:Nat} {L:Loop} (fV:U b=some (.obj id)) (fh:w.heap[b]?=some (.loop L)) (h_:Loop) :
  bj U S w U S (w.putObj b (.loop h_))∧aJ B U J S (w.putObj b (.loop h_)) (H.set id .dead)∧(w.putObj b (.loop h_)).heap[b]?=some (.loop h_):=by
 have ag:b<w.heap.size:=(Array.getElem?_eq_some_iff.1 fh).1;have bR:(w.putObj b (.loop h_)).heap.size=w.heap.size:=by simp [World.putObj]
 have hR:∀ ao,ao≠b→(w.putObj b (.loop h_)).heap[ao]?=w.heap[ao]?:=fun ao h=>World.putObj_heap_other h;have bY:∀ ao o,S ao o→ao≠b:=fun ao o ai e=>by
  subst e;obtain ⟨v,ae⟩:=ah.b' ao o ai;simp [World.cell?,fh] at ae
 have bw:∀ ao o,ao≠b→(w.putObj b (.loop h_)).cell? ⟨ao,o,none⟩=w.cell? ⟨ao,o,none⟩:=fun ao o h=>by
  simp only [World.cell?,hR ao h]
 have aA:bj U S w U S (w.putObj b (.loop h_)):=by
  refine ⟨rfl,rfl,rfl,by omega,fun ao bq aP=>hR ao (fun e=>by subst e;rw [fV] at aP;cases aP),fun ao o ai=>⟨ai,bw ao o (bY ao o ai)⟩,fun _ _ h=>.inl h,fun _ h=>.inl h⟩
 refine ⟨aA,⟨by simpa using ah.cA,fun bA o ar=>?_,fun ao o ai=>?_,fun ao l bq=>?_,by rw [bR];exact ah.cV⟩,World.putObj_heap_same ag⟩
 ·by_cases cr:bA=id
  ·subst cr;(have aY:bA<H.length:=by have:=(List.getElem?_eq_some_iff.1 ar).1;simpa using this);rw [List.getElem?_set_self aY] at ar;cases ar;trivial
  ·rw [List.getElem?_set_ne (Ne.symm cr)] at ar;refine (ah.obj bA o ar).frame (Ext.refl J) aA.set fun ao l bq aq=>⟨bq,hR ao (fun e=>?_),fun _ h=>h⟩;subst e;rw [fV] at bq;cases bq;rcases aq with h | ⟨j,h⟩
   ·cases h;exact cr rfl
   ·cases h
 ·obtain ⟨v,ae⟩:=ah.b' ao o ai;exact ⟨v,(bw ao o (bY ao o ai)).trans ae⟩
 ·rw [bR];exact ah.base ao l bq
theorem CT (ah:aJ B U J S w H) {id b:Nat} {L:Loop} {st:LoopState} {cB:Option Code} {fn:FuncId} {T:List I} {bk:List Nat} {as bX:Code} {an:c'}
  (aE:H[id]?=some (.loop st cB fn T bk as bX an)) (ag:J[id]?=some b) (fh:w.heap[b]?=some (.loop L)) (hd:LoopState) (g_:Option Code) :
  bj U S w U S (w.putObj b (.loop { L with state:=hd,pending:=g_ }))∧aJ B U J S (w.putObj b (.loop { L with state:=hd,pending:=g_ })) (H.set id (.loop hd g_ fn T bk as bX an)) ∧
   (w.putObj b (.loop { L with state:=hd,pending:=g_ })).heap[b]?=some (.loop { L with state:=hd,pending:=g_ }):=by
 obtain ⟨nY,nZ,ao,n3,aB,aF,aS,bp,bf,bg,cY,c4,dv⟩:=ah.obj id _ aE;rw [ag] at aB;cases aB;rw [fh] at aS;cases aS;obtain ⟨aA,b_,jr⟩:=yT ah aF fh { L with state:=hd,pending:=g_ };refine ⟨aA,⟨by simpa using b_.cA,fun bA o ar=>?_,b_.b',b_.base,b_.cV⟩,jr⟩;by_cases cr:bA=id
 ·subst cr;rw [List.getElem?_set_self (List.getElem?_eq_some_iff.1 aE).1] at ar;cases ar;exact ⟨nY,nZ,b,_,ag,aF,jr,rfl,rfl,trivial,cY,fun i u v hu ae=>⟨(c4 i u v hu ae).1,(c4 i u v hu ae).2.mono (Ext.refl J) aA.set⟩,dv⟩
 ·refine b_.obj bA o ?_;rw [List.getElem?_set_ne (Ne.symm cr)] at ar ⊢;exact ar
end
end Go.Proofs.YtfakoboiahbhaaaGreat.Ab
