
import Derived.Test.YtbnbjjgagikobaaGreatJf4
import Derived.KernelRfl
set_option linter.unusedSimpArgs false
set_option linter.unusedVariables false
set_option linter.unusedSectionVars false

namespace Go.Proofs.YtbnbjjgagikobaaGreat.Ab
open Go
set_option maxRecDepth 20000
set_option maxHeartbeats 4000000
noncomputable def xrc16:RC :=
 .seq (.reg false [I_ 2 [.tk 0] .box,I_ 4 [.cv (.bool false)] .mv]) (.seq (.reg false [I_ 5 [.tv 2] (.fa 1),I_ 6 [.tv 5] (.ld .one),I_ 7 [.tk 6] .lenS,I_ 8 [.tv 7,.cv (.int .i64 20)] (.bin .gtr),I_ 9 [.tk 8] .mv,⟨some 10,
 [.tk 1],some (9,false),none,.mv⟩,⟨some 11,[.tk 10],some (9,false),none,.lenS⟩,⟨some 12,[.tv 11,.cv (.int .i64 20)],some (9,false),none,.bin .gtr⟩,I_ 13 [.tv 9,.cv (.bool true),.tv 12] .pick,I_ 4 [.tk 13]
 .mv]) .ret)
theorem lxx16:linkF Tryz.prog ann16 16=some (xrc16,14,[.tmp 4]):=by kernel_rfl
def x16 (b:(Int×(List Int)×Int×Int)) (panels:(List (Int×Int))):Option Bool :=
 if (decide ((20:Int)<(b.2.1.length:Int)))=true then
  some true
 else
  some (decide ((20:Int)<(panels.length:Int)))
theorem x16_ok {b:(Int×(List Int)×Int×Int)} {panels:(List (Int×Int))} {v:Bool} (h:x16 b panels=some v):PO 16 [(.agg [(I b.1),(.lst (b.2.1.map I) b.2.1.length .shared),(I b.2.2.1),(I b.2.2.2)]),(.lst (panels.flatMap pr) panels.length .shared)] (B v):=by
 refine fn_pureW hmix lxx16 rfl rfl fun Q hQ=>?_
 have hR:∀ T H,RetW [.tmp 4] (B v) .ret T H→Q .ret T H:=fun T H hh=>hQ _ T H hh
 unfold x16 at h
 unfold xrc16
 skip
 conv=>whnf
 rcases bt (decide ((20:Int)<(b.2.1.length:Int))) with hb1 | hb1
 ·rw [hb1]
  conv=>whnf
  replace h:=it_t hb1 h
  obtain rfl:=Option.some.inj h
  exact hR _ _ ⟨.inr rfl,_,rfl,_,frz_pure rfl,rfl⟩
 ·rw [hb1]
  conv=>whnf
  replace h:=it_f hb1 h
  obtain rfl:=Option.some.inj h
  exact hR _ _ ⟨.inr rfl,_,rfl,_,frz_pure rfl,rfl⟩

noncomputable def xrc80_1:RC :=
 .loop (some [i_,i_,o_,o_,o_,o_,o_,i_,i_,o_,o_,o_,o_,o_,o_,o_,o_,o_,o_]) (.seq (.reg false [I_ 9 [.sl 8,.sl 7] (.bin .lss)]) (.seq (.cond (.sl 9) .skip (.exit
 0)) (.seq (.block 1 (.seq (.reg false [I_ 10 [.sl 8] .mv,I_ 5 [.tk 10] .mv]) (.seq (.reg false [I_ 11 [.sl 1] .mv,I_ 12 [.sl 0] .mv,I_ 13 [.sl 5] .mv,I_ 14 [.tv 12,.tv 13] (.ia 1),I_ 15 [.tv 14] (.ld .one),I_ 16 [.sl 11,
 .sl 15] (.call 6)]) (.cond (.sl 16) (.seq (.reg false [I_ 17 [.tk 5] .mv,I_ 4 [.tk 17] .mv]) .ret) .skip)))) (.reg false [I_ 18 [.tv 8,.cv (.int .i64 1)] (.bin .add),I_ 8 [.tk 18] .mv]))))
noncomputable def xrc80:RC :=
 .seq (.reg false [I_ 4 [.cv (.int .i64 0)] .mv]) (.seq (.seq (.reg false [I_ 6 [.sl 0] .mv,I_ 7 [.tk 6] .lenS,I_ 8 [.cv (.int .i64 0)] .mv]) (.block 0 xrc80_1)) (.seq (.reg false [I_ 4 [.cv (.int .i64 (-1))] .mv]) .ret))
theorem lxx80:linkF Tryz.prog ann80 80=some (xrc80,19,[.tmp 4]):=by kernel_rfl
def x80_l1 (s:(List Int)) (f:(Int→Option Bool)) (kl1_0:Unit→Option Int):Nat→Int→Option Int
 | 0,_=>none
 | m+1,s1 =>
   if (decide (s1<(s.length:Int)))=true then
    gd (0≤s1∧s1<(s.length:Int)) <|
    (f (ix s s1)).bind fun r1 =>
    if r1=true then
     some s1
    else
     x80_l1 s f kl1_0 m (w (s1+(1:Int)))
   else
    kl1_0 ()
def x80 (s:(List Int)) (f:(Int→Option Bool)):Option Int :=
 x80_l1 s f (fun _ =>
   some (-1:Int)) FU (0:Int)
theorem x80_l1_ok {s:(List Int)} {f:(Int→Option Bool)} {kl1_0:Unit→Option Int} {s1:Int} {kf_f:FuncId} {cs_f:List AV} (hc_f:Boxes cs_f) (hk_f:∀ (y0:Int) (r:Bool),f y0=some r→PO kf_f ((I y0)::cs_f) (B r)) {v:Int} {Q:Ex→List AV→List AObj→Prop}   (hR:∀ T H,RetW [.tmp 4] (I v) .ret T H→Q .ret T H) (hkl1_0:∀ (u0:AV) (u1:AV) (u4:AV) (u5:AV) (u6:AV) (u7:AV) (u8:AV) (u9:AV) (u10:AV) (u11:AV) (u12:AV) (u13:AV) (u14:AV) (u15:AV) (u16:AV) (u17:AV) (u18:AV),kl1_0 ()=some v→Q (.exit 0) [u0,u1,J,J,u4,u5,u6,u7,u8,u9,u10,u11,u12,u13,u14,u15,u16,u17,u18] []) {T:List AV} (hT:zipKeep [i_,i_,o_,o_,o_,o_,o_,i_,i_,o_,o_,o_,o_,o_,o_,o_,o_,o_,o_] T=slots 19 [(0,(.lst (s.map I) s.length .shared)),(1,(.func kf_f [] cs_f)),(7,(I (s.length:Int))),(8,(I s1))]) (h:x80_l1 s f kl1_0 FU s1=some v) :
  wpR Tryz.prog ann80 80 0 none xrc80_1 T [] Q:=by
 unfold xrc80_1
 skip
 refine wp_loop hT ?_
 refine .intro (fun m T H=>∃ (s1:Int),T=slots 19 [(0,(.lst (s.map I) s.length .shared)),(1,(.func kf_f [] cs_f)),(7,(I (s.length:Int))),(8,(I s1))]∧H=[]∧x80_l1 s f kl1_0 m s1=some v) FU ⟨s1,rfl,rfl,h⟩ ?_
 clear h hT
 rintro m T H ⟨s1,rfl,rfl,h⟩
 cases m
 ·exact none_ne h
 rename_i m
 rw [x80_l1.eq_2] at h
 conv=>whnf
 rcases bt (decide (s1<(s.length:Int))) with hb1 | hb1
 ·rw [hb1]
  conv=>whnf
  replace h:=it_t hb1 h
  obtain ⟨hb2,h⟩:=gd_some h
  refine ⟨hb2,?_⟩
  rw [drop1 I s s1 hb2]
  conv=>whnf
  obtain ⟨r1,hb3,h⟩:=bd_some h
  refine ⟨_,_,call6 (bs:=((I (ix s s1))::cs_f)) (by simp only [List.map_cons,hc_f.shz,hc_f.dim];rfl) (by simp only [List.map_cons,hc_f.shz];exact (allc rfl hc_f.all8)) (hk_f _ _ hb3) rfl,?_⟩
  conv=>whnf
  cases r1
  ·conv=>whnf
   replace h:=it_f rfl h
   exact ⟨m,Nat.lt_succ_self m,(w (s1+(1:Int))),rfl,rfl,h⟩
  ·conv=>whnf
   replace h:=it_t rfl h
   obtain rfl:=Option.some.inj h
   exact hR _ _ ⟨.inr rfl,_,rfl,_,frz_pure rfl,rfl⟩
 ·rw [hb1]
  conv=>whnf
  replace h:=it_f hb1 h
  exact hkl1_0 _ _ _ _ _ _ _ _ _ _ _ _ _ _ _ _ _ h
theorem x80_ok {s:(List Int)} {f:(Int→Option Bool)} {kf_f:FuncId} {cs_f:List AV} (hc_f:Boxes cs_f) (hk_f:∀ (y0:Int) (r:Bool),f y0=some r→PO kf_f ((I y0)::cs_f) (B r)) {v:Int} (h:x80 s f=some v):PO 80 [(.lst (s.map I) s.length .shared),(.func kf_f [] cs_f)] (I v):=by
 refine fn_pureW hmix lxx80 rfl rfl fun Q hQ=>?_
 have hR:∀ T H,RetW [.tmp 4] (I v) .ret T H→Q .ret T H:=fun T H hh=>hQ _ T H hh
 unfold x80 at h
 unfold xrc80
 obtain ⟨c_1,g_1⟩:∃ c,xrc80_1=c:=⟨_,rfl⟩
 rw [g_1]
 conv=>whnf
 subst g_1
 refine x80_l1_ok hc_f hk_f ?_ ?_ (by exact rfl) h
 ·exact fun T H hh=>hR T H hh
 ·intro u0 u1 u4 u5 u6 u7 u8 u9 u10 u11 u12 u13 u14 u15 u16 u17 u18 h
  conv=>whnf
  obtain rfl:=Option.some.inj h
  exact hR _ _ ⟨.inr rfl,_,rfl,_,frz_pure rfl,rfl⟩

noncomputable def xrc86:RC :=
 .seq (.reg false [I_ 4 [.cv (.bool false)] .mv]) (.seq (.reg false [I_ 5 [.tk 0] .mv,I_ 6 [.tk 1] .mv,I_ 7 [.cv (.func 80 [] []),.sl 5,.sl 6] (.call 6),I_ 8 [.tv 7,.cv (.int .i64 0)] (.bin .geq),I_ 4 [.tk 8] .mv]) .ret)
theorem lxx86:linkF Tryz.prog ann86 86=some (xrc86,9,[.tmp 4]):=by kernel_rfl
def x86 (s:(List Int)) (f:(Int→Option Bool)):Option Bool :=
 (x80 s f).bind fun r1 =>
 some (decide ((0:Int)≤r1))
theorem x86_ok {s:(List Int)} {f:(Int→Option Bool)} {kf_f:FuncId} {cs_f:List AV} (hc_f:Boxes cs_f) (hk_f:∀ (y0:Int) (r:Bool),f y0=some r→PO kf_f ((I y0)::cs_f) (B r)) {v:Bool} (h:x86 s f=some v):PO 86 [(.lst (s.map I) s.length .shared),(.func kf_f [] cs_f)] (B v):=by
 refine fn_pureW hmix lxx86 rfl rfl fun Q hQ=>?_
 have hR:∀ T H,RetW [.tmp 4] (B v) .ret T H→Q .ret T H:=fun T H hh=>hQ _ T H hh
 unfold x86 at h
 unfold xrc86
 skip
 conv=>whnf
 obtain ⟨r1,hb1,h⟩:=bd_some h
 refine ⟨_,_,call6' (cs:=[(.lst (s.map I) s.length .shared),(.func kf_f [] cs_f)]) (bs:=[(.lst (s.map I) s.length .shared),(.func kf_f [] cs_f)]) (map_cons' rfl (map_cons' (hc_f.fn _ _) map_nil')) (by rfl) (by exact (allc (pu_map (fun _=>rfl) _ _ _) (allc (hc_f.pfn _) rfl))) (x80_ok hc_f hk_f hb1) rfl,?_⟩
 conv=>whnf
 obtain rfl:=Option.some.inj h
 exact hR _ _ ⟨.inr rfl,_,rfl,_,frz_pure rfl,rfl⟩

noncomputable def xrc87:RC :=
 .seq (.reg false [I_ 4 [.cv (.bool false)] .mv]) (.seq (.reg false [I_ 5 [.sl 0] .mv,I_ 6 [.tv 1] (.ld .one),I_ 7 [.tv 5,.tv 6] (.bin .lss),I_ 8 [.tk 7] .mv,⟨some 9,[.tk 0],some (8,false),none,.mv⟩,⟨some 10,[.tv 2],
 some (8,false),none,.ld .one⟩,⟨some 11,[.tv 9,.tv 10],some (8,false),none,.bin .gtr⟩,I_ 12 [.tv 8,.cv (.bool true),.tv 11] .pick,I_ 4 [.tk 12] .mv]) .ret)
theorem lxx87:linkF Tryz.prog ann87 87=some (xrc87,13,[.tmp 4]):=by kernel_rfl
def x87 (n:Int) (c0:Int) (c1:Int):Option Bool :=
 if (decide (n<c0))=true then
  some true
 else
  some (decide (c1<n))
theorem x87_ok {n:Int} {c0:Int} {c1:Int} {v:Bool} (h:x87 n c0 c1=some v):PO 87 [(I n),(.lptr [(I c0)]),(.lptr [(I c1)])] (B v):=by
 refine fn_pureW hmix lxx87 rfl rfl fun Q hQ=>?_
 have hR:∀ T H,RetW [.tmp 4] (B v) .ret T H→Q .ret T H:=fun T H hh=>hQ _ T H hh
 unfold x87 at h
 unfold xrc87
 skip
 conv=>whnf
 rcases bt (decide (n<c0)) with hb1 | hb1
 ·rw [hb1]
  conv=>whnf
  replace h:=it_t hb1 h
  obtain rfl:=Option.some.inj h
  exact hR _ _ ⟨.inr rfl,_,rfl,_,frz_pure rfl,rfl⟩
 ·rw [hb1]
  conv=>whnf
  replace h:=it_f hb1 h
  obtain rfl:=Option.some.inj h
  exact hR _ _ ⟨.inr rfl,_,rfl,_,frz_pure rfl,rfl⟩

noncomputable def xrc60:RC :=
 .seq (.reg false [I_ 3 [.tk 0] .box,I_ 4 [.tk 1] .box,I_ 6 [.cv (.bool false)] .mv]) (.seq (.reg false [I_ 7 [.tk 2] .mv,I_ 8 [.tv 3,.tv 4] (.mkF 87 0 2),I_ 9 [.cv (.func 86 [] []),.sl 7,.sl 8] (.call 6),I_ 10 [.tv 9]
 (.un .not),I_ 6 [.tk 10] .mv]) .ret)
theorem lxx60:linkF Tryz.prog ann60 60=some (xrc60,11,[.tmp 6]):=by kernel_rfl
def x60 (lo:Int) (hi:Int) (l:(List Int)):Option Bool :=
 (x86 l (fun y0=>x87 y0 lo hi)).bind fun r1 =>
 some (!r1)
theorem x60_ok {lo:Int} {hi:Int} {l:(List Int)} {v:Bool} (h:x60 lo hi l=some v):PO 60 [(I lo),(I hi),(.lst (l.map I) l.length .shared)] (B v):=by
 refine fn_pureW hmix lxx60 rfl rfl fun Q hQ=>?_
 have hR:∀ T H,RetW [.tmp 6] (B v) .ret T H→Q .ret T H:=fun T H hh=>hQ _ T H hh
 unfold x60 at h
 unfold xrc60
 skip
 conv=>whnf
 obtain ⟨r1,hb1,h⟩:=bd_some h
 refine ⟨_,_,call6' (cs:=[(.lst (l.map I) l.length .shared),(.func 87 [] [(.lptr [(I lo)]),(.lptr [(I hi)])])]) (bs:=[(.lst (l.map I) l.length .shared),(.func 87 [] [(.lptr [(I lo)]),(.lptr [(I hi)])])]) (map_cons' rfl (map_cons' (shz_func map_nil' (map_cons' (shz0_ptr' (cs:=[(I lo)]) (by first | with_reducible exact get_concat _ _ | exact get_concat _ _ | exact ga (get_concat _ _) | rfl | (simp [List.getElem?_append,AV.settle];done)) rfl) (map_cons' (shz0_ptr' (cs:=[(I hi)]) (by first | with_reducible exact get_concat _ _ | exact get_concat _ _ | exact ga (get_concat _ _) | rfl | (simp [List.getElem?_append,AV.settle];done)) rfl) map_nil'))) map_nil')) (by rfl) (by exact (allc (pu_map (fun _=>rfl) _ _ _) (allc (pu_fn rfl (allc (pu_lptr (allc rfl rfl)) (allc (pu_lptr (allc rfl rfl)) rfl))) rfl))) (x86_ok ⟨(allc (pu_lptr (allc rfl rfl)) (allc (pu_lptr (allc rfl rfl)) rfl)),by simp⟩ (fun _ _ hy=>x87_ok hy) hb1) rfl,?_⟩
 conv=>whnf
 obtain rfl:=Option.some.inj h
 exact hR _ _ ⟨.inr rfl,_,rfl,_,frz_pure rfl,rfl⟩

noncomputable def xrc61_1:RC :=
 .loop (some [o_,i_,o_,o_,o_,i_,o_,o_,i_,i_,i_,o_,o_,o_,o_,o_,o_,o_,o_,o_,o_,o_,o_,o_]) (.seq (.reg false [I_ 11 [.sl 10,.sl 9] (.bin
 .lss)]) (.seq (.cond (.sl 11) .skip (.exit 0)) (.seq (.block 1 (.seq (.reg false [I_ 12 [.sl 8,.sl 10] (.ia 1),I_ 13 [.tv 12] (.ld .one),I_ 7 [.tk 13] .mv]) (.seq (.seq (.reg false [I_ 14 [.tk 5] .mv,I_ 15 [.sl 1] .mv,I_
 16 [.tv 15,.cv (.int .i64 1)] (.bin .sub),I_ 17 [.sl 7] .mv,I_ 18 [.tv 17] (.buildS 1 1 [.int .i64 0] [0]),I_ 19 [.cv (.func 60 [] []),.sl 14,.sl 16,.sl 18] (.call 3),I_ 20 [.tv 19] (.un .not)]) (.cond (.sl 20) (.seq
 (.reg false [I_ 4 [.cv (.bool false)] .mv]) .ret) .skip)) (.reg false [I_ 21 [.tk 7] .mv,I_ 22 [.tv 21,.cv (.int .i64 1)] (.bin .add),I_ 5 [.tk 22] .mv])))) (.reg false [I_ 23 [.tv 10,.cv (.int .i64 1)] (.bin .add),I_ 10
 [.tk 23] .mv]))))
noncomputable def xrc61:RC :=
 .seq (.reg false [I_ 4 [.cv (.bool false)] .mv]) (.seq (.reg false [I_ 5 [.cv (.int .i64 0)] .mv]) (.seq (.seq (.reg false [I_ 8 [.tk 0] .mv,I_ 9 [.sl 8] .lenS,I_ 10 [.cv (.int .i64 0)] .mv]) (.block 0 xrc61_1)) (.seq (.reg
 false [I_ 4 [.cv (.bool true)] .mv]) .ret)))
theorem lxx61:linkF Tryz.prog ann61 61=some (xrc61,24,[.tmp 4]):=by kernel_rfl
def x61_l1 (l:(List Int)) (below:Int) (kl1_0:Unit→Option Bool):Nat→Int→Int→Option Bool
 | 0,_,_=>none
 | m+1,s1,s2 =>
   if (decide (s2<(l.length:Int)))=true then
    gd (0≤s2∧s2<(l.length:Int)) <|
    (x60 s1 (w (below-(1:Int))) [(ix l s2)]).bind fun r1 =>
    if r1=true then
     x61_l1 l below kl1_0 m (w ((ix l s2)+(1:Int))) (w (s2+(1:Int)))
    else
     some false
   else
    kl1_0 ()
def x61 (l:(List Int)) (below:Int):Option Bool :=
 x61_l1 l below (fun _ =>
   some true) FU (0:Int) (0:Int)
theorem x61_l1_ok {l:(List Int)} {below:Int} {kl1_0:Unit→Option Bool} {s1:Int} {s2:Int} {v:Bool} {Q:Ex→List AV→List AObj→Prop}   (hR:∀ T H,RetW [.tmp 4] (B v) .ret T H→Q .ret T H) (hkl1_0:∀ (u0:AV) (u1:AV) (u4:AV) (u5:AV) (u7:AV) (u8:AV) (u9:AV) (u10:AV) (u11:AV) (u12:AV) (u13:AV) (u14:AV) (u15:AV) (u16:AV) (u17:AV) (u18:AV) (u19:AV) (u20:AV) (u21:AV) (u22:AV) (u23:AV),kl1_0 ()=some v→Q (.exit 0) [u0,u1,J,J,u4,u5,J,u7,u8,u9,u10,u11,u12,u13,u14,u15,u16,u17,u18,u19,u20,u21,u22,u23] []) {T:List AV} (hT:zipKeep [o_,i_,o_,o_,o_,i_,o_,o_,i_,i_,i_,o_,o_,o_,o_,o_,o_,o_,o_,o_,o_,o_,o_,o_] T=slots 24 [(1,(I below)),(5,(I s1)),(8,(.lst (l.map I) l.length .shared)),(9,(I (l.length:Int))),(10,(I s2))]) (h:x61_l1 l below kl1_0 FU s1 s2=some v) :
  wpR Tryz.prog ann61 61 0 none xrc61_1 T [] Q:=by
 unfold xrc61_1
 skip
 refine wp_loop hT ?_
 refine .intro (fun m T H=>∃ (s1:Int) (s2:Int),T=slots 24 [(1,(I below)),(5,(I s1)),(8,(.lst (l.map I) l.length .shared)),(9,(I (l.length:Int))),(10,(I s2))]∧H=[]∧x61_l1 l below kl1_0 m s1 s2=some v) FU ⟨s1,s2,rfl,rfl,h⟩ ?_
 clear h hT
 rintro m T H ⟨s1,s2,rfl,rfl,h⟩
 cases m
 ·exact none_ne h
 rename_i m
 rw [x61_l1.eq_2] at h
 conv=>whnf
 rcases bt (decide (s2<(l.length:Int))) with hb1 | hb1
 ·rw [hb1]
  conv=>whnf
  replace h:=it_t hb1 h
  obtain ⟨hb2,h⟩:=gd_some h
  refine ⟨hb2,?_⟩
  rw [drop1 I l s2 hb2]
  conv=>whnf
  obtain ⟨r1,hb3,h⟩:=bd_some h
  refine ⟨(allc rfl (allc rfl (allc rfl rfl))),_,x60_ok hb3,?_⟩
  conv=>whnf
  cases r1
  ·conv=>whnf
   replace h:=it_f rfl h
   obtain rfl:=Option.some.inj h
   exact hR _ _ ⟨.inr rfl,_,rfl,_,frz_pure rfl,rfl⟩
  ·conv=>whnf
   replace h:=it_t rfl h
   exact ⟨m,Nat.lt_succ_self m,(w ((ix l s2)+(1:Int))),(w (s2+(1:Int))),rfl,rfl,h⟩
 ·rw [hb1]
  conv=>whnf
  replace h:=it_f hb1 h
  exact hkl1_0 _ _ _ _ _ _ _ _ _ _ _ _ _ _ _ _ _ _ _ _ _ h
theorem x61_ok {l:(List Int)} {below:Int} {v:Bool} (h:x61 l below=some v):PO 61 [(.lst (l.map I) l.length .shared),(I below)] (B v):=by
 refine fn_pureW hmix lxx61 rfl rfl fun Q hQ=>?_
 have hR:∀ T H,RetW [.tmp 4] (B v) .ret T H→Q .ret T H:=fun T H hh=>hQ _ T H hh
 unfold x61 at h
 unfold xrc61
 obtain ⟨c_1,g_1⟩:∃ c,xrc61_1=c:=⟨_,rfl⟩
 rw [g_1]
 conv=>whnf
 subst g_1
 refine x61_l1_ok ?_ ?_ (by exact rfl) h
 ·exact fun T H hh=>hR T H hh
 ·intro u0 u1 u4 u5 u7 u8 u9 u10 u11 u12 u13 u14 u15 u16 u17 u18 u19 u20 u21 u22 u23 h
  conv=>whnf
  obtain rfl:=Option.some.inj h
  exact hR _ _ ⟨.inr rfl,_,rfl,_,frz_pure rfl,rfl⟩

noncomputable def xrc20:RC :=
 .seq (.reg false [I_ 1 [.tk 0] .box,I_ 2 [.cv (.int .i64 0)] .mv]) (.seq (.block 0 (.seq (.reg false [I_ 4 [.sl 1] (.fa 0),I_ 5 [.tv 4] (.ld .one),I_ 6 [.tv 5] (.buildS 1 1 [.int .i64 0] [0]),I_ 7 [.cv (.func 60 [] []),.cv
 (.int .i64 1),.cv (.int .i64 10),.sl 6] (.call 3),I_ 8 [.tv 7] (.un .not),I_ 3 [.tk 8] .mv]) (.cond (.sl 3) (.seq (.reg false [I_ 2 [.cv (.int .i64 6)] .mv]) .ret) (.seq (.reg false [I_ 10 [.sl 1] (.fa 1),I_ 11 [.tv 10]
 (.ld .one),I_ 12 [.sl 1] (.fa 0),I_ 13 [.tv 12] (.ld .one),I_ 14 [.cv (.func 61 [] []),.sl 11,.sl 13] (.call 3),I_ 15 [.tv 14] (.un .not),I_ 9 [.tk 15] .mv]) (.cond (.sl 9) (.seq (.reg false [I_ 2 [.cv (.int .i64 2)]
 .mv]) .ret) (.seq (.reg false [I_ 17 [.sl 1] (.fa 1),I_ 18 [.tv 17] (.ld .one),I_ 19 [.tk 18] .lenS,I_ 20 [.sl 1] (.fa 0),I_ 21 [.tv 20] (.ld .one),I_ 22 [.tv 19,.tv 21] (.bin .eql),I_ 16 [.tk 22] .mv]) (.cond (.sl 16)
 (.seq (.reg false [I_ 2 [.cv (.int .i64 10)] .mv]) .ret) (.seq (.reg false [I_ 24 [.sl 1] (.fa 2),I_ 25 [.tv 24] (.ld .one),I_ 26 [.tv 25] (.buildS 1 1 [.int .i64 0] [0]),I_ 27 [.cv (.func 60 [] []),.cv (.int .i64 0),.cv
 (.int .i64 20),.sl 26] (.call 3),I_ 28 [.tv 27] (.un .not),I_ 29 [.tk 28] .mv,⟨some 30,[.sl 1],some (29,false),none,.fa 3⟩,⟨some 31,[.tv 30],some (29,false),none,.ld .one⟩,⟨some 32,[.tv 31,.cv (.int .i64 0)],
 some (29,false),none,.bin .lss⟩,I_ 33 [.tv 29,.cv (.bool true),.tv 32] .pick,I_ 34 [.tk 33] .mv,⟨some 35,[.tv 1],some (34,false),none,.fa 3⟩,⟨some 36,[.tv 35],some (34,false),none,.ld .one⟩,⟨some 37,[.tv
 36,.cv (.int .i64 10)],some (34,false),none,.bin .gtr⟩,I_ 38 [.tv 34,.cv (.bool true),.tv 37] .pick,I_ 23 [.tk 38] .mv]) (.cond (.sl 23) (.seq (.reg false [I_ 2 [.cv (.int .i64 3)] .mv]) .ret) .skip))))))))) (.seq
 (.reg false [I_ 2 [.cv (.int .i64 0)] .mv]) .ret))
theorem lxx20:linkF Tryz.prog ann20 20=some (xrc20,39,[.tmp 2]):=by kernel_rfl
def x20 (b:(Int×(List Int)×Int×Int)):Option Int :=
 (x60 (1:Int) (10:Int) [b.1]).bind fun r1 =>
 if r1=true then
  (x61 b.2.1 b.1).bind fun r2 =>
  if r2=true then
   if (decide ((b.2.1.length:Int)=b.1))=true then
    some (10:Int)
   else
    (x60 (0:Int) (20:Int) [b.2.2.1]).bind fun r3 =>
    if r3=true then
     if (decide (b.2.2.2<(0:Int)))=true then
      some (3:Int)
     else
      if (decide ((10:Int)<b.2.2.2))=true then
       some (3:Int)
      else
       some (0:Int)
    else
     some (3:Int)
  else
   some (2:Int)
 else
  some (6:Int)
theorem x20_ok {b:(Int×(List Int)×Int×Int)} {v:Int} (h:x20 b=some v):PO 20 [(.agg [(I b.1),(.lst (b.2.1.map I) b.2.1.length .shared),(I b.2.2.1),(I b.2.2.2)])] (I v):=by
 refine fn_pureW hmix lxx20 rfl rfl fun Q hQ=>?_
 have hR:∀ T H,RetW [.tmp 2] (I v) .ret T H→Q .ret T H:=fun T H hh=>hQ _ T H hh
 unfold x20 at h
 unfold xrc20
 skip
 conv=>whnf
 obtain ⟨r1,hb1,h⟩:=bd_some h
 refine ⟨(allc rfl (allc rfl (allc rfl rfl))),_,x60_ok hb1,?_⟩
 conv=>whnf
 cases r1
 ·conv=>whnf
  replace h:=it_f rfl h
  obtain rfl:=Option.some.inj h
  exact hR _ _ ⟨.inr rfl,_,rfl,_,frz_pure rfl,rfl⟩
 ·conv=>whnf
  replace h:=it_t rfl h
  obtain ⟨r2,hb2,h⟩:=bd_some h
  refine ⟨(allc (pu_map (fun _=>rfl) _ _ _) (allc rfl rfl)),_,x61_ok hb2,?_⟩
  conv=>whnf
  cases r2
  ·conv=>whnf
   replace h:=it_f rfl h
   obtain rfl:=Option.some.inj h
   exact hR _ _ ⟨.inr rfl,_,rfl,_,frz_pure rfl,rfl⟩
  ·conv=>whnf
   replace h:=it_t rfl h
   rcases bt (decide ((b.2.1.length:Int)=b.1)) with hb3 | hb3
   ·rw [hb3]
    conv=>whnf
    replace h:=it_t hb3 h
    obtain rfl:=Option.some.inj h
    exact hR _ _ ⟨.inr rfl,_,rfl,_,frz_pure rfl,rfl⟩
   ·rw [hb3]
    conv=>whnf
    replace h:=it_f hb3 h
    obtain ⟨r3,hb4,h⟩:=bd_some h
    refine ⟨(allc rfl (allc rfl (allc rfl rfl))),_,x60_ok hb4,?_⟩
    conv=>whnf
    cases r3
    ·conv=>whnf
     replace h:=it_f rfl h
     obtain rfl:=Option.some.inj h
     exact hR _ _ ⟨.inr rfl,_,rfl,_,frz_pure rfl,rfl⟩
    ·conv=>whnf
     replace h:=it_t rfl h
     rcases bt (decide (b.2.2.2<(0:Int))) with hb5 | hb5
     ·rw [hb5]
      conv=>whnf
      replace h:=it_t hb5 h
      obtain rfl:=Option.some.inj h
      exact hR _ _ ⟨.inr rfl,_,rfl,_,frz_pure rfl,rfl⟩
     ·rw [hb5]
      conv=>whnf
      replace h:=it_f hb5 h
      rcases bt (decide ((10:Int)<b.2.2.2)) with hb6 | hb6
      ·rw [hb6]
       conv=>whnf
       replace h:=it_t hb6 h
       obtain rfl:=Option.some.inj h
       exact hR _ _ ⟨.inr rfl,_,rfl,_,frz_pure rfl,rfl⟩
      ·rw [hb6]
       conv=>whnf
       replace h:=it_f hb6 h
       obtain rfl:=Option.some.inj h
       exact hR _ _ ⟨.inr rfl,_,rfl,_,frz_pure rfl,rfl⟩

noncomputable def xrc18:RC :=
 .seq (.reg false [I_ 1 [.tk 0] .box,I_ 2 [.cv (.lst [] 0 .full)] (.nil 1),I_ 3 [.cv (.int .i64 0)] .mv]) (.seq (.seq (.reg false [I_ 7 [.sl 1] (.ld (.str 4)),I_ 8 [.cv (.func 20 [] []),.sl 7] (.call 3),I_ 4 [.tk 8] .mv])
 (.seq (.reg false [I_ 9 [.sl 4] .mv,I_ 10 [.tv 9,.cv (.int .i64 0)] (.bin .neq)]) (.cond (.sl 10) (.seq (.reg false [I_ 11 [.tk 4] .mv,I_ 2 [.cv (.lst [] 0 .full)] (.nil 1),I_ 3 [.tk 11] .mv]) .ret) .skip))) (.seq (.reg
 false [I_ 12 [.tv 1] (.ld (.str 4)),I_ 13 [.cv (.func 59 [] []),.sl 12,.cv (.lst [] 0 .full)] (.call 3),I_ 14 [.tv 13] .nilc,I_ 15 [.tv 14] (.fa 5),I_ 16 [.tv 15] (.ld .one),I_ 5 [.tk 16] .mv]) (.seq (.reg false [I_ 17
 [.sl 5] .mv,I_ 18 [.tk 17] .lenS,I_ 19 [.sl 18,.tv 18] (.mkS [.int .i64 0] 1 8),I_ 6 [.tk 19] .mv]) (.seq (.reg false [I_ 20 [.sl 6] .mv,I_ 21 [.tk 5] .mv,I_ 22 [.tk 20,.tk 21] (.other (Oper.mk (some 22) (Op.call
 (Call.mk (Callee.builtin Builtin.copy) (Array.mk [Operand.tmp 20, Operand.tmp 21]) (Array.mk [22, 22]))) 3 "press.go:63" (Array.mk [Edge.mk 0 Ground.data, Edge.mk 1 Ground.data]) none) 0)]) (.seq (.reg false [I_ 23 [.tk 6] .mv,
 I_ 2 [.tk 23] .mv,I_ 3 [.cv (.int .i64 0)] .mv]) .ret)))))
theorem lxx18:linkF Tryz.prog ann18 18=some (xrc18,24,[.tmp 2,.tmp 3]):=by kernel_rfl
def x18 (b:(Int×(List Int)×Int×Int)):Option ((List Int)×Int) :=
 (x20 b).bind fun r1 =>
 if (decide (r1≠(0:Int)))=true then
  some ([],r1)
 else
  (x59 b []).bind fun r2 =>
  gd (0≤(r2.2.2.1.length:Int)∧(r2.2.2.1.length:Int)≤(r2.2.2.1.length:Int)∧(r2.2.2.1.length:Int).toNat*8≤140737488355328) <|
  gd ((r2.2.2.1.length:Int).toNat=(List.replicate (r2.2.2.1.length:Int).toNat (0:Int)).length∧r2.2.2.1.length=(r2.2.2.1.length:Int).toNat) <|
  gd ((r2.2.2.1.length:Int).toNat=r2.2.2.1.length) <|
  some (r2.2.2.1,(0:Int))
theorem x18_ok {b:(Int×(List Int)×Int×Int)} {v:((List Int)×Int)} (h:x18 b=some v):PO 18 [(.agg [(I b.1),(.lst (b.2.1.map I) b.2.1.length .shared),(I b.2.2.1),(I b.2.2.2)])] (.tuple [(.lst (v.1.map I) v.1.length .shared),(I v.2)]):=by
 refine fn_pureW hmix lxx18 rfl (pu_tup (allc (pu_map (fun _=>rfl) _ _ _) (allc rfl rfl))) fun Q hQ=>?_
 have hR:∀ T H,RetW [.tmp 2,.tmp 3] (.tuple [(.lst (v.1.map I) v.1.length .shared),(I v.2)]) .ret T H→Q .ret T H:=fun T H hh=>hQ _ T H hh
 unfold x18 at h
 unfold xrc18
 skip
 conv=>whnf
 obtain ⟨r1,hb1,h⟩:=bd_some h
 refine ⟨(allc (pu_agg (allc rfl (allc (pu_map (fun _=>rfl) _ _ _) (allc rfl (allc rfl rfl))))) rfl),_,x20_ok hb1,?_⟩
 conv=>whnf
 rcases bt (decide (r1≠(0:Int))) with hb2 | hb2
 ·rw [hb2]
  conv=>whnf
  replace h:=it_t hb2 h
  obtain rfl:=Option.some.inj h
  exact hR _ _ ⟨.inr rfl,_,rfl,_,frz_pure (pu_tup (allc rfl (allc rfl rfl))),rfl⟩
 ·rw [hb2]
  conv=>whnf
  replace h:=it_f hb2 h
  obtain ⟨r2,hb3,h⟩:=bd_some h
  refine ⟨(allc (pu_agg (allc rfl (allc (pu_map (fun _=>rfl) _ _ _) (allc rfl (allc rfl rfl))))) (allc rfl rfl)),_,x59_ok hb3,?_⟩
  conv=>whnf
  obtain ⟨hb4,h⟩:=gd_some h
  refine ⟨hb4.1,hb4.2.1,hb4.2.2,?_⟩
  rw [replMap I (0:Int)]
  conv=>whnf
  obtain ⟨hb5,h⟩:=gd_some h
  refine ⟨_,_,fun C=>(opAll_copy rfl).trans (copy_all (e:=3) (f:=I) (l:=(List.replicate (r2.2.2.1.length:Int).toNat (0:Int))) (m:=r2.2.2.1) (by kernel_rfl) (by kernel_rfl) (Nat.zero_le _) (by first | with_reducible exact get_concat _ _ | exact get_concat _ _ | exact ga (get_concat _ _) | rfl | (simp [List.getElem?_append,AV.settle];done)) hb5.1 hb5.2),?_⟩
  conv=>whnf
  obtain ⟨hb6,h⟩:=gd_some h
  obtain rfl:=Option.some.inj h
  exact hR _ _ ⟨.inr rfl,_,rfl,_,(frz_tup (mapO_cons' (frz_row (f:=I) (l:=r2.2.2.1) (by first | with_reducible exact get_concat _ _ | exact get_concat _ _ | exact ga (get_concat _ _) | rfl | (simp [List.getElem?_append,AV.settle];done)) hb6 (fun _=>rfl) (fun _=>rfl)) (mapO_cons' (frz_pure rfl) mapO_nil'))),by simp only [AV.settle,AV.view,AV.dim,List.map_cons,List.map_nil,dim0_frz];exact congrArg (fun n=>AV.tuple [AV.lst _ n .shared,_]) hb6⟩

noncomputable def xrc62_1:RC :=
 .loop (some [i_,i_,o_,o_,o_,i_,o_,o_,o_,o_,o_,o_,o_,o_,o_,o_,o_,o_,o_,o_,o_,o_,o_,o_,o_,o_,o_,o_,o_,o_,o_,o_,o_,o_,o_,o_,o_,o_,o_,o_,o_]) (.seq (.seq (.reg false [I_ 6 [.sl 5] .mv,I_ 7 [.sl 0] .mv,I_ 8 [.tk 7] .lenS,I_ 9 [.tv 6,.tv 8] (.bin .lss)]) (.cond (.sl 9) .skip (.exit 0))) (.seq
 (.block 1 (.seq (.reg true [I_ 12 [.sl 0] .mv,I_ 13 [.sl 5] .mv,I_ 14 [.tv 12,.tv 13] (.ia 1),I_ 15 [.tv 14] (.ld .one),I_ 16 [.tv 15,.cv (.int .i64 0)] (.bin .lss),I_ 17 [.tk 16] .mv,⟨some 18,[.sl 0],some (17,
 false),none,.mv⟩,⟨some 19,[.sl 5],some (17,false),none,.mv⟩,⟨some 20,[.tv 18,.tv 19],some (17,false),none,.ia 1⟩,⟨some 21,[.tv 20],some (17,false),none,.ld .one⟩,⟨some 22,[.sl 1],some (17,false),none,
 .mv⟩,⟨some 23,[.tv 21,.tv 22],some (17,false),none,.bin .geq⟩,I_ 24 [.sl 17,.cv (.bool true),.tv 23] .pick,I_ 25 [.tk 24] .mv,⟨some 26,[.sl 5],some (25,false),none,.mv⟩,⟨some 27,[.tv 26,.cv (.int .i64 0)],
 some (25,false),none,.bin .gtr⟩,⟨some 28,[.tk 27],some (25,false),none,.mv⟩,⟨some 29,[.sl 0],some (28,true),none,.mv⟩,⟨some 30,[.sl 5],some (28,true),none,.mv⟩,⟨some 31,[.tv 29,.tv 30],some (28,true),
 none,.ia 1⟩,⟨some 32,[.tv 31],some (28,true),none,.ld .one⟩,⟨some 33,[.sl 0],some (28,true),none,.mv⟩,⟨some 34,[.sl 5],some (28,true),none,.mv⟩,⟨some 35,[.tv 34,.cv (.int .i64 1)],some (28,true),none,
 .bin .sub⟩,⟨some 36,[.tv 33,.tv 35],some (28,true),none,.ia 1⟩,⟨some 37,[.tv 36],some (28,true),none,.ld .one⟩,⟨some 38,[.tv 32,.tv 37],some (28,true),none,.bin .leq⟩,⟨some 39,[.sl 28,.tv 38,.cv (.bool
 false)],some (25,false),none,.pick⟩,I_ 40 [.sl 25,.cv (.bool true),.tv 39] .pick]) (.cond (.sl 40) (.seq (.reg false [I_ 4 [.cv (.bool false)] .mv]) .ret) .skip))) (.reg false [I_ 10 [.tk 5] .mv,I_ 11 [.tv 10,.cv (.int
 .i64 1)] (.bin .add),I_ 5 [.tk 11] .mv])))
noncomputable def xrc62:RC :=
 .seq (.reg false [I_ 4 [.cv (.bool false)] .mv]) (.seq (.seq (.reg false [I_ 5 [.cv (.int .i64 0)] .mv]) (.block 0 xrc62_1)) (.seq (.reg false [I_ 4 [.cv (.bool true)] .mv]) .ret))
theorem lxx62:linkF Tryz.prog ann62 62=some (xrc62,41,[.tmp 4]):=by kernel_rfl
def x62_l1 (l:(List Int)) (below:Int) (kl1_0:Unit→Option Bool):Nat→Int→Option Bool
 | 0,_=>none
 | m+1,s1 =>
   if (decide (s1<(l.length:Int)))=true then
    gd (0≤s1∧s1<(l.length:Int)) <|
    if (decide ((ix l s1)<(0:Int)))=true then
     some false
    else
     gd (0≤s1∧s1<(l.length:Int)) <|
     if (decide (below≤(ix l s1)))=true then
      some false
     else
      if (decide ((0:Int)<s1))=true then
       gd (0≤s1∧s1<(l.length:Int)) <|
       gd (0≤(w (s1-(1:Int)))∧(w (s1-(1:Int)))<(l.length:Int)) <|
       if (decide ((ix l s1)≤(ix l (w (s1-(1:Int))))))=true then
        some false
       else
        x62_l1 l below kl1_0 m (w (s1+(1:Int)))
      else
       x62_l1 l below kl1_0 m (w (s1+(1:Int)))
   else
    kl1_0 ()
def x62 (l:(List Int)) (below:Int):Option Bool :=
 x62_l1 l below (fun _ =>
   some true) FU (0:Int)
theorem x62_l1_ok {l:(List Int)} {below:Int} {kl1_0:Unit→Option Bool} {s1:Int} {v:Bool} {Q:Ex→List AV→List AObj→Prop}   (hR:∀ T H,RetW [.tmp 4] (B v) .ret T H→Q .ret T H) (hkl1_0:∀ (u0:AV) (u1:AV) (u4:AV) (u5:AV) (u6:AV) (u7:AV) (u8:AV) (u9:AV) (u10:AV) (u11:AV) (u12:AV) (u13:AV) (u14:AV) (u15:AV) (u16:AV) (u17:AV) (u18:AV) (u19:AV) (u20:AV) (u21:AV) (u22:AV) (u23:AV) (u24:AV) (u25:AV) (u26:AV) (u27:AV) (u28:AV) (u29:AV) (u30:AV) (u31:AV) (u32:AV) (u33:AV) (u34:AV) (u35:AV) (u36:AV) (u37:AV) (u38:AV) (u39:AV) (u40:AV),kl1_0 ()=some v→Q (.exit 0) [u0,u1,J,J,u4,u5,u6,u7,u8,u9,u10,u11,u12,u13,u14,u15,u16,u17,u18,u19,u20,u21,u22,u23,u24,u25,u26,u27,u28,u29,u30,u31,u32,u33,u34,u35,u36,u37,u38,u39,u40] []) {T:List AV} (hT:zipKeep [i_,i_,o_,o_,o_,i_,o_,o_,o_,o_,o_,o_,o_,o_,o_,o_,o_,o_,o_,o_,o_,o_,o_,o_,o_,o_,o_,o_,o_,o_,o_,o_,o_,o_,o_,o_,o_,o_,o_,o_,o_] T=slots 41 [(0,(.lst (l.map I) l.length .shared)),(1,(I below)),(5,(I s1))]) (h:x62_l1 l below kl1_0 FU s1=some v) :
  wpR Tryz.prog ann62 62 0 none xrc62_1 T [] Q:=by
 unfold xrc62_1
 skip
 refine wp_loop hT ?_
 refine .intro (fun m T H=>∃ (s1:Int),T=slots 41 [(0,(.lst (l.map I) l.length .shared)),(1,(I below)),(5,(I s1))]∧H=[]∧x62_l1 l below kl1_0 m s1=some v) FU ⟨s1,rfl,rfl,h⟩ ?_
 clear h hT
 rintro m T H ⟨s1,rfl,rfl,h⟩
 cases m
 ·exact none_ne h
 rename_i m
 rw [x62_l1.eq_2] at h
 conv=>whnf
 rcases bt (decide (s1<(l.length:Int))) with hb1 | hb1
 ·rw [hb1]
  conv=>whnf
  replace h:=it_t hb1 h
  obtain ⟨hb2,h⟩:=gd_some h
  refine ⟨hb2,?_⟩
  rw [drop1 I l s1 hb2]
  conv=>whnf
  rcases bt (decide ((ix l s1)<(0:Int))) with hb3 | hb3
  ·rw [hb3]
   conv=>whnf
   replace h:=it_t hb3 h
   obtain rfl:=Option.some.inj h
   exact hR _ _ ⟨.inr rfl,_,rfl,_,frz_pure rfl,rfl⟩
  ·rw [hb3]
   conv=>whnf
   replace h:=it_f hb3 h
   obtain ⟨hb4,h⟩:=gd_some h
   refine ⟨hb4,?_⟩
   rw [drop1 I l s1 hb4]
   conv=>whnf
   rcases bt (decide (below≤(ix l s1))) with hb5 | hb5
   ·rw [hb5]
    conv=>whnf
    replace h:=it_t hb5 h
    obtain rfl:=Option.some.inj h
    exact hR _ _ ⟨.inr rfl,_,rfl,_,frz_pure rfl,rfl⟩
   ·rw [hb5]
    conv=>whnf
    replace h:=it_f hb5 h
    rcases bt (decide ((0:Int)<s1)) with hb6 | hb6
    ·rw [hb6]
     conv=>whnf
     replace h:=it_t hb6 h
     obtain ⟨hb7,h⟩:=gd_some h
     refine ⟨hb7,?_⟩
     rw [drop1 I l s1 hb7]
     conv=>whnf
     obtain ⟨hb8,h⟩:=gd_some h
     refine ⟨hb8,?_⟩
     rw [drop1 I l (w (s1-(1:Int))) hb8]
     conv=>whnf
     rcases bt (decide ((ix l s1)≤(ix l (w (s1-(1:Int)))))) with hb9 | hb9
     ·rw [hb9]
      conv=>whnf
      replace h:=it_t hb9 h
      obtain rfl:=Option.some.inj h
      exact hR _ _ ⟨.inr rfl,_,rfl,_,frz_pure rfl,rfl⟩
     ·rw [hb9]
      conv=>whnf
      replace h:=it_f hb9 h
      exact ⟨m,Nat.lt_succ_self m,(w (s1+(1:Int))),rfl,rfl,h⟩
    ·rw [hb6]
     conv=>whnf
     replace h:=it_f hb6 h
     exact ⟨m,Nat.lt_succ_self m,(w (s1+(1:Int))),rfl,rfl,h⟩
 ·rw [hb1]
  conv=>whnf
  replace h:=it_f hb1 h
  exact hkl1_0 _ _ _ _ _ _ _ _ _ _ _ _ _ _ _ _ _ _ _ _ _ _ _ _ _ _ _ _ _ _ _ _ _ _ _ _ _ _ _ h
theorem x62_ok {l:(List Int)} {below:Int} {v:Bool} (h:x62 l below=some v):PO 62 [(.lst (l.map I) l.length .shared),(I below)] (B v):=by
 refine fn_pureW hmix lxx62 rfl rfl fun Q hQ=>?_
 have hR:∀ T H,RetW [.tmp 4] (B v) .ret T H→Q .ret T H:=fun T H hh=>hQ _ T H hh
 unfold x62 at h
 unfold xrc62
 obtain ⟨c_1,g_1⟩:∃ c,xrc62_1=c:=⟨_,rfl⟩
 rw [g_1]
 conv=>whnf
 subst g_1
 refine x62_l1_ok ?_ ?_ (by exact rfl) h
 ·exact fun T H hh=>hR T H hh
 ·intro u0 u1 u4 u5 u6 u7 u8 u9 u10 u11 u12 u13 u14 u15 u16 u17 u18 u19 u20 u21 u22 u23 u24 u25 u26 u27 u28 u29 u30 u31 u32 u33 u34 u35 u36 u37 u38 u39 u40 h
  conv=>whnf
  obtain rfl:=Option.some.inj h
  exact hR _ _ ⟨.inr rfl,_,rfl,_,frz_pure rfl,rfl⟩

noncomputable def xrc21:RC :=
 .seq (.reg false [I_ 1 [.tk 0] .box,I_ 2 [.cv (.int .i64 0)] .mv]) (.seq (.seq (.reg false [I_ 3 [.sl 1] (.fa 0),I_ 4 [.tv 3] (.ld .one),I_ 5 [.tv 4,.cv (.int .i64 1)] (.bin .lss),I_ 6 [.tk 5] .mv,⟨some 7,[.sl 1],some (6,
 false),none,.fa 0⟩,⟨some 8,[.tv 7],some (6,false),none,.ld .one⟩,⟨some 9,[.tv 8,.cv (.int .i64 10)],some (6,false),none,.bin .gtr⟩,I_ 10 [.tv 6,.cv (.bool true),.tv 9] .pick]) (.cond (.sl 10) (.seq (.reg false
 [I_ 2 [.cv (.int .i64 6)] .mv]) .ret) .skip)) (.seq (.seq (.reg false [I_ 11 [.sl 1] (.fa 1),I_ 12 [.tv 11] (.ld .one),I_ 13 [.sl 1] (.fa 0),I_ 14 [.tv 13] (.ld .one),I_ 15 [.cv (.func 62 [] []),.sl 12,.sl 14] (.call 3),
 I_ 16 [.tv 15] (.un .not)]) (.cond (.sl 16) (.seq (.reg false [I_ 2 [.cv (.int .i64 2)] .mv]) .ret) .skip)) (.seq (.seq (.reg false [I_ 17 [.sl 1] (.fa 1),I_ 18 [.tv 17] (.ld .one),I_ 19 [.tk 18] .lenS,I_ 20 [.sl 1] (.fa 0),
 I_ 21 [.tv 20] (.ld .one),I_ 22 [.tv 19,.tv 21] (.bin .eql)]) (.cond (.sl 22) (.seq (.reg false [I_ 2 [.cv (.int .i64 10)] .mv]) .ret) .skip)) (.seq (.seq (.reg false [I_ 23 [.sl 1] (.fa 2),I_ 24 [.tv 23] (.ld .one),I_ 25
 [.tv 24,.cv (.int .i64 0)] (.bin .lss),I_ 26 [.tk 25] .mv,⟨some 27,[.sl 1],some (26,false),none,.fa 2⟩,⟨some 28,[.tv 27],some (26,false),none,.ld .one⟩,⟨some 29,[.tv 28,.cv (.int .i64 20)],some (26,false),
 none,.bin .gtr⟩,I_ 30 [.tv 26,.cv (.bool true),.tv 29] .pick,I_ 31 [.tk 30] .mv,⟨some 32,[.sl 1],some (31,false),none,.fa 3⟩,⟨some 33,[.tv 32],some (31,false),none,.ld .one⟩,⟨some 34,[.tv 33,.cv (.int .i64
 0)],some (31,false),none,.bin .lss⟩,I_ 35 [.tv 31,.cv (.bool true),.tv 34] .pick,I_ 36 [.tk 35] .mv,⟨some 37,[.tv 1],some (36,false),none,.fa 3⟩,⟨some 38,[.tv 37],some (36,false),none,.ld .one⟩,⟨some 39,
 [.tv 38,.cv (.int .i64 10)],some (36,false),none,.bin .gtr⟩,I_ 40 [.tv 36,.cv (.bool true),.tv 39] .pick]) (.cond (.sl 40) (.seq (.reg false [I_ 2 [.cv (.int .i64 3)] .mv]) .ret) .skip)) (.seq (.reg false [I_ 2 [.cv
 (.int .i64 0)] .mv]) .ret)))))
theorem lxx21:linkF Tryz.prog ann21 21=some (xrc21,41,[.tmp 2]):=by kernel_rfl
def x21 (b:(Int×(List Int)×Int×Int)):Option Int :=
 if (decide (b.1<(1:Int)))=true then
  some (6:Int)
 else
  if (decide ((10:Int)<b.1))=true then
   some (6:Int)
  else
   (x62 b.2.1 b.1).bind fun r1 =>
   if r1=true then
    if (decide ((b.2.1.length:Int)=b.1))=true then
     some (10:Int)
    else
     if (decide (b.2.2.1<(0:Int)))=true then
      some (3:Int)
     else
      if (decide ((20:Int)<b.2.2.1))=true then
       some (3:Int)
      else
       if (decide (b.2.2.2<(0:Int)))=true then
        some (3:Int)
       else
        if (decide ((10:Int)<b.2.2.2))=true then
         some (3:Int)
        else
         some (0:Int)
   else
    some (2:Int)
theorem x21_ok {b:(Int×(List Int)×Int×Int)} {v:Int} (h:x21 b=some v):PO 21 [(.agg [(I b.1),(.lst (b.2.1.map I) b.2.1.length .shared),(I b.2.2.1),(I b.2.2.2)])] (I v):=by
 refine fn_pureW hmix lxx21 rfl rfl fun Q hQ=>?_
 have hR:∀ T H,RetW [.tmp 2] (I v) .ret T H→Q .ret T H:=fun T H hh=>hQ _ T H hh
 unfold x21 at h
 unfold xrc21
 skip
 conv=>whnf
 rcases bt (decide (b.1<(1:Int))) with hb1 | hb1
 ·rw [hb1]
  conv=>whnf
  replace h:=it_t hb1 h
  obtain rfl:=Option.some.inj h
  exact hR _ _ ⟨.inr rfl,_,rfl,_,frz_pure rfl,rfl⟩
 ·rw [hb1]
  conv=>whnf
  replace h:=it_f hb1 h
  rcases bt (decide ((10:Int)<b.1)) with hb2 | hb2
  ·rw [hb2]
   conv=>whnf
   replace h:=it_t hb2 h
   obtain rfl:=Option.some.inj h
   exact hR _ _ ⟨.inr rfl,_,rfl,_,frz_pure rfl,rfl⟩
  ·rw [hb2]
   conv=>whnf
   replace h:=it_f hb2 h
   obtain ⟨r1,hb3,h⟩:=bd_some h
   refine ⟨(allc (pu_map (fun _=>rfl) _ _ _) (allc rfl rfl)),_,x62_ok hb3,?_⟩
   conv=>whnf
   cases r1
   ·conv=>whnf
    replace h:=it_f rfl h
    obtain rfl:=Option.some.inj h
    exact hR _ _ ⟨.inr rfl,_,rfl,_,frz_pure rfl,rfl⟩
   ·conv=>whnf
    replace h:=it_t rfl h
    rcases bt (decide ((b.2.1.length:Int)=b.1)) with hb4 | hb4
    ·rw [hb4]
     conv=>whnf
     replace h:=it_t hb4 h
     obtain rfl:=Option.some.inj h
     exact hR _ _ ⟨.inr rfl,_,rfl,_,frz_pure rfl,rfl⟩
    ·rw [hb4]
     conv=>whnf
     replace h:=it_f hb4 h
     rcases bt (decide (b.2.2.1<(0:Int))) with hb5 | hb5
     ·rw [hb5]
      conv=>whnf
      replace h:=it_t hb5 h
      obtain rfl:=Option.some.inj h
      exact hR _ _ ⟨.inr rfl,_,rfl,_,frz_pure rfl,rfl⟩
     ·rw [hb5]
      conv=>whnf
      replace h:=it_f hb5 h
      rcases bt (decide ((20:Int)<b.2.2.1)) with hb6 | hb6
      ·rw [hb6]
       conv=>whnf
       replace h:=it_t hb6 h
       obtain rfl:=Option.some.inj h
       exact hR _ _ ⟨.inr rfl,_,rfl,_,frz_pure rfl,rfl⟩
      ·rw [hb6]
       conv=>whnf
       replace h:=it_f hb6 h
       rcases bt (decide (b.2.2.2<(0:Int))) with hb7 | hb7
       ·rw [hb7]
        conv=>whnf
        replace h:=it_t hb7 h
        obtain rfl:=Option.some.inj h
        exact hR _ _ ⟨.inr rfl,_,rfl,_,frz_pure rfl,rfl⟩
       ·rw [hb7]
        conv=>whnf
        replace h:=it_f hb7 h
        rcases bt (decide ((10:Int)<b.2.2.2)) with hb8 | hb8
        ·rw [hb8]
         conv=>whnf
         replace h:=it_t hb8 h
         obtain rfl:=Option.some.inj h
         exact hR _ _ ⟨.inr rfl,_,rfl,_,frz_pure rfl,rfl⟩
        ·rw [hb8]
         conv=>whnf
         replace h:=it_f hb8 h
         obtain rfl:=Option.some.inj h
         exact hR _ _ ⟨.inr rfl,_,rfl,_,frz_pure rfl,rfl⟩

noncomputable def xrc53_1:RC :=
 .loop (some [i_,i_,o_,o_,o_,i_,o_,o_,o_,o_,o_,o_,o_,o_,o_,o_,o_,o_]) (.seq (.seq (.reg false [I_ 6 [.sl 5] .mv,I_ 7 [.sl 0] .mv,I_ 8 [.tk 7] .lenS,I_ 9 [.tv
 6,.tv 8] (.bin .lss)]) (.cond (.sl 9) .skip (.exit 0))) (.seq (.block 1 (.seq (.reg false [I_ 12 [.sl 0] .mv,I_ 13 [.sl 5] .mv,I_ 14 [.tv 12,.tv 13] (.ia 1),I_ 15 [.tv 14] (.ld .one),I_ 16 [.sl 1] .mv,I_ 17 [.tv 15,.tv
 16] (.bin .eql)]) (.cond (.sl 17) (.seq (.reg false [I_ 4 [.cv (.bool true)] .mv]) .ret) .skip))) (.reg false [I_ 10 [.tk 5] .mv,I_ 11 [.tv 10,.cv (.int .i64 1)] (.bin .add),I_ 5 [.tk 11] .mv])))
noncomputable def xrc53:RC :=
 .seq (.reg false [I_ 4 [.cv (.bool false)] .mv]) (.seq (.seq (.reg false [I_ 5 [.cv (.int .i64 0)] .mv]) (.block 0 xrc53_1)) (.seq (.reg false [I_ 4 [.cv (.bool false)] .mv]) .ret))
theorem lxx53:linkF Tryz.prog ann53 53=some (xrc53,18,[.tmp 4]):=by kernel_rfl
def x53_l1 (l:(List Int)) (n:Int) (kl1_0:Unit→Option Bool):Nat→Int→Option Bool
 | 0,_=>none
 | m+1,s1 =>
   if (decide (s1<(l.length:Int)))=true then
    gd (0≤s1∧s1<(l.length:Int)) <|
    if (decide ((ix l s1)=n))=true then
     some true
    else
     x53_l1 l n kl1_0 m (w (s1+(1:Int)))
   else
    kl1_0 ()
def x53 (l:(List Int)) (n:Int):Option Bool :=
 x53_l1 l n (fun _ =>
   some false) FU (0:Int)
theorem x53_l1_ok {l:(List Int)} {n:Int} {kl1_0:Unit→Option Bool} {s1:Int} {v:Bool} {Q:Ex→List AV→List AObj→Prop}   (hR:∀ T H,RetW [.tmp 4] (B v) .ret T H→Q .ret T H) (hkl1_0:∀ (u0:AV) (u1:AV) (u4:AV) (u5:AV) (u6:AV) (u7:AV) (u8:AV) (u9:AV) (u10:AV) (u11:AV) (u12:AV) (u13:AV) (u14:AV) (u15:AV) (u16:AV) (u17:AV),kl1_0 ()=some v→Q (.exit 0) [u0,u1,J,J,u4,u5,u6,u7,u8,u9,u10,u11,u12,u13,u14,u15,u16,u17] []) {T:List AV} (hT:zipKeep [i_,i_,o_,o_,o_,i_,o_,o_,o_,o_,o_,o_,o_,o_,o_,o_,o_,o_] T=slots 18 [(0,(.lst (l.map I) l.length .shared)),(1,(I n)),(5,(I s1))]) (h:x53_l1 l n kl1_0 FU s1=some v) :
  wpR Tryz.prog ann53 53 0 none xrc53_1 T [] Q:=by
 unfold xrc53_1
 skip
 refine wp_loop hT ?_
 refine .intro (fun m T H=>∃ (s1:Int),T=slots 18 [(0,(.lst (l.map I) l.length .shared)),(1,(I n)),(5,(I s1))]∧H=[]∧x53_l1 l n kl1_0 m s1=some v) FU ⟨s1,rfl,rfl,h⟩ ?_
 clear h hT
 rintro m T H ⟨s1,rfl,rfl,h⟩
 cases m
 ·exact none_ne h
 rename_i m
 rw [x53_l1.eq_2] at h
 conv=>whnf
 rcases bt (decide (s1<(l.length:Int))) with hb1 | hb1
 ·rw [hb1]
  conv=>whnf
  replace h:=it_t hb1 h
  obtain ⟨hb2,h⟩:=gd_some h
  refine ⟨hb2,?_⟩
  rw [drop1 I l s1 hb2]
  conv=>whnf
  rcases bt (decide ((ix l s1)=n)) with hb3 | hb3
  ·rw [hb3]
   conv=>whnf
   replace h:=it_t hb3 h
   obtain rfl:=Option.some.inj h
   exact hR _ _ ⟨.inr rfl,_,rfl,_,frz_pure rfl,rfl⟩
  ·rw [hb3]
   conv=>whnf
   replace h:=it_f hb3 h
   exact ⟨m,Nat.lt_succ_self m,(w (s1+(1:Int))),rfl,rfl,h⟩
 ·rw [hb1]
  conv=>whnf
  replace h:=it_f hb1 h
  exact hkl1_0 _ _ _ _ _ _ _ _ _ _ _ _ _ _ _ _ h
theorem x53_ok {l:(List Int)} {n:Int} {v:Bool} (h:x53 l n=some v):PO 53 [(.lst (l.map I) l.length .shared),(I n)] (B v):=by
 refine fn_pureW hmix lxx53 rfl rfl fun Q hQ=>?_
 have hR:∀ T H,RetW [.tmp 4] (B v) .ret T H→Q .ret T H:=fun T H hh=>hQ _ T H hh
 unfold x53 at h
 unfold xrc53
 obtain ⟨c_1,g_1⟩:∃ c,xrc53_1=c:=⟨_,rfl⟩
 rw [g_1]
 conv=>whnf
 subst g_1
 refine x53_l1_ok ?_ ?_ (by exact rfl) h
 ·exact fun T H hh=>hR T H hh
 ·intro u0 u1 u4 u5 u6 u7 u8 u9 u10 u11 u12 u13 u14 u15 u16 u17 h
  conv=>whnf
  obtain rfl:=Option.some.inj h
  exact hR _ _ ⟨.inr rfl,_,rfl,_,frz_pure rfl,rfl⟩

noncomputable def xrc51_1:RC :=
 .loop (some [o_,i_,o_,i_,i_,o_,o_,o_,o_,o_,o_,o_,o_,o_,o_,o_,o_,o_,o_,o_,o_]) (.seq (.seq (.reg false [I_ 5 [.sl 4] .mv,I_ 6 [.sl 1] (.fa 0),I_ 7
 [.tv 6] (.ld .one),I_ 8 [.tv 5,.tv 7] (.bin .lss)]) (.cond (.sl 8) .skip (.exit 0))) (.seq (.block 1 (.seq (.reg false [I_ 11 [.sl 1] (.fa 1),I_ 12 [.tv 11] (.ld .one),I_ 13 [.sl 4] .mv,I_ 14 [.cv (.func 53 [] []),.sl 12,
 .sl 13] (.call 3),I_ 15 [.tv 14] (.un .not)]) (.cond (.sl 15) (.reg false [I_ 16 [.tk 3] .mv,I_ 17 [.sl 4] .mv,I_ 18 [.tv 17] (.buildS 1 1 [.int .i64 0] [0]),I_ 19 [.tk 16,.tk 18] (.app 1 8),I_ 3 [.tk 19] .mv]) .skip)))
 (.reg false [I_ 9 [.tk 4] .mv,I_ 10 [.tv 9,.cv (.int .i64 1)] (.bin .add),I_ 4 [.tk 10] .mv])))
noncomputable def xrc51:RC :=
 .seq (.reg false [I_ 1 [.tk 0] .box,I_ 2 [.cv (.lst [] 0 .full)] (.nil 1)]) (.seq (.reg false [I_ 3 [.cv (.lst [] 0 .full)] (.nil 1)]) (.seq (.seq (.reg false [I_ 4 [.cv (.int .i64 0)] .mv]) (.block 0 xrc51_1)) (.seq (.reg false
 [I_ 20 [.tk 3] .mv,I_ 2 [.tk 20] .mv]) .ret)))
theorem lxx51:linkF Tryz.prog ann51 51=some (xrc51,21,[.tmp 2]):=by kernel_rfl
def x51_l1 (b:(Int×(List Int)×Int×Int)) (kl1_0:(List Int)→Option (List Int)):Nat→(List Int)→Int→Option (List Int)
 | 0,_,_=>none
 | m+1,s1,s2 =>
   if (decide (s2<b.1))=true then
    (x53 b.2.1 s2).bind fun r1 =>
    if r1=true then
     x51_l1 b kl1_0 m s1 (w (s2+(1:Int)))
    else
     gd ((s1.length+1)*8≤140737488355328) <|
     x51_l1 b kl1_0 m (s1++[s2]) (w (s2+(1:Int)))
   else
    kl1_0 s1
def x51 (b:(Int×(List Int)×Int×Int)):Option (List Int) :=
 x51_l1 b (fun z1 =>
   some z1) FU ([]:List Int) (0:Int)
theorem x51_l1_ok {b:(Int×(List Int)×Int×Int)} {kl1_0:(List Int)→Option (List Int)} {s1:(List Int)} {s2:Int} {v:(List Int)} {Q:Ex→List AV→List AObj→Prop}   (hkl1_0:∀ (z1:(List Int)) (u0:AV) (u1:AV) (u2:AV) (u4:AV) (u5:AV) (u6:AV) (u7:AV) (u8:AV) (u9:AV) (u10:AV) (u11:AV) (u12:AV) (u13:AV) (u14:AV) (u15:AV) (u16:AV) (u17:AV) (u18:AV) (u19:AV) (u20:AV) (o1:AObj),kl1_0 z1=some v→Q (.exit 0) [u0,u1,u2,(.lst (z1.map I) z1.length (.uniq 1)),u4,u5,u6,u7,u8,u9,u10,u11,u12,u13,u14,u15,u16,u17,u18,u19,u20] [o1]) {T:List AV} (hT:zipKeep [o_,i_,o_,i_,i_,o_,o_,o_,o_,o_,o_,o_,o_,o_,o_,o_,o_,o_,o_,o_,o_] T=slots 21 [(1,(.ptr 0 0)),(3,(.lst (s1.map I) s1.length (.uniq 1))),(4,(I s2))]) (h:x51_l1 b kl1_0 FU s1 s2=some v) :
  wpR Tryz.prog ann51 51 0 none xrc51_1 T [AObj.cells [(I b.1),(.lst (b.2.1.map I) b.2.1.length .shared),(I b.2.2.1),(I b.2.2.2)]] Q:=by
 unfold xrc51_1
 skip
 refine wp_loop hT ?_
 refine .intro (fun m T H=>∃ (s1:(List Int)) (s2:Int),T=slots 21 [(1,(.ptr 0 0)),(3,(.lst (s1.map I) s1.length (.uniq 1))),(4,(I s2))]∧H=[AObj.cells [(I b.1),(.lst (b.2.1.map I) b.2.1.length .shared),(I b.2.2.1),(I b.2.2.2)]]∧x51_l1 b kl1_0 m s1 s2=some v) FU ⟨s1,s2,rfl,rfl,h⟩ ?_
 clear h hT
 rintro m T H ⟨s1,s2,rfl,rfl,h⟩
 cases m
 ·exact none_ne h
 rename_i m
 rw [x51_l1.eq_2] at h
 conv=>whnf
 rcases bt (decide (s2<b.1)) with hb1 | hb1
 ·rw [hb1]
  conv=>whnf
  replace h:=it_t hb1 h
  obtain ⟨r1,hb2,h⟩:=bd_some h
  refine ⟨(allc (pu_map (fun _=>rfl) _ _ _) (allc rfl rfl)),_,x53_ok hb2,?_⟩
  conv=>whnf
  cases r1
  ·conv=>whnf
   replace h:=it_f rfl h
   obtain ⟨hb3,h⟩:=gd_some h
   refine ⟨by first | rfl | simp,by have:=hb3;omega,rfl,hb3,?_⟩
   erw [apnd1 I s1 s2]
   conv=>whnf
   exact ⟨m,Nat.lt_succ_self m,(s1++[s2]),(w (s2+(1:Int))),rfl,rfl,h⟩
  ·conv=>whnf
   replace h:=it_t rfl h
   exact ⟨m,Nat.lt_succ_self m,s1,(w (s2+(1:Int))),rfl,rfl,h⟩
 ·rw [hb1]
  conv=>whnf
  replace h:=it_f hb1 h
  exact hkl1_0 _ _ _ _ _ _ _ _ _ _ _ _ _ _ _ _ _ _ _ _ _ _ h
theorem x51_ok {b:(Int×(List Int)×Int×Int)} {v:(List Int)} (h:x51 b=some v):PO 51 [(.agg [(I b.1),(.lst (b.2.1.map I) b.2.1.length .shared),(I b.2.2.1),(I b.2.2.2)])] (.lst (v.map I) v.length .shared):=by
 refine fn_pureW hmix lxx51 rfl (pu_map (fun _=>rfl) _ _ _) fun Q hQ=>?_
 have hR:∀ T H,RetW [.tmp 2] (.lst (v.map I) v.length .shared) .ret T H→Q .ret T H:=fun T H hh=>hQ _ T H hh
 unfold x51 at h
 unfold xrc51
 obtain ⟨c_1,g_1⟩:∃ c,xrc51_1=c:=⟨_,rfl⟩
 rw [g_1]
 conv=>whnf
 subst g_1
 refine x51_l1_ok ?_ (by exact rfl) h
 intro z1 u0 u1 u2 u4 u5 u6 u7 u8 u9 u10 u11 u12 u13 u14 u15 u16 u17 u18 u19 u20 o1 h
 conv=>whnf
 obtain rfl:=Option.some.inj h
 exact hR _ _ ⟨.inr rfl,_,rfl,_,frz_pure (pu_map (fun _=>rfl) _ _ _),rfl⟩

def x19 (b:(Int×(List Int)×Int×Int)):Option ((List Int)×Int) :=
 (x21 b).bind fun r1 =>
 if (decide (r1≠(0:Int)))=true then
  (x21 b).bind fun r2 =>
  some ([],r2)
 else
  (x51 b).bind fun r3 =>
  some (r3,(0:Int))

noncomputable def xrc63:RC :=
 .seq (.reg false [I_ 1 [.tk 0] .box,I_ 2 [.cv (.bool false)] .mv]) (.seq (.reg false [I_ 3 [.sl 1] (.fa 0),I_ 4 [.tv 3] (.ld .one),I_ 5 [.tv 4] (.buildS 1 1 [.int .i64 0] [0]),I_ 6 [.cv (.func 60 [] []),.cv (.int .i64 0),
 .cv (.int .i64 20),.sl 5] (.call 3),I_ 7 [.tv 6] (.un .not),I_ 8 [.tk 7] .mv,⟨some 9,[.sl 1],some (8,false),none,.fa 1⟩,⟨some 10,[.tv 9],some (8,false),none,.ld .one⟩,⟨some 11,[.tv 10,.cv (.int .i64 1)],some
 (8,false),none,.bin .lss⟩,I_ 12 [.tv 8,.cv (.bool true),.tv 11] .pick,I_ 13 [.tk 12] .mv,⟨some 14,[.tv 1],some (13,false),none,.fa 1⟩,⟨some 15,[.tv 14],some (13,false),none,.ld .one⟩,⟨some 16,[.tv 15,.cv
 (.int .i64 24)],some (13,false),none,.bin .gtr⟩,I_ 17 [.tv 13,.cv (.bool true),.tv 16] .pick,I_ 2 [.tk 17] .mv]) .ret)
theorem lxx63:linkF Tryz.prog ann63 63=some (xrc63,18,[.tmp 2]):=by kernel_rfl
def x63 (p:(Int×Int)):Option Bool :=
 (x60 (0:Int) (20:Int) [p.1]).bind fun r1 =>
 if r1=true then
  if (decide (p.2<(1:Int)))=true then
   some true
  else
   some (decide ((24:Int)<p.2))
 else
  some true
theorem x63_ok {p:(Int×Int)} {v:Bool} (h:x63 p=some v):PO 63 [(.agg [(I p.1),(I p.2)])] (B v):=by
 refine fn_pureW hmix lxx63 rfl rfl fun Q hQ=>?_
 have hR:∀ T H,RetW [.tmp 2] (B v) .ret T H→Q .ret T H:=fun T H hh=>hQ _ T H hh
 unfold x63 at h
 unfold xrc63
 skip
 conv=>whnf
 obtain ⟨r1,hb1,h⟩:=bd_some h
 refine ⟨(allc rfl (allc rfl (allc rfl rfl))),_,x60_ok hb1,?_⟩
 conv=>whnf
 cases r1
 ·conv=>whnf
  replace h:=it_f rfl h
  obtain rfl:=Option.some.inj h
  exact hR _ _ ⟨.inr rfl,_,rfl,_,frz_pure rfl,rfl⟩
 ·conv=>whnf
  replace h:=it_t rfl h
  rcases bt (decide (p.2<(1:Int))) with hb2 | hb2
  ·rw [hb2]
   conv=>whnf
   replace h:=it_t hb2 h
   obtain rfl:=Option.some.inj h
   exact hR _ _ ⟨.inr rfl,_,rfl,_,frz_pure rfl,rfl⟩
  ·rw [hb2]
   conv=>whnf
   replace h:=it_f hb2 h
   obtain rfl:=Option.some.inj h
   exact hR _ _ ⟨.inr rfl,_,rfl,_,frz_pure rfl,rfl⟩

noncomputable def xrc88_1:RC :=
 .loop (some [i_,i_,o_,o_,o_,o_,o_,i_,i_,o_,o_,o_,o_,o_,o_,o_,o_,o_,o_]) (.seq (.reg false [I_ 9 [.sl 8,.sl 7] (.bin .lss)]) (.seq (.cond (.sl 9) .skip (.exit
 0)) (.seq (.block 1 (.seq (.reg false [I_ 10 [.sl 8] .mv,I_ 5 [.tk 10] .mv]) (.seq (.reg false [I_ 11 [.sl 1] .mv,I_ 12 [.sl 0] .mv,I_ 13 [.sl 5] .mv,I_ 14 [.tv 12,.tv 13] (.ia 2),I_ 15 [.tv 14] (.ld (.str 2)),I_ 16 [.sl
 11,.sl 15] (.call 6)]) (.cond (.sl 16) (.seq (.reg false [I_ 17 [.tk 5] .mv,I_ 4 [.tk 17] .mv]) .ret) .skip)))) (.reg false [I_ 18 [.tv 8,.cv (.int .i64 1)] (.bin .add),I_ 8 [.tk 18] .mv]))))
noncomputable def xrc88:RC :=
 .seq (.reg false [I_ 4 [.cv (.int .i64 0)] .mv]) (.seq (.seq (.reg false [I_ 6 [.sl 0] .mv,I_ 7 [.tk 6] .lenS,I_ 8 [.cv (.int .i64 0)] .mv]) (.block 0 xrc88_1)) (.seq (.reg false [I_ 4 [.cv (.int .i64 (-1))] .mv]) .ret))
theorem lxx88:linkF Tryz.prog ann88 88=some (xrc88,19,[.tmp 4]):=by kernel_rfl
def x88_l1 (s:(List (Int×Int))) (f:((Int×Int)→Option Bool)) (kl1_0:Unit→Option Int):Nat→Int→Option Int
 | 0,_=>none
 | m+1,s1 =>
   if (decide (s1<(s.length:Int)))=true then
    gd (0≤s1∧s1<(s.length:Int)) <|
    (f (ix s s1)).bind fun r1 =>
    if r1=true then
     some s1
    else
     x88_l1 s f kl1_0 m (w (s1+(1:Int)))
   else
    kl1_0 ()
def x88 (s:(List (Int×Int))) (f:((Int×Int)→Option Bool)):Option Int :=
 x88_l1 s f (fun _ =>
   some (-1:Int)) FU (0:Int)
theorem x88_l1_ok {s:(List (Int×Int))} {f:((Int×Int)→Option Bool)} {kl1_0:Unit→Option Int} {s1:Int} {kf_f:FuncId} {cs_f:List AV} (hc_f:Boxes cs_f) (hk_f:∀ (y0:(Int×Int)) (r:Bool),f y0=some r→PO kf_f ((.agg [(I y0.1),(I y0.2)])::cs_f) (B r)) {v:Int} {Q:Ex→List AV→List AObj→Prop}   (hR:∀ T H,RetW [.tmp 4] (I v) .ret T H→Q .ret T H) (hkl1_0:∀ (u0:AV) (u1:AV) (u4:AV) (u5:AV) (u6:AV) (u7:AV) (u8:AV) (u9:AV) (u10:AV) (u11:AV) (u12:AV) (u13:AV) (u14:AV) (u15:AV) (u16:AV) (u17:AV) (u18:AV),kl1_0 ()=some v→Q (.exit 0) [u0,u1,J,J,u4,u5,u6,u7,u8,u9,u10,u11,u12,u13,u14,u15,u16,u17,u18] []) {T:List AV} (hT:zipKeep [i_,i_,o_,o_,o_,o_,o_,i_,i_,o_,o_,o_,o_,o_,o_,o_,o_,o_,o_] T=slots 19 [(0,(.lst (s.flatMap pr) s.length .shared)),(1,(.func kf_f [] cs_f)),(7,(I (s.length:Int))),(8,(I s1))]) (h:x88_l1 s f kl1_0 FU s1=some v) :
  wpR Tryz.prog ann88 88 0 none xrc88_1 T [] Q:=by
 unfold xrc88_1
 skip
 refine wp_loop hT ?_
 refine .intro (fun m T H=>∃ (s1:Int),T=slots 19 [(0,(.lst (s.flatMap pr) s.length .shared)),(1,(.func kf_f [] cs_f)),(7,(I (s.length:Int))),(8,(I s1))]∧H=[]∧x88_l1 s f kl1_0 m s1=some v) FU ⟨s1,rfl,rfl,h⟩ ?_
 clear h hT
 rintro m T H ⟨s1,rfl,rfl,h⟩
 cases m
 ·exact none_ne h
 rename_i m
 rw [x88_l1.eq_2] at h
 conv=>whnf
 rcases bt (decide (s1<(s.length:Int))) with hb1 | hb1
 ·rw [hb1]
  conv=>whnf
  replace h:=it_t hb1 h
  obtain ⟨hb2,h⟩:=gd_some h
  refine ⟨hb2,?_⟩
  rw [dropS pr 2 pr_len s s1 hb2]
  conv=>whnf
  obtain ⟨r1,hb3,h⟩:=bd_some h
  refine ⟨_,_,call6 (bs:=((.agg [(I (ix s s1).1),(I (ix s s1).2)])::cs_f)) (by simp only [List.map_cons,hc_f.shz,hc_f.dim];rfl) (by simp only [List.map_cons,hc_f.shz];exact (allc (pu_agg (allc rfl (allc rfl rfl))) hc_f.all8)) (hk_f _ _ hb3) rfl,?_⟩
  conv=>whnf
  cases r1
  ·conv=>whnf
   replace h:=it_f rfl h
   exact ⟨m,Nat.lt_succ_self m,(w (s1+(1:Int))),rfl,rfl,h⟩
  ·conv=>whnf
   replace h:=it_t rfl h
   obtain rfl:=Option.some.inj h
   exact hR _ _ ⟨.inr rfl,_,rfl,_,frz_pure rfl,rfl⟩
 ·rw [hb1]
  conv=>whnf
  replace h:=it_f hb1 h
  exact hkl1_0 _ _ _ _ _ _ _ _ _ _ _ _ _ _ _ _ _ h
theorem x88_ok {s:(List (Int×Int))} {f:((Int×Int)→Option Bool)} {kf_f:FuncId} {cs_f:List AV} (hc_f:Boxes cs_f) (hk_f:∀ (y0:(Int×Int)) (r:Bool),f y0=some r→PO kf_f ((.agg [(I y0.1),(I y0.2)])::cs_f) (B r)) {v:Int} (h:x88 s f=some v):PO 88 [(.lst (s.flatMap pr) s.length .shared),(.func kf_f [] cs_f)] (I v):=by
 refine fn_pureW hmix lxx88 rfl rfl fun Q hQ=>?_
 have hR:∀ T H,RetW [.tmp 4] (I v) .ret T H→Q .ret T H:=fun T H hh=>hQ _ T H hh
 unfold x88 at h
 unfold xrc88
 obtain ⟨c_1,g_1⟩:∃ c,xrc88_1=c:=⟨_,rfl⟩
 rw [g_1]
 conv=>whnf
 subst g_1
 refine x88_l1_ok hc_f hk_f ?_ ?_ (by exact rfl) h
 ·exact fun T H hh=>hR T H hh
 ·intro u0 u1 u4 u5 u6 u7 u8 u9 u10 u11 u12 u13 u14 u15 u16 u17 u18 h
  conv=>whnf
  obtain rfl:=Option.some.inj h
  exact hR _ _ ⟨.inr rfl,_,rfl,_,frz_pure rfl,rfl⟩

noncomputable def xrc64:RC :=
 .seq (.reg false [I_ 4 [.cv (.bool false)] .mv]) (.seq (.reg false [I_ 5 [.tk 0] .mv,I_ 6 [.tk 1] .mv,I_ 7 [.cv (.func 88 [] []),.sl 5,.sl 6] (.call 6),I_ 8 [.tv 7,.cv (.int .i64 0)] (.bin .geq),I_ 4 [.tk 8] .mv]) .ret)
theorem lxx64:linkF Tryz.prog ann64 64=some (xrc64,9,[.tmp 4]):=by kernel_rfl
def x64 (s:(List (Int×Int))) (f:((Int×Int)→Option Bool)):Option Bool :=
 (x88 s f).bind fun r1 =>
 some (decide ((0:Int)≤r1))
theorem x64_ok {s:(List (Int×Int))} {f:((Int×Int)→Option Bool)} {kf_f:FuncId} {cs_f:List AV} (hc_f:Boxes cs_f) (hk_f:∀ (y0:(Int×Int)) (r:Bool),f y0=some r→PO kf_f ((.agg [(I y0.1),(I y0.2)])::cs_f) (B r)) {v:Bool} (h:x64 s f=some v):PO 64 [(.lst (s.flatMap pr) s.length .shared),(.func kf_f [] cs_f)] (B v):=by
 refine fn_pureW hmix lxx64 rfl rfl fun Q hQ=>?_
 have hR:∀ T H,RetW [.tmp 4] (B v) .ret T H→Q .ret T H:=fun T H hh=>hQ _ T H hh
 unfold x64 at h
 unfold xrc64
 skip
 conv=>whnf
 obtain ⟨r1,hb1,h⟩:=bd_some h
 refine ⟨_,_,call6' (cs:=[(.lst (s.flatMap pr) s.length .shared),(.func kf_f [] cs_f)]) (bs:=[(.lst (s.flatMap pr) s.length .shared),(.func kf_f [] cs_f)]) (map_cons' rfl (map_cons' (hc_f.fn _ _) map_nil')) (by rfl) (by exact (allc (pu_flat (fun _=>(allc rfl (allc rfl rfl))) _ _ _) (allc (hc_f.pfn _) rfl))) (x88_ok hc_f hk_f hb1) rfl,?_⟩
 conv=>whnf
 obtain rfl:=Option.some.inj h
 exact hR _ _ ⟨.inr rfl,_,rfl,_,frz_pure rfl,rfl⟩

noncomputable def xrc22:RC :=
 .seq (.reg false [I_ 2 [.cv (.int .i64 0)] .mv]) (.seq (.reg false [I_ 3 [.cv (.func 63 [] [])] .mv]) (.seq (.block 0 (.seq (.reg false [I_ 5 [.sl 0] .mv,I_ 6 [.tk 5] .lenS,I_ 7 [.tv 6,.cv (.int .i64 12)] (.bin .gtr),I_ 4
 [.tk 7] .mv]) (.cond (.sl 4) (.seq (.reg false [I_ 2 [.cv (.int .i64 6)] .mv]) .ret) (.seq (.reg false [I_ 9 [.tk 0] .mv,I_ 10 [.tk 3] .mv,I_ 11 [.cv (.func 64 [] []),.sl 9,.sl 10] (.call 3),I_ 8 [.tk 11] .mv]) (.cond (.sl
 8) (.seq (.reg false [I_ 2 [.cv (.int .i64 3)] .mv]) .ret) .skip))))) (.seq (.reg false [I_ 2 [.cv (.int .i64 0)] .mv]) .ret)))
theorem lxx22:linkF Tryz.prog ann22 22=some (xrc22,12,[.tmp 2]):=by kernel_rfl
def x22 (panels:(List (Int×Int))):Option Int :=
 if (decide ((12:Int)<(panels.length:Int)))=true then
  some (6:Int)
 else
  (x64 panels (fun y0=>x63 y0)).bind fun r1 =>
  if r1=true then
   some (3:Int)
  else
   some (0:Int)
theorem x22_ok {panels:(List (Int×Int))} {v:Int} (h:x22 panels=some v):PO 22 [(.lst (panels.flatMap pr) panels.length .shared)] (I v):=by
 refine fn_pureW hmix lxx22 rfl rfl fun Q hQ=>?_
 have hR:∀ T H,RetW [.tmp 2] (I v) .ret T H→Q .ret T H:=fun T H hh=>hQ _ T H hh
 unfold x22 at h
 unfold xrc22
 skip
 conv=>whnf
 rcases bt (decide ((12:Int)<(panels.length:Int))) with hb1 | hb1
 ·rw [hb1]
  conv=>whnf
  replace h:=it_t hb1 h
  obtain rfl:=Option.some.inj h
  exact hR _ _ ⟨.inr rfl,_,rfl,_,frz_pure rfl,rfl⟩
 ·rw [hb1]
  conv=>whnf
  replace h:=it_f hb1 h
  obtain ⟨r1,hb2,h⟩:=bd_some h
  refine ⟨(allc (pu_flat (fun _=>(allc rfl (allc rfl rfl))) _ _ _) (allc (pu_fn rfl rfl) rfl)),_,x64_ok ⟨rfl,by simp⟩ (fun _ _ hy=>x63_ok hy) hb2,?_⟩
  conv=>whnf
  cases r1
  ·conv=>whnf
   replace h:=it_f rfl h
   obtain rfl:=Option.some.inj h
   exact hR _ _ ⟨.inr rfl,_,rfl,_,frz_pure rfl,rfl⟩
  ·conv=>whnf
   replace h:=it_t rfl h
   obtain rfl:=Option.some.inj h
   exact hR _ _ ⟨.inr rfl,_,rfl,_,frz_pure rfl,rfl⟩

noncomputable def xrc23_1:RC :=
 .loop (some [i_,o_,o_,i_,o_,o_,o_,o_,o_,o_,o_,o_,o_,o_,o_,o_,o_,o_,o_,o_,o_,o_,o_,o_,o_,o_,o_,o_,o_,o_,o_,o_,o_,o_,o_,o_]) (.seq (.seq (.reg false [I_ 8 [.sl 3] .mv,I_ 9 [.sl 0] .mv,I_ 10 [.tk 9] .lenS,I_ 11 [.tv 8,.tv 10] (.bin .lss)]) (.cond (.sl 11) .skip (.exit 0))) (.seq (.block 1 (.seq (.reg false [I_
 14 [.sl 0] .mv,I_ 15 [.sl 3] .mv,I_ 16 [.tv 14,.tv 15] (.ia 2),I_ 17 [.tv 16] (.ld (.str 2)),I_ 4 [] (.alloc [.int .i64 0,.int .i64 0]),⟨none,[.sl 4,.tk 17],none,none,.st 2⟩]) (.seq (.reg false [I_ 18 [.sl 4] (.fa
 0),I_ 19 [.tv 18] (.ld .one),I_ 20 [.tv 19,.cv (.int .i64 0)] (.bin .lss),I_ 21 [.tk 20] .mv,⟨some 22,[.sl 4],some (21,false),none,.fa 0⟩,⟨some 23,[.tv 22],some (21,false),none,.ld .one⟩,⟨some 24,[.tv 23,.cv
 (.int .i64 20)],some (21,false),none,.bin .gtr⟩,I_ 25 [.tv 21,.cv (.bool true),.tv 24] .pick,I_ 26 [.tk 25] .mv,⟨some 27,[.sl 4],some (26,false),none,.fa 1⟩,⟨some 28,[.tv 27],some (26,false),none,.ld .one⟩,
 ⟨some 29,[.tv 28,.cv (.int .i64 1)],some (26,false),none,.bin .lss⟩,I_ 30 [.tv 26,.cv (.bool true),.tv 29] .pick,I_ 31 [.tk 30] .mv,⟨some 32,[.tv 4],some (31,false),none,.fa 1⟩,⟨some 33,[.tv 32],some (31,
 false),none,.ld .one⟩,⟨some 34,[.tv 33,.cv (.int .i64 24)],some (31,false),none,.bin .gtr⟩,I_ 35 [.tv 31,.cv (.bool true),.tv 34] .pick]) (.cond (.sl 35) (.seq (.reg false [I_ 2 [.cv (.int .i64 3)] .mv]) .ret)
 .skip)))) (.reg false [I_ 12 [.tk 3] .mv,I_ 13 [.tv 12,.cv (.int .i64 1)] (.bin .add),I_ 3 [.tk 13] .mv])))
noncomputable def xrc23:RC :=
 .seq (.reg false [I_ 2 [.cv (.int .i64 0)] .mv]) (.seq (.seq (.reg false [I_ 5 [.sl 0] .mv,I_ 6 [.tk 5] .lenS,I_ 7 [.tv 6,.cv (.int .i64 12)] (.bin .gtr)]) (.cond (.sl 7) (.seq (.reg false [I_ 2 [.cv (.int .i64 6)] .mv]) .ret)
 .skip)) (.seq (.seq (.reg false [I_ 3 [.cv (.int .i64 0)] .mv]) (.block 0 xrc23_1)) (.seq (.reg false [I_ 2 [.cv (.int .i64 0)] .mv]) .ret)))
theorem lxx23:linkF Tryz.prog ann23 23=some (xrc23,36,[.tmp 2]):=by kernel_rfl
def x23_l1 (panels:(List (Int×Int))) (kl1_0:Unit→Option Int):Nat→Int→Option Int
 | 0,_=>none
 | m+1,s1 =>
   if (decide (s1<(panels.length:Int)))=true then
    gd (0≤s1∧s1<(panels.length:Int)) <|
    if (decide ((ix panels s1).1<(0:Int)))=true then
     some (3:Int)
    else
     if (decide ((20:Int)<(ix panels s1).1))=true then
      some (3:Int)
     else
      if (decide ((ix panels s1).2<(1:Int)))=true then
       some (3:Int)
      else
       if (decide ((24:Int)<(ix panels s1).2))=true then
        some (3:Int)
       else
        x23_l1 panels kl1_0 m (w (s1+(1:Int)))
   else
    kl1_0 ()
def x23 (panels:(List (Int×Int))):Option Int :=
 if (decide ((12:Int)<(panels.length:Int)))=true then
  some (6:Int)
 else
  x23_l1 panels (fun _ =>
    some (0:Int)) FU (0:Int)
theorem x23_l1_ok {panels:(List (Int×Int))} {kl1_0:Unit→Option Int} {s1:Int} {v:Int} {Q:Ex→List AV→List AObj→Prop}   (hR:∀ T H,RetW [.tmp 2] (I v) .ret T H→Q .ret T H) (hkl1_0:∀ (u0:AV) (u2:AV) (u3:AV) (u4:AV) (u5:AV) (u6:AV) (u7:AV) (u8:AV) (u9:AV) (u10:AV) (u11:AV) (u12:AV) (u13:AV) (u14:AV) (u15:AV) (u16:AV) (u17:AV) (u18:AV) (u19:AV) (u20:AV) (u21:AV) (u22:AV) (u23:AV) (u24:AV) (u25:AV) (u26:AV) (u27:AV) (u28:AV) (u29:AV) (u30:AV) (u31:AV) (u32:AV) (u33:AV) (u34:AV) (u35:AV) (Yq:List AObj),kl1_0 ()=some v→Q (.exit 0) [u0,J,u2,u3,u4,u5,u6,u7,u8,u9,u10,u11,u12,u13,u14,u15,u16,u17,u18,u19,u20,u21,u22,u23,u24,u25,u26,u27,u28,u29,u30,u31,u32,u33,u34,u35] (Yq)) {T:List AV} (hT:zipKeep [i_,o_,o_,i_,o_,o_,o_,o_,o_,o_,o_,o_,o_,o_,o_,o_,o_,o_,o_,o_,o_,o_,o_,o_,o_,o_,o_,o_,o_,o_,o_,o_,o_,o_,o_,o_] T=slots 36 [(0,(.lst (panels.flatMap pr) panels.length .shared)),(3,(I s1))]) (h:x23_l1 panels kl1_0 FU s1=some v) :
  wpR Tryz.prog ann23 23 0 none xrc23_1 T [] Q:=by
 unfold xrc23_1
 skip
 refine wp_loop hT ?_
 refine .intro (fun m T H=>∃ (s1:Int) (Y23_1:List AObj),T=slots 36 [(0,(.lst (panels.flatMap pr) panels.length .shared)),(3,(I s1))]∧H=(Y23_1)∧x23_l1 panels kl1_0 m s1=some v) FU ⟨s1,[],rfl,rfl,h⟩ ?_
 clear h hT
 rintro m T H ⟨s1,Y23_1,rfl,rfl,h⟩
 cases m
 ·exact none_ne h
 rename_i m
 rw [x23_l1.eq_2] at h
 conv=>whnf
 rcases bt (decide (s1<(panels.length:Int))) with hb2 | hb2
 ·rw [hb2]
  conv=>whnf
  replace h:=it_t hb2 h
  obtain ⟨hb3,h⟩:=gd_some h
  refine ⟨hb3,?_⟩
  rw [dropS pr 2 pr_len panels s1 hb3]
  conv=>whnf
  refine nthK_of (x:=AObj.cells [(I (0:Int)),(I (0:Int))]) (by first | with_reducible exact get_concat _ _ | exact get_concat _ _ | exact ga (get_concat _ _) | rfl | (simp [List.getElem?_append,AV.settle];done)) ?_
  conv=>whnf
  rw [set_concat]
  refine nthK_of (x:=AObj.cells [(I (ix panels s1).1),(I (ix panels s1).2)]) (by first | with_reducible exact get_concat _ _ | exact get_concat _ _ | exact ga (get_concat _ _) | rfl | (simp [List.getElem?_append,AV.settle];done)) ?_
  conv=>whnf
  rcases bt (decide ((ix panels s1).1<(0:Int))) with hb4 | hb4
  ·rw [hb4]
   conv=>whnf
   replace h:=it_t hb4 h
   obtain rfl:=Option.some.inj h
   exact hR _ _ ⟨.inr rfl,_,rfl,_,frz_pure rfl,rfl⟩
  ·rw [hb4]
   conv=>whnf
   replace h:=it_f hb4 h
   refine nthK_of (x:=AObj.cells [(I (ix panels s1).1),(I (ix panels s1).2)]) (by first | with_reducible exact get_concat _ _ | exact get_concat _ _ | exact ga (get_concat _ _) | rfl | (simp [List.getElem?_append,AV.settle];done)) ?_
   conv=>whnf
   rcases bt (decide ((20:Int)<(ix panels s1).1)) with hb5 | hb5
   ·rw [hb5]
    conv=>whnf
    replace h:=it_t hb5 h
    obtain rfl:=Option.some.inj h
    exact hR _ _ ⟨.inr rfl,_,rfl,_,frz_pure rfl,rfl⟩
   ·rw [hb5]
    conv=>whnf
    replace h:=it_f hb5 h
    refine nthK_of (x:=AObj.cells [(I (ix panels s1).1),(I (ix panels s1).2)]) (by first | with_reducible exact get_concat _ _ | exact get_concat _ _ | exact ga (get_concat _ _) | rfl | (simp [List.getElem?_append,AV.settle];done)) ?_
    conv=>whnf
    rcases bt (decide ((ix panels s1).2<(1:Int))) with hb6 | hb6
    ·rw [hb6]
     conv=>whnf
     replace h:=it_t hb6 h
     obtain rfl:=Option.some.inj h
     exact hR _ _ ⟨.inr rfl,_,rfl,_,frz_pure rfl,rfl⟩
    ·rw [hb6]
     conv=>whnf
     replace h:=it_f hb6 h
     refine nthK_of (x:=AObj.cells [(I (ix panels s1).1),(I (ix panels s1).2)]) (by first | with_reducible exact get_concat _ _ | exact get_concat _ _ | exact ga (get_concat _ _) | rfl | (simp [List.getElem?_append,AV.settle];done)) ?_
     conv=>whnf
     rcases bt (decide ((24:Int)<(ix panels s1).2)) with hb7 | hb7
     ·rw [hb7]
      conv=>whnf
      replace h:=it_t hb7 h
      obtain rfl:=Option.some.inj h
      exact hR _ _ ⟨.inr rfl,_,rfl,_,frz_pure rfl,rfl⟩
     ·rw [hb7]
      conv=>whnf
      replace h:=it_f hb7 h
      exact ⟨m,Nat.lt_succ_self m,(w (s1+(1:Int))),_,rfl,rfl,h⟩
 ·rw [hb2]
  conv=>whnf
  replace h:=it_f hb2 h
  exact hkl1_0 _ _ _ _ _ _ _ _ _ _ _ _ _ _ _ _ _ _ _ _ _ _ _ _ _ _ _ _ _ _ _ _ _ _ _ _ h
theorem x23_ok {panels:(List (Int×Int))} {v:Int} (h:x23 panels=some v):PO 23 [(.lst (panels.flatMap pr) panels.length .shared)] (I v):=by
 refine fn_pureW hmix lxx23 rfl rfl fun Q hQ=>?_
 have hR:∀ T H,RetW [.tmp 2] (I v) .ret T H→Q .ret T H:=fun T H hh=>hQ _ T H hh
 unfold x23 at h
 unfold xrc23
 obtain ⟨c_1,g_1⟩:∃ c,xrc23_1=c:=⟨_,rfl⟩
 rw [g_1]
 conv=>whnf
 rcases bt (decide ((12:Int)<(panels.length:Int))) with hb1 | hb1
 ·rw [hb1]
  conv=>whnf
  replace h:=it_t hb1 h
  obtain rfl:=Option.some.inj h
  exact hR _ _ ⟨.inr rfl,_,rfl,_,frz_pure rfl,rfl⟩
 ·rw [hb1]
  conv=>whnf
  replace h:=it_f hb1 h
  subst g_1
  refine x23_l1_ok ?_ ?_ (by exact rfl) h
  ·exact fun T H hh=>hR T H hh
  ·intro u0 u2 u3 u4 u5 u6 u7 u8 u9 u10 u11 u12 u13 u14 u15 u16 u17 u18 u19 u20 u21 u22 u23 u24 u25 u26 u27 u28 u29 u30 u31 u32 u33 u34 u35 Yq h
   conv=>whnf
   obtain rfl:=Option.some.inj h
   exact hR _ _ ⟨.inr rfl,_,rfl,_,frz_pure rfl,rfl⟩

noncomputable def xrc24_1:RC :=
 .loop (some [i_,i_,o_,o_,o_,i_,o_,o_,o_,o_,o_,o_,o_,o_,o_,o_,o_,o_,o_,o_,o_,o_,o_,o_,o_,o_]) (.seq (.seq (.reg false [I_ 11 [.sl
 5] .mv,I_ 12 [.sl 0] .mv,I_ 13 [.tk 12] .lenS,I_ 14 [.tv 11,.tv 13] (.bin .lss)]) (.cond (.sl 14) .skip (.exit 0))) (.seq (.block 1 (.seq (.reg true [I_ 17 [.sl 0] .mv,I_ 18 [.sl 5] .mv,I_ 19 [.tv 17,.tv 18] (.ia 1),I_
 20 [.tv 19] (.ld .one),I_ 21 [.sl 1] .mv,I_ 22 [.sl 5] .mv,I_ 23 [.tv 21,.tv 22] (.ia 1),I_ 24 [.tv 23] (.ld .one),I_ 25 [.tv 20,.tv 24] (.bin .neq)]) (.cond (.sl 25) (.seq (.reg false [I_ 4 [.cv (.bool false)] .mv])
 .ret) .skip))) (.reg false [I_ 15 [.tk 5] .mv,I_ 16 [.tv 15,.cv (.int .i64 1)] (.bin .add),I_ 5 [.tk 16] .mv])))
noncomputable def xrc24:RC :=
 .seq (.reg false [I_ 4 [.cv (.bool false)] .mv]) (.seq (.seq (.reg false [I_ 6 [.sl 0] .mv,I_ 7 [.tk 6] .lenS,I_ 8 [.sl 1] .mv,I_ 9 [.tk 8] .lenS,I_ 10 [.tv 7,.tv 9] (.bin .neq)]) (.cond (.sl 10) (.seq (.reg false [I_ 4 [.cv
 (.bool false)] .mv]) .ret) .skip)) (.seq (.seq (.reg false [I_ 5 [.cv (.int .i64 0)] .mv]) (.block 0 xrc24_1)) (.seq (.reg false [I_ 4 [.cv (.bool true)] .mv]) .ret)))
theorem lxx24:linkF Tryz.prog ann24 24=some (xrc24,26,[.tmp 4]):=by kernel_rfl
def x24_l1 (a:(List Int)) (b:(List Int)) (kl1_0:Unit→Option Bool):Nat→Int→Option Bool
 | 0,_=>none
 | m+1,s1 =>
   if (decide (s1<(a.length:Int)))=true then
    gd (0≤s1∧s1<(a.length:Int)) <|
    gd (0≤s1∧s1<(b.length:Int)) <|
    if (decide ((ix a s1)≠(ix b s1)))=true then
     some false
    else
     x24_l1 a b kl1_0 m (w (s1+(1:Int)))
   else
    kl1_0 ()
def x24 (a:(List Int)) (b:(List Int)):Option Bool :=
 if (decide ((a.length:Int)≠(b.length:Int)))=true then
  some false
 else
  x24_l1 a b (fun _ =>
    some true) FU (0:Int)
theorem x24_l1_ok {a:(List Int)} {b:(List Int)} {kl1_0:Unit→Option Bool} {s1:Int} {v:Bool} {Q:Ex→List AV→List AObj→Prop}   (hR:∀ T H,RetW [.tmp 4] (B v) .ret T H→Q .ret T H) (hkl1_0:∀ (u0:AV) (u1:AV) (u4:AV) (u5:AV) (u6:AV) (u7:AV) (u8:AV) (u9:AV) (u10:AV) (u11:AV) (u12:AV) (u13:AV) (u14:AV) (u15:AV) (u16:AV) (u17:AV) (u18:AV) (u19:AV) (u20:AV) (u21:AV) (u22:AV) (u23:AV) (u24:AV) (u25:AV),kl1_0 ()=some v→Q (.exit 0) [u0,u1,J,J,u4,u5,u6,u7,u8,u9,u10,u11,u12,u13,u14,u15,u16,u17,u18,u19,u20,u21,u22,u23,u24,u25] []) {T:List AV} (hT:zipKeep [i_,i_,o_,o_,o_,i_,o_,o_,o_,o_,o_,o_,o_,o_,o_,o_,o_,o_,o_,o_,o_,o_,o_,o_,o_,o_] T=slots 26 [(0,(.lst (a.map I) a.length .shared)),(1,(.lst (b.map I) b.length .shared)),(5,(I s1))]) (h:x24_l1 a b kl1_0 FU s1=some v) :
  wpR Tryz.prog ann24 24 0 none xrc24_1 T [] Q:=by
 unfold xrc24_1
 skip
 refine wp_loop hT ?_
 refine .intro (fun m T H=>∃ (s1:Int),T=slots 26 [(0,(.lst (a.map I) a.length .shared)),(1,(.lst (b.map I) b.length .shared)),(5,(I s1))]∧H=[]∧x24_l1 a b kl1_0 m s1=some v) FU ⟨s1,rfl,rfl,h⟩ ?_
 clear h hT
 rintro m T H ⟨s1,rfl,rfl,h⟩
 cases m
 ·exact none_ne h
 rename_i m
 rw [x24_l1.eq_2] at h
 conv=>whnf
 rcases bt (decide (s1<(a.length:Int))) with hb2 | hb2
 ·rw [hb2]
  conv=>whnf
  replace h:=it_t hb2 h
  obtain ⟨hb3,h⟩:=gd_some h
  refine ⟨hb3,?_⟩
  rw [drop1 I a s1 hb3]
  conv=>whnf
  obtain ⟨hb4,h⟩:=gd_some h
  refine ⟨hb4,?_⟩
  rw [drop1 I b s1 hb4]
  conv=>whnf
  rcases bt (decide ((ix a s1)≠(ix b s1))) with hb5 | hb5
  ·rw [hb5]
   conv=>whnf
   replace h:=it_t hb5 h
   obtain rfl:=Option.some.inj h
   exact hR _ _ ⟨.inr rfl,_,rfl,_,frz_pure rfl,rfl⟩
  ·rw [hb5]
   conv=>whnf
   replace h:=it_f hb5 h
   exact ⟨m,Nat.lt_succ_self m,(w (s1+(1:Int))),rfl,rfl,h⟩
 ·rw [hb2]
  conv=>whnf
  replace h:=it_f hb2 h
  exact hkl1_0 _ _ _ _ _ _ _ _ _ _ _ _ _ _ _ _ _ _ _ _ _ _ _ _ h
theorem x24_ok {a:(List Int)} {b:(List Int)} {v:Bool} (h:x24 a b=some v):PO 24 [(.lst (a.map I) a.length .shared),(.lst (b.map I) b.length .shared)] (B v):=by
 refine fn_pureW hmix lxx24 rfl rfl fun Q hQ=>?_
 have hR:∀ T H,RetW [.tmp 4] (B v) .ret T H→Q .ret T H:=fun T H hh=>hQ _ T H hh
 unfold x24 at h
 unfold xrc24
 obtain ⟨c_1,g_1⟩:∃ c,xrc24_1=c:=⟨_,rfl⟩
 rw [g_1]
 conv=>whnf
 rcases bt (decide ((a.length:Int)≠(b.length:Int))) with hb1 | hb1
 ·rw [hb1]
  conv=>whnf
  replace h:=it_t hb1 h
  obtain rfl:=Option.some.inj h
  exact hR _ _ ⟨.inr rfl,_,rfl,_,frz_pure rfl,rfl⟩
 ·rw [hb1]
  conv=>whnf
  replace h:=it_f hb1 h
  subst g_1
  refine x24_l1_ok ?_ ?_ (by exact rfl) h
  ·exact fun T H hh=>hR T H hh
  ·intro u0 u1 u4 u5 u6 u7 u8 u9 u10 u11 u12 u13 u14 u15 u16 u17 u18 u19 u20 u21 u22 u23 u24 u25 h
   conv=>whnf
   obtain rfl:=Option.some.inj h
   exact hR _ _ ⟨.inr rfl,_,rfl,_,frz_pure rfl,rfl⟩

def x3 (b:(Int×(List Int)×Int×Int)) (panels:(List (Int×Int))):Option Bool :=
 (x16 b panels).bind fun r1 =>
 if r1=true then
  (x17).bind fun r2 =>
  some r2
 else
  (x18 b).bind fun r3 =>
  (x19 b).bind fun r4 =>
  (x20 b).bind fun r5 =>
  (x21 b).bind fun r6 =>
  if (decide (r5=r6))=true then
   (x22 panels).bind fun r7 =>
   (x23 panels).bind fun r8 =>
   if (decide (r7=r8))=true then
    (x24 r3.1 r4.1).bind fun r9 =>
    if r9=true then
     if (decide (r3.2=r4.2))=true then
      (x17).bind fun r10 =>
      some r10
     else
      some false
    else
     some false
   else
    some false
  else
   some false

def x25_l1 (l:(List (List Int))) (kl1_0:Int→Option Bool):Nat→Int→Int→Option Bool
 | 0,_,_=>none
 | m+1,s1,s2 =>
   if (decide (s2<(l.length:Int)))=true then
    gd (0≤s2∧s2<(l.length:Int)) <|
    x25_l1 l kl1_0 m (w (s1+((ix l s2).length:Int))) (w (s2+(1:Int)))
   else
    kl1_0 s1
def x25 (l:(List (List Int))):Option Bool :=
 if (decide ((20:Int)<(l.length:Int)))=true then
  some true
 else
  x25_l1 l (fun z1 =>
    some (decide ((40:Int)<z1))) FU (0:Int) (0:Int)

def x32_l1 (a:(List Int)) (b:(List Int)) (kl1_0:Unit→Option Bool):Nat→Int→Option Bool
 | 0,_=>none
 | m+1,s1 =>
   if (decide (s1<(a.length:Int)))=true then
    gd (0≤s1∧s1<(a.length:Int)) <|
    gd (0≤s1∧s1<(b.length:Int)) <|
    if (decide ((ix a s1)≠(ix b s1)))=true then
     some false
    else
     x32_l1 a b kl1_0 m (w (s1+(1:Int)))
   else
    kl1_0 ()
def x32 (a:(List Int)) (b:(List Int)):Option Bool :=
 if (decide ((a.length:Int)≠(b.length:Int)))=true then
  some false
 else
  x32_l1 a b (fun _ =>
    some true) FU (0:Int)
end Go.Proofs.YtbnbjjgagikobaaGreat.Ab


namespace Go.Proofs.YtbnbjjgagikobaaGreat.Ab
open Go
theorem outOf_true {lo hi x:Int}:outOf lo hi x=true↔x<lo∨hi<x:=by
 simp only [outOf,Bool.or_eq_true,decide_eq_true_eq]
theorem x87_eq (n lo hi:Int):x87 n lo hi=some (outOf lo hi n):=by
 unfold x87 outOf;by_cases h:n<lo <;> simp [h]
theorem x80_l1_eq {s:List Int} {f:Int→Option Bool} {k:Unit→Option Int} {p:Int→Bool} (hf:∀ x∈s,f x=some (p x)) (hs:s.length≤140737488355328):∀ (m i:Nat) (z:Int),z=i→i≤s.length→s.length-i<m→x80_l1 s f k m z=if (s.drop i).any p=true then some (idxOf p (s.drop i) i) else k ()
 | 0,i,_,_,_,h=>absurd h (by omega)
 | m+1,i,_,rfl,hi,hm=>by
   rw [x80_l1]
   by_cases h:i<s.length
   ·rw [iflt h,gdi h,ix_nat h,hf _ (List.getElem_mem h),Option.bind_some,List.drop_eq_getElem_cons h,List.any_cons,idxOf]
    by_cases hp:p s[i]=true
    ·simp [hp]
    ·rw [if_neg hp,if_neg hp,w_succ i (by omega),x80_l1_eq hf hs m (i+1) _ rfl (by omega) (by omega)];simp [hp]
   ·rw [ifge h,List.drop_eq_nil_of_le (by omega)];simp
theorem x80_eq {s:List Int} {f:Int→Option Bool} {p:Int→Bool} (hf:∀ x∈s,f x=some (p x)) (hs:s.length≤140737488355328):x80 s f=some (idxOf p s 0):=by
 unfold x80
 have:=x80_l1_eq (k:=fun _=>some (-1:Int)) hf hs FU 0 0 rfl (Nat.zero_le _) (FU_lt (by omega))
 rw [List.drop_zero] at this
 rw [this]
 by_cases h:s.any p=true
 ·rw [if_pos h]
 ·rw [if_neg h]
  have:=(not_congr (idxOf_nonneg p s 0)).2 h
  have e:∀ (l:List Int) (i:Nat),l.any p=false→idxOf p l i=-1:=fun l=>by
   induction l with
   | nil=>intro i _;rfl
   | cons x l ih =>
     intro i hh
     simp only [List.any_cons,Bool.or_eq_false_iff] at hh
     rw [idxOf,if_neg (by simp [hh.1]),ih _ hh.2]
  rw [e s 0 (by simpa using h)]
theorem x86_eq {s:List Int} {f:Int→Option Bool} {p:Int→Bool} (hf:∀ x∈s,f x=some (p x)) (hs:s.length≤140737488355328):x86 s f=some (s.any p):=by
 rw [x86,x80_eq hf hs,Option.bind_some,idxOf_any]
theorem x88_l1_eq {s:List (Int×Int)} {f:Int×Int→Option Bool} {k:Unit→Option Int} {p:Int×Int→Bool} (hf:∀ x∈s,f x=some (p x)) (hs:s.length≤140737488355328):∀ (m i:Nat) (z:Int),z=i→i≤s.length→s.length-i<m→x88_l1 s f k m z=if (s.drop i).any p=true then some (idxOf p (s.drop i) i) else k ()
 | 0,i,_,_,_,h=>absurd h (by omega)
 | m+1,i,_,rfl,hi,hm=>by
   rw [x88_l1]
   by_cases h:i<s.length
   ·rw [iflt h,gdi h,ix_nat h,hf _ (List.getElem_mem h),Option.bind_some,List.drop_eq_getElem_cons h,List.any_cons,idxOf]
    by_cases hp:p s[i]=true
    ·simp [hp]
    ·rw [if_neg hp,if_neg hp,w_succ i (by omega),x88_l1_eq hf hs m (i+1) _ rfl (by omega) (by omega)];simp only [hp,Bool.false_or]
   ·rw [ifge h,List.drop_eq_nil_of_le (by omega)];simp
theorem x64_eq {s:List (Int×Int)} {f:Int×Int→Option Bool} {p:Int×Int→Bool} (hf:∀ x∈s,f x=some (p x)) (hs:s.length≤140737488355328):x64 s f=some (s.any p):=by
 have:=x88_l1_eq (k:=fun _=>some (-1:Int)) hf hs FU 0 0 rfl (Nat.zero_le _) (FU_lt (by omega))
 rw [List.drop_zero] at this
 rw [x64,x88,this]
 by_cases h:s.any p=true
 ·rw [if_pos h,Option.bind_some]
  have:=(idxOf_nonneg p s 0).2 h
  simp [h,this]
 ·rw [if_neg h,Option.bind_some]
  simp only [Bool.not_eq_true] at h
  rw [h];rfl
theorem x60_eq (lo hi:Int) (l:List Int) (hl:l.length≤140737488355328):x60 lo hi l=some (!(l.any (outOf lo hi))):=by
 rw [x60,x86_eq (p:=outOf lo hi) (fun x _=>x87_eq x lo hi) hl,Option.bind_some]
theorem x60_one (lo hi x:Int):x60 lo hi [x]=some (!(outOf lo hi x)):=by
 rw [x60_eq lo hi [x] (by simp)];simp
theorem x61_l1_eq {l:List Int} {b:Int} {k:Unit→Option Bool} (hl:l.length≤9223372036854775807) (hb:0≤b∧b≤1000000):∀ (m i:Nat) (z n:Int),z=i→(i:Int)≤n→n≤1000001→i≤l.length→l.length-i<m→x61_l1 l b k m n z=if riseGo b n (l.drop i)=true then k () else some false
 | 0,i,_,_,_,_,_,_,h=>absurd h (by omega)
 | m+1,i,_,n,rfl,hn0,hn1,hi,hm=>by
   rw [x61_l1]
   by_cases h:i<l.length
   ·rw [iflt h,gdi h,ix_nat h,x60_one,w_id (n:=b-1) (by omega),Option.bind_some,List.drop_eq_getElem_cons h,riseGo]
    cases ho:outOf n (b-1) l[i] with
    | true=>simp
    | false =>
      have:=outOf_false.1 ho
      rw [w_succ i (by omega),w_id (n:=l[i]+1) (by omega),x61_l1_eq hl hb m (i+1) _ (l[i]+1) rfl (by omega) (by omega) (by omega) (by omega)]
      simp
   ·rw [ifge h,List.drop_eq_nil_of_le (by omega)];simp [riseGo]
theorem x61_eq {l:List Int} {b:Int} (hl:l.length≤9223372036854775807) (hb:0≤b∧b≤1000000):x61 l b=some (riseGo b 0 l):=by
 have:=x61_l1_eq (k:=fun _=>some true) hl hb FU 0 0 0 rfl (by omega) (by omega) (Nat.zero_le _) (FU_lt (by omega))
 rw [List.drop_zero] at this
 rw [x61,this]
 cases riseGo b 0 l <;> rfl
theorem x62_l1_eq {l:List Int} {b:Int} {k:Unit→Option Bool} (hl:l.length≤9223372036854775807) (hb:0≤b∧b≤1000000):∀ (m i:Nat) (z:Int),z=i→(i=0∨((i:Int)≤nextOf l i∧nextOf l i≤1000001))→i≤l.length→l.length-i<m→x62_l1 l b k m z=if riseGo b (nextOf l i) (l.drop i)=true then k () else some false
 | 0,i,_,_,_,_,h=>absurd h (by omega)
 | m+1,i,_,rfl,hn,hi,hm=>by
   rw [x62_l1]
   by_cases h:i<l.length
   ·have en:nextOf l (i+1)=l[i]+1:=by unfold nextOf;simp [h]
    rw [iflt h,gdi h,gdi h,gdi h,ix_nat h,List.drop_eq_getElem_cons h,riseGo]
    by_cases h1:l[i]<0
    ·rw [if_pos (decide_eq_true h1)]
     have:outOf (nextOf l i) (b-1) l[i]=true:=by
      rw [outOf_true]
      rcases hn with rfl | hn
      ·rw [nextOf,if_pos rfl];omega
      ·omega
     rw [if_pos this,if_neg (by decide)]
    rw [if_neg (by simp [h1])]
    by_cases h2:b≤l[i]
    ·rw [if_pos (decide_eq_true h2),if_pos (outOf_true.2 (by omega)),if_neg (by decide)]
    rw [if_neg (by simp [h2])]
    have hstep:(i:Int)≤l[i]→x62_l1 l b k m (w ((i:Int)+1))=if riseGo b (l[i]+1) (l.drop (i+1))=true then k () else some false:=fun hge=>by
     rw [w_succ i (by omega),x62_l1_eq hl hb m (i+1) _ rfl (.inr (by rw [en];omega)) (by omega) (by omega),en]
    by_cases h3:(0:Int)<(i:Int)
    ·rw [if_pos (decide_eq_true h3),show w ((i:Int)-1)=((i-1:Nat):Int) by rw [w_id (by omega)];omega,gdi (show i-1<l.length by omega),ix_nat (show i-1<l.length by omega)]
     have ep:nextOf l i=l[i-1]+1:=by unfold nextOf;rw [if_neg (by omega)];simp [show i-1<l.length by omega]
     rw [ep]
     by_cases h4:l[i]≤l[i-1]
     ·rw [if_pos (decide_eq_true h4),if_pos (outOf_true.2 (by omega)),if_neg (by decide)]
     ·have ho:outOf (l[i-1]+1) (b-1) l[i]=false:=outOf_false.2 (by omega)
      rw [hstep (by rcases hn with rfl | hn <;> omega)]
      simp [h4,ho]
    ·have i0:i=0:=by omega
     subst i0
     have ho:outOf 0 (b-1) l[0]=false:=outOf_false.2 (by omega)
     rw [if_neg (by simp),hstep (by omega),show nextOf l 0=0 from rfl]
     simp [ho]
   ·rw [ifge h,List.drop_eq_nil_of_le (by omega)];simp [riseGo]
theorem x62_eq {l:List Int} {b:Int} (hl:l.length≤9223372036854775807) (hb:0≤b∧b≤1000000):x62 l b=some (riseGo b 0 l):=by
 have:=x62_l1_eq (k:=fun _=>some true) hl hb FU 0 0 rfl (.inl rfl) (Nat.zero_le _) (FU_lt (by omega))
 rw [List.drop_zero,show nextOf l 0=0 from rfl] at this
 rw [x62,this]
 cases riseGo b 0 l <;> rfl
abbrev bErr (b:Bed):Int:=bedErr b.1 b.2.1 b.2.2.1 b.2.2.2
theorem x20_eq (b:Bed) (hb:b.2.1.length≤1000):x20 b=some (bErr b):=by
 obtain ⟨o,br,h,c⟩:=b
 simp only at hb
 simp only [x20,x60_one,Option.bind_some,bErr,bedErr]
 cases h1:outOf 1 10 o with
 | true=>simp
 | false =>
   have:=outOf_false.1 h1
   rw [x61_eq (by omega) (by omega),Option.bind_some]
   cases riseGo o 0 br with
   | false=>simp
   | true =>
     by_cases h3:(br.length:Int)=o
     ·simp [h3]
     ·cases h4:outOf 0 20 h with
      | true=>simp [h3]
      | false =>
        unfold outOf
        by_cases h5:c<0 <;> by_cases h6:10<c <;> simp [h3,h5,h6]
theorem x21_eq (b:Bed) (hb:b.2.1.length≤1000):x21 b=some (bErr b):=by
 obtain ⟨o,br,h,c⟩:=b
 simp only at hb
 have e1:outOf 1 10 o=(decide (o<1) || decide (10<o)):=rfl
 simp only [x21,bErr,bedErr,e1]
 by_cases h1:o<1
 ·simp [h1]
 by_cases h2:10<o
 ·simp [h1,h2]
 rw [x62_eq (by omega) (by omega),Option.bind_some]
 simp only [h1,h2]
 cases riseGo o 0 br with
 | false=>simp
 | true =>
   by_cases h3:(br.length:Int)=o
   ·simp [h3]
   ·unfold outOf
    by_cases h4:h<0 <;> by_cases h5:20<h <;> by_cases h6:c<0 <;> by_cases h7:10<c <;> simp [h3,h4,h5,h6,h7]
def badP (p:Int×Int):Bool:=outOf 0 20 p.1 || outOf 1 24 p.2
def pErr (ps:List (Int×Int)):Int:=if 12<ps.length then 6 else if ps.any badP=true then 3 else 0
theorem x63_eq (p:Int×Int):x63 p=some (badP p):=by
 simp only [x63,x60_one,Option.bind_some,badP]
 cases outOf 0 20 p.1 with
 | true=>simp
 | false=>unfold outOf;by_cases h:p.2<1 <;> simp [h]
theorem x22_eq (ps:List (Int×Int)):x22 ps=some (pErr ps):=by
 unfold x22 pErr
 by_cases h:12<ps.length
 ·rw [if_pos (decide_eq_true (by omega)),if_pos h]
 ·rw [if_neg (by rw [decide_eq_true_eq];omega),if_neg h,x64_eq (p:=badP) (fun p _=>x63_eq p) (by omega),Option.bind_some]
  cases ps.any badP <;> rfl
theorem x23_l1_eq {ps:List (Int×Int)} {k:Unit→Option Int} (hl:ps.length≤1000):∀ (m i:Nat) (z:Int),z=i→i≤ps.length→ps.length-i<m→x23_l1 ps k m z=if (ps.drop i).any badP=true then some 3 else k ()
 | 0,i,_,_,_,h=>absurd h (by omega)
 | m+1,i,_,rfl,hi,hm=>by
   rw [x23_l1]
   by_cases h:i<ps.length
   ·rw [iflt h,gdi h,ix_nat h,List.drop_eq_getElem_cons h,List.any_cons,w_succ i (by omega),x23_l1_eq hl m (i+1) _ rfl (by omega) (by omega)]
    generalize (ps.drop (i+1)).any badP=t
    unfold badP outOf
    by_cases h1:ps[i].1<0 <;> by_cases h2:20<ps[i].1 <;> by_cases h3:ps[i].2<1 <;> by_cases h4:24<ps[i].2 <;> simp [h1,h2,h3,h4]
   ·rw [ifge h,List.drop_eq_nil_of_le (by omega)];simp
theorem x23_eq (ps:List (Int×Int)):x23 ps=some (pErr ps):=by
 unfold x23 pErr
 by_cases h:12<ps.length
 ·rw [if_pos (decide_eq_true (by omega)),if_pos h]
 ·rw [if_neg (by rw [decide_eq_true_eq];omega),if_neg h]
  have:=x23_l1_eq (ps:=ps) (k:=fun _=>some 0) (by omega) FU 0 0 rfl (Nat.zero_le _) (FU_lt (by omega))
  rw [List.drop_zero] at this
  rw [this]
  split <;> rfl
theorem x53_l1_eq {l:List Int} {n:Int} {k:Unit→Option Bool} (hl:l.length≤140737488355328):∀ (m i:Nat) (z:Int),z=i→i≤l.length→l.length-i<m→x53_l1 l n k m z=if n∈l.drop i then some true else k ()
 | 0,i,_,_,_,h=>absurd h (by omega)
 | m+1,i,_,rfl,hi,hm=>by
   rw [x53_l1]
   by_cases h:i<l.length
   ·rw [iflt h,gdi h,ix_nat h,List.drop_eq_getElem_cons h,w_succ i (by omega),x53_l1_eq hl m (i+1) _ rfl (by omega) (by omega)]
    by_cases h1:l[i]=n
    ·rw [if_pos (decide_eq_true h1),if_pos (by simp only [List.mem_cons,h1,true_or])]
    ·rw [if_neg (by simpa using h1)];simp only [List.mem_cons,Ne.symm h1,false_or]
   ·rw [ifge h,List.drop_eq_nil_of_le (by omega)];simp
theorem x53_eq (l:List Int) (n:Int) (hl:l.length≤140737488355328):x53 l n=some (decide (n∈l)):=by
 have:=x53_l1_eq (n:=n) (k:=fun _=>some false) hl FU 0 0 rfl (Nat.zero_le _) (FU_lt (by omega))
 rw [List.drop_zero] at this
 rw [x53,this]
 by_cases h:n∈l <;> simp [h]
theorem wholeL_snoc (i:Nat) (br:List Int):wholeL (i+1) br=wholeL i br++(if (i:Int)∈br then [] else [(i:Int)]):=by
 unfold wholeL wholeN
 rw [List.range_succ,List.filter_append,List.map_append]
 by_cases h:(i:Int)∈br <;> simp [h]
theorem x51_l1_eq {b:Bed} {k:List Int→Option (List Int)} {o:Nat} (ho:b.1=o) (hb:o≤1000) (hl:b.2.1.length≤1000):∀ (m i:Nat) (z:Int),z=i→i≤o→o-i<m→x51_l1 b k m (wholeL i b.2.1) z=k (wholeL o b.2.1)
 | 0,i,_,_,_,h=>absurd h (by omega)
 | m+1,i,_,rfl,hi,hm=>by
   rw [x51_l1,ho]
   by_cases h:i<o
   ·have hlen:(wholeL i b.2.1).length≤i:=by unfold wholeL;rw [List.length_map];exact wholeN_le i b.2.1
    have ih:=x51_l1_eq (k:=k) ho hb hl m (i+1) _ rfl (by omega) (by omega)
    rw [wholeL_snoc] at ih
    rw [iflt h,x53_eq _ _ (by omega),Option.bind_some,gd_pos (by omega),w_succ i (by omega)]
    by_cases hm:(i:Int)∈b.2.1
    ·rw [if_pos hm,List.append_nil] at ih;rw [if_pos (decide_eq_true hm)];exact ih
    ·rw [if_neg hm] at ih;rw [if_neg (by simpa using hm)];exact ih
   ·obtain rfl:i=o:=by omega
    rw [ifge h]
theorem x51_eq (b:Bed) (hb:0≤b.1∧b.1≤1000) (hl:b.2.1.length≤1000):x51 b=some (wholeL b.1.toNat b.2.1):=by
 have:=x51_l1_eq (b:=b) (k:=fun z=>some z) (o:=b.1.toNat) (by omega) (by omega) hl FU 0 0 rfl (Nat.zero_le _) (FU_lt (by omega))
 rw [x51]
 exact this
structure BedOk (b:Bed):Prop where
 o1:1≤b.1
 o10:b.1≤10
 mem:∀ x∈b.2.1,0≤x∧x<b.1
 nodup:b.2.1.Nodup
 lt:(b.2.1.length:Int)<b.1
 h0:0≤b.2.2.1∧b.2.2.1≤20
 c0:0≤b.2.2.2∧b.2.2.2≤10
theorem rise_spec (b:Int):∀ (l:List Int) (n:Int),riseGo b n l=true→(∀ x∈l,n≤x∧x<b)∧l.Pairwise (·<·)
 | [],n,_=>by simp
 | x::l,n,h=>by
   rw [riseGo] at h
   split at h
   ·cases h
   ·rename_i ho
    have ho:=outOf_false.1 (by simpa using ho)
    obtain ⟨h1,h2⟩:=rise_spec b l (x+1) h
    refine ⟨fun y hy=>?_,List.pairwise_cons.2 ⟨fun y hy=>by have:=h1 y hy;omega,h2⟩⟩
    rcases List.mem_cons.1 hy with rfl | hy
    ·omega
    ·have:=h1 y hy;omega
theorem spec_rise (b:Int):∀ (l:List Int) (n:Int),(∀ x∈l,n≤x∧x<b)→l.Pairwise (·<·)→riseGo b n l=true
 | [],n,_,_=>rfl
 | x::l,n,h,hp=>by
   obtain ⟨p1,p2⟩:=List.pairwise_cons.1 hp
   rw [riseGo,if_neg (by rw [Bool.not_eq_true,outOf_false];have:=h x (by simp);omega)]
   exact spec_rise b l (x+1) (fun y hy=>by have:=p1 y hy;have:=h y (by simp [hy]);omega) p2
theorem rise_iff (b:Int) (l:List Int):riseGo b 0 l=true↔(∀ x∈l,0≤x∧x<b)∧l.Pairwise (·<·):=⟨rise_spec b l 0,fun h=>spec_rise b l 0 h.1 h.2⟩
theorem rise_len {b:Int} {l:List Int} (h:riseGo b 0 l=true) (hb:0≤b):(l.length:Int)≤b:=by
 obtain ⟨h1,h2⟩:=rise_spec b l 0 h
 have h3:l.length≤((List.range b.toNat).map fun (i:Nat)=>(i:Int)).length:=sub_len _ _ (h2.imp fun h=>by omega) fun x hx=>by
  have:=h1 x hx
  exact List.mem_map.2 ⟨x.toNat,by simp;omega,by omega⟩
 simp at h3;omega
theorem bedOk {b:Bed} (h:bErr b=0):BedOk b:=by
 obtain ⟨o,br,he,c⟩:=b
 simp only [bErr,bedErr] at h
 split at h
 ·cases h
 rename_i h1
 split at h
 ·cases h
 rename_i h2
 split at h
 ·cases h
 rename_i h3
 split at h
 ·cases h
 rename_i h4
 have h1:=outOf_false.1 (by simpa using h1)
 have h2:riseGo o 0 br=true:=by simpa using h2
 obtain ⟨r1,r2⟩:=rise_spec o br 0 h2
 have h4:outOf 0 20 he=false∧outOf 0 10 c=false:=by simpa using h4
 have hl:=rise_len h2 (by omega)
 exact ⟨h1.1,h1.2,r1,r2.imp fun h=>by omega,by simp only;omega,outOf_false.1 h4.1,outOf_false.1 h4.2⟩
theorem wholeL_len (o:Nat) (br:List Int):(wholeL o br).length≤o:=by unfold wholeL;rw [List.length_map];exact wholeN_le o br
theorem x59_eq {b:Bed} (hb:BedOk b) {ps:List (Int×Int)} (h1:∀ p∈ps,0≤p.1∧p.1≤20) (h2:ps.length≤1000):x59 b ps=some (b,ps,wholeL b.1.toNat b.2.1,wantL ps):=by
 rw [x59,if_pos ⟨hb.o1,hb.o10,hb.mem,hb.nodup,hb.lt,h1,h2⟩]
theorem x18_eq (b:Bed) (hb:b.2.1.length≤1000):x18 b=some (if bErr b=0 then (wholeL b.1.toNat b.2.1,0) else ([],bErr b)):=by
 rw [x18,x20_eq b hb,Option.bind_some]
 by_cases h:bErr b=0
 ·have hk:=bedOk h
  have h1:=hk.o1;have h10:=hk.o10
  have:=wholeL_len b.1.toNat b.2.1
  rw [if_neg (by simp [h]),if_pos h,x59_eq hk (by simp) (by simp),Option.bind_some]
  simp only
  rw [gd_pos ⟨by omega,by omega,by omega⟩,gd_pos (by simp),gd_pos (by simp)]
 ·rw [if_pos (by simp [h]),if_neg h]
theorem x24_l1_eq {a b:List Int} {k:Unit→Option Bool} (hl:a.length=b.length) (ha:a.length≤140737488355328):∀ (m i:Nat) (z:Int),z=i→i≤a.length→a.length-i<m→x24_l1 a b k m z=if a.drop i=b.drop i then k () else some false
 | 0,i,_,_,_,h=>absurd h (by omega)
 | m+1,i,_,rfl,hi,hm=>by
   rw [x24_l1]
   by_cases h:i<a.length
   ·have h':i<b.length:=by omega
    rw [iflt h,gdi h,gdi h',ix_nat h,ix_nat h',List.drop_eq_getElem_cons h,List.drop_eq_getElem_cons h',w_succ i (by omega),x24_l1_eq hl ha m (i+1) _ rfl (by omega) (by omega)]
    by_cases h1:a[i]=b[i]
    ·rw [if_neg (by simpa using h1)];simp only [List.cons.injEq,h1,true_and]
    ·rw [if_pos (by simpa using h1)];simp only [List.cons.injEq,h1,false_and,if_false]
   ·rw [ifge h,List.drop_eq_nil_of_le (by omega),List.drop_eq_nil_of_le (by omega)];simp
theorem x24_eq (a b:List Int) (ha:a.length≤140737488355328):x24 a b=some (decide (a=b)):=by
 unfold x24
 by_cases hl:a.length=b.length
 ·have:=x24_l1_eq (k:=fun _=>some true) hl ha FU 0 0 rfl (Nat.zero_le _) (FU_lt (by omega))
  rw [List.drop_zero,List.drop_zero] at this
  rw [if_neg (by simp [hl]),this]
  by_cases h:a=b <;> simp [h]
 ·rw [if_pos (by simp;omega)]
  have:a≠b:=fun e=>hl (by rw [e])
  simp [this]
theorem x16_eq (b:Bed) (ps:List (Int×Int)):x16 b ps=some (decide (20<b.2.1.length) || decide (20<ps.length)):=by
 unfold x16
 by_cases h:20<b.2.1.length
 ·rw [if_pos (decide_eq_true (by omega))];simp [h]
 ·rw [if_neg (by rw [decide_eq_true_eq];omega),decide_eq_false h,Bool.false_or]
  congr 1
  rw [Bool.eq_iff_iff,decide_eq_true_eq,decide_eq_true_eq];omega
end Go.Proofs.YtbnbjjgagikobaaGreat.Ab


namespace Go.Proofs.YtbnbjjgagikobaaGreat.Ab
open Go
set_option maxRecDepth 20000
set_option maxHeartbeats 4000000
section
variable {f:Int→Int} {lt lt':Int→Int→Bool} (hlt:∀ x y,lt x y=lt' (f x) (f y))
include hlt
end
def down (l:List Int):List Int:=(Sort.insertionSort (fun x y=>decide (y<x)) l.toArray 0 l.length).toList
def hrs (ps:List (Int×Int)) (heat:Int):List Int:=(ps.filter fun p=>decide (p.1=heat)).map (·.2)
def heads (n:Nat) (l:List Int):List Int:=(chunks n l).map (·.headD 0)
def hH (n:Nat) (l:List Int):Int:=(heads n (down l)).sum
theorem sum_le {α:Type} {f:α→Int} {M:Int}:∀ (l:List α),(∀ x∈l,0≤f x∧f x≤M)→0≤(l.map f).sum∧(l.map f).sum≤M*l.length
 | [],_=>by simp
 | x::l,h=>by
   have h1:=h x (by simp)
   have h2:=sum_le l fun y hy=>h y (by simp [hy])
   rw [List.map_cons,List.sum_cons,List.length_cons,Int.natCast_add,Int.mul_add]
   simp only [Int.natCast_one,Int.mul_one]
   omega
def hSum (n:Nat) (ps:List (Int×Int)) (i:Nat):Int:=((List.range i).map fun (h:Nat)=>hH n (hrs ps (h:Int))).sum
def hrsOk (ps:List (Int×Int)):Prop:=∀ p∈ps,0≤p.2∧p.2≤24
def cnt (ps:List (Int×Int)) (i:Nat):Nat:=((List.range i).map fun (h:Nat)=>(hrs ps (h:Int)).length).sum

def E_bench (x:((Int×(List Int)×Int×Int)×(List (Int×Int))×(List Int)×(List Int))):List AV:=((I x.1.1)::(.lst (x.1.2.1.map I) x.1.2.1.length .shared)::(I x.1.2.2.1)::(I x.1.2.2.2)::(.lst (x.2.1.flatMap pr) x.2.1.length .shared)::(.lst (x.2.2.1.map I) x.2.2.1.length .shared)::(x.2.2.2.map I))
noncomputable def xrc69:RC :=
 .seq (.reg false [I_ 2 [.tk 0] .box,I_ 4 [.cv .nilp] .mv,I_ 5 [.cv (.int .i64 0)] .mv]) (.seq (.seq (.reg false [I_ 8 [.sl 2] (.ld (.str 4)),I_ 9 [.cv (.func 20 [] []),.sl 8] (.call 3),I_ 6 [.tk 9] .mv]) (.seq (.reg false
 [I_ 10 [.sl 6] .mv,I_ 11 [.tv 10,.cv (.int .i64 0)] (.bin .neq)]) (.cond (.sl 11) (.seq (.reg false [I_ 12 [.tk 6] .mv,I_ 4 [.cv .nilp] .mv,I_ 5 [.tk 12] .mv]) .ret) .skip))) (.seq (.seq (.reg false [I_ 13 [.sl 1] .mv,I_
 14 [.cv (.func 22 [] []),.sl 13] (.call 3),I_ 7 [.tk 14] .mv]) (.seq (.reg false [I_ 15 [.sl 7] .mv,I_ 16 [.tv 15,.cv (.int .i64 0)] (.bin .neq)]) (.cond (.sl 16) (.seq (.reg false [I_ 17 [.tk 7] .mv,I_ 4 [.cv .nilp] .mv,
 I_ 5 [.tk 17] .mv]) .ret) .skip))) (.seq (.reg false [I_ 18 [.tv 2] (.ld (.str 4)),I_ 19 [.tk 1] .mv,I_ 20 [.cv (.func 59 [] []),.sl 18,.sl 19] (.call 3),I_ 4 [.tk 20] .mv,I_ 5 [.cv (.int .i64 0)] .mv]) .ret)))
theorem lxx69:linkF Tryz.prog ann69 69=some (xrc69,21,[.tmp 4,.tmp 5]):=by kernel_rfl
def x69 (b:(Int×(List Int)×Int×Int)) (panels:(List (Int×Int))):Option ((Option ((Int×(List Int)×Int×Int)×(List (Int×Int))×(List Int)×(List Int)))×Int) :=
 (x20 b).bind fun r1 =>
 if (decide (r1≠(0:Int)))=true then
  some (none,r1)
 else
  (x22 panels).bind fun r2 =>
  if (decide (r2≠(0:Int)))=true then
   some (none,r2)
  else
   (x59 b panels).bind fun r3 =>
   some ((some r3),(0:Int))
theorem x69_ok {b:(Int×(List Int)×Int×Int)} {panels:(List (Int×Int))} {v:((Option ((Int×(List Int)×Int×Int)×(List (Int×Int))×(List Int)×(List Int)))×Int)} (h:x69 b panels=some v):PO 69 [(.agg [(I b.1),(.lst (b.2.1.map I) b.2.1.length .shared),(I b.2.2.1),(I b.2.2.2)]),(.lst (panels.flatMap pr) panels.length .shared)] (.tuple [(optP E_bench v.1),(I v.2)]):=by
 refine fn_pureW hmix lxx69 rfl (pu_tup (allc (pu_opt (fun _=>(allc rfl (allc (pu_map (fun _=>rfl) _ _ _) (allc rfl (allc rfl (allc (pu_flat (fun _=>(allc rfl (allc rfl rfl))) _ _ _) (allc (pu_map (fun _=>rfl) _ _ _) (pu_run (fun _=>rfl) _)))))))) _) (allc rfl rfl))) fun Q hQ=>?_
 have hR:∀ T H,RetW [.tmp 4,.tmp 5] (.tuple [(optP E_bench v.1),(I v.2)]) .ret T H→Q .ret T H:=fun T H hh=>hQ _ T H hh
 unfold x69 at h
 unfold xrc69
 skip
 conv=>whnf
 obtain ⟨r1,hb1,h⟩:=bd_some h
 refine ⟨(allc (pu_agg (allc rfl (allc (pu_map (fun _=>rfl) _ _ _) (allc rfl (allc rfl rfl))))) rfl),_,x20_ok hb1,?_⟩
 conv=>whnf
 rcases bt (decide (r1≠(0:Int))) with hb2 | hb2
 ·rw [hb2]
  conv=>whnf
  replace h:=it_t hb2 h
  obtain rfl:=Option.some.inj h
  exact hR _ _ ⟨.inr rfl,_,rfl,_,frz_pure (pu_tup (allc rfl (allc rfl rfl))),rfl⟩
 ·rw [hb2]
  conv=>whnf
  replace h:=it_f hb2 h
  obtain ⟨r2,hb3,h⟩:=bd_some h
  refine ⟨(allc (pu_flat (fun _=>(allc rfl (allc rfl rfl))) _ _ _) rfl),_,x22_ok hb3,?_⟩
  conv=>whnf
  rcases bt (decide (r2≠(0:Int))) with hb4 | hb4
  ·rw [hb4]
   conv=>whnf
   replace h:=it_t hb4 h
   obtain rfl:=Option.some.inj h
   exact hR _ _ ⟨.inr rfl,_,rfl,_,frz_pure (pu_tup (allc rfl (allc rfl rfl))),rfl⟩
  ·rw [hb4]
   conv=>whnf
   replace h:=it_f hb4 h
   obtain ⟨r3,hb5,h⟩:=bd_some h
   refine ⟨(allc (pu_agg (allc rfl (allc (pu_map (fun _=>rfl) _ _ _) (allc rfl (allc rfl rfl))))) (allc (pu_flat (fun _=>(allc rfl (allc rfl rfl))) _ _ _) rfl)),_,x59_ok hb5,?_⟩
   conv=>whnf
   obtain rfl:=Option.some.inj h
   exact hR _ _ ⟨.inr rfl,_,rfl,_,frz_pure (pu_tup (allc (pu_lptr (allc rfl (allc (pu_map (fun _=>rfl) _ _ _) (allc rfl (allc rfl (allc (pu_flat (fun _=>(allc rfl (allc rfl rfl))) _ _ _) (allc (pu_map (fun _=>rfl) _ _ _) (pu_run (fun _=>rfl) _)))))))) (allc rfl rfl))),rfl⟩

def x75 (s:(List Int)) (n:Int):Option Unit :=
 if (decide (n<(1:Int)))=true then
  none
 else
  some ()

def x70_r1 (x:((Int×(List Int)×Int×Int)×(List (Int×Int))×(List Int)×(List Int))) (t1:Int) (e1:(List Int)):Option (Int) :=
 gd (0≤(0:Int)∧(0:Int)<(e1.length:Int)) <|
 gd (0≤(ix e1 (0:Int))∧(ix e1 (0:Int))<(x.2.1.length:Int)) <|
 some (w (t1+(ix x.2.1 (ix e1 (0:Int))).2))
def x70_l1 (x:((Int×(List Int)×Int×Int)×(List (Int×Int))×(List Int)×(List Int))) (whole:Int) (kl1_0:Int→Option Int):Nat→Int→Int→Option Int
 | 0,_,_=>none
 | m+1,s1,s2 =>
   if (decide (s1<(21:Int)))=true then
    (x76 x s1).bind fun r1 =>
    (x75 r1 whole).bind fun r2 =>
    (s98 r1 whole).bind fun l1 =>
    (foldO (x70_r1 x) l1 s2).bind fun r3 =>
    x70_l1 x whole kl1_0 m (w (s1+(1:Int))) r3
   else
    kl1_0 s2
def x70 (x:((Int×(List Int)×Int×Int)×(List (Int×Int))×(List Int)×(List Int))) (whole:Int):Option Int :=
 x70_l1 x whole (fun z1 =>
   some z1) FU (0:Int) (0:Int)

def x33 (b:(Int×(List Int)×Int×Int)) (panels:(List (Int×Int))):Option (Int×Int) :=
 (x69 b panels).bind fun r1 =>
 match r1 with
 | (none,q1) =>
   if (decide (q1≠(0:Int)))=true then
    some ((0:Int),q1)
   else
    none
 | (some p1,q1) =>
   if (decide (q1≠(0:Int)))=true then
    some ((0:Int),q1)
   else
    (x70 p1 (p1.2.2.1.length:Int)).bind fun r2 =>
    some (r2,(0:Int))

noncomputable def xrc66:RC :=
 .seq (.reg false [I_ 2 [.tk 0] .box,I_ 4 [.cv (.int .i64 0)] .mv]) (.seq (.seq (.reg false [I_ 5 [.sl 2] (.ld (.str 4)),I_ 6 [.cv (.func 21 [] []),.sl 5] (.call 3),I_ 7 [.tv 6,.cv (.int .i64 0)] (.bin .neq)]) (.cond (.sl 7)
 (.seq (.reg false [I_ 8 [.tv 2] (.ld (.str 4)),I_ 9 [.cv (.func 21 [] []),.sl 8] (.call 3),I_ 4 [.tk 9] .mv]) .ret) .skip)) (.seq (.reg false [I_ 10 [.tk 1] .mv,I_ 11 [.cv (.func 23 [] []),.sl 10] (.call 3),I_ 4 [.tk 11]
 .mv]) .ret))
theorem lxx66:linkF Tryz.prog ann66 66=some (xrc66,12,[.tmp 4]):=by kernel_rfl
def x66 (b:(Int×(List Int)×Int×Int)) (panels:(List (Int×Int))):Option Int :=
 (x21 b).bind fun r1 =>
 if (decide (r1≠(0:Int)))=true then
  (x21 b).bind fun r2 =>
  some r2
 else
  (x23 panels).bind fun r3 =>
  some r3
theorem x66_ok {b:(Int×(List Int)×Int×Int)} {panels:(List (Int×Int))} {v:Int} (h:x66 b panels=some v):PO 66 [(.agg [(I b.1),(.lst (b.2.1.map I) b.2.1.length .shared),(I b.2.2.1),(I b.2.2.2)]),(.lst (panels.flatMap pr) panels.length .shared)] (I v):=by
 refine fn_pureW hmix lxx66 rfl rfl fun Q hQ=>?_
 have hR:∀ T H,RetW [.tmp 4] (I v) .ret T H→Q .ret T H:=fun T H hh=>hQ _ T H hh
 unfold x66 at h
 unfold xrc66
 skip
 conv=>whnf
 obtain ⟨r1,hb1,h⟩:=bd_some h
 refine ⟨(allc (pu_agg (allc rfl (allc (pu_map (fun _=>rfl) _ _ _) (allc rfl (allc rfl rfl))))) rfl),_,x21_ok hb1,?_⟩
 conv=>whnf
 rcases bt (decide (r1≠(0:Int))) with hb2 | hb2
 ·rw [hb2]
  conv=>whnf
  replace h:=it_t hb2 h
  obtain ⟨r2,hb3,h⟩:=bd_some h
  refine ⟨(allc (pu_agg (allc rfl (allc (pu_map (fun _=>rfl) _ _ _) (allc rfl (allc rfl rfl))))) rfl),_,x21_ok hb3,?_⟩
  conv=>whnf
  obtain rfl:=Option.some.inj h
  exact hR _ _ ⟨.inr rfl,_,rfl,_,frz_pure rfl,rfl⟩
 ·rw [hb2]
  conv=>whnf
  replace h:=it_f hb2 h
  obtain ⟨r3,hb4,h⟩:=bd_some h
  refine ⟨(allc (pu_flat (fun _=>(allc rfl (allc rfl rfl))) _ _ _) rfl),_,x23_ok hb4,?_⟩
  conv=>whnf
  obtain rfl:=Option.some.inj h
  exact hR _ _ ⟨.inr rfl,_,rfl,_,frz_pure rfl,rfl⟩

noncomputable def xrc45:RC :=
 .seq (.reg false [I_ 2 [.tk 0] .box,I_ 4 [.cv (.bool false)] .mv]) (.seq (.reg false [I_ 5 [.sl 2] (.ld (.str 4)),I_ 6 [.sl 1] .mv,I_ 7 [.cv (.func 16 [] []),.sl 5,.sl 6] (.call 3),I_ 8 [.tv 7] (.un .not),I_ 9 [.tk 8] .mv,
 ⟨some 10,[.tv 2],some (9,true),none,.ld (.str 4)⟩,⟨some 11,[.tk 1],some (9,true),none,.mv⟩,⟨some 12,[.cv (.func 66 [] []),.sl 10,.sl 11],some (9,true),none,.call 3⟩,⟨some 13,[.tv 12,.cv (.int .i64 0)],
 some (9,true),none,.bin .eql⟩,I_ 14 [.tv 9,.tv 13,.cv (.bool false)] .pick,I_ 4 [.tk 14] .mv]) .ret)
theorem lxx45:linkF Tryz.prog ann45 45=some (xrc45,15,[.tmp 4]):=by kernel_rfl
def x45 (b:(Int×(List Int)×Int×Int)) (panels:(List (Int×Int))):Option Bool :=
 (x16 b panels).bind fun r1 =>
 if r1=true then
  some false
 else
  (x66 b panels).bind fun r2 =>
  some (decide (r2=(0:Int)))
theorem x45_ok {b:(Int×(List Int)×Int×Int)} {panels:(List (Int×Int))} {v:Bool} (h:x45 b panels=some v):PO 45 [(.agg [(I b.1),(.lst (b.2.1.map I) b.2.1.length .shared),(I b.2.2.1),(I b.2.2.2)]),(.lst (panels.flatMap pr) panels.length .shared)] (B v):=by
 refine fn_pureW hmix lxx45 rfl rfl fun Q hQ=>?_
 have hR:∀ T H,RetW [.tmp 4] (B v) .ret T H→Q .ret T H:=fun T H hh=>hQ _ T H hh
 unfold x45 at h
 unfold xrc45
 skip
 conv=>whnf
 obtain ⟨r1,hb1,h⟩:=bd_some h
 refine ⟨(allc (pu_agg (allc rfl (allc (pu_map (fun _=>rfl) _ _ _) (allc rfl (allc rfl rfl))))) (allc (pu_flat (fun _=>(allc rfl (allc rfl rfl))) _ _ _) rfl)),_,x16_ok hb1,?_⟩
 conv=>whnf
 cases r1
 ·conv=>whnf
  replace h:=it_f rfl h
  obtain ⟨r2,hb2,h⟩:=bd_some h
  refine ⟨(allc (pu_agg (allc rfl (allc (pu_map (fun _=>rfl) _ _ _) (allc rfl (allc rfl rfl))))) (allc (pu_flat (fun _=>(allc rfl (allc rfl rfl))) _ _ _) rfl)),_,x66_ok hb2,?_⟩
  conv=>whnf
  obtain rfl:=Option.some.inj h
  exact hR _ _ ⟨.inr rfl,_,rfl,_,frz_pure rfl,rfl⟩
 ·conv=>whnf
  replace h:=it_t rfl h
  obtain rfl:=Option.some.inj h
  exact hR _ _ ⟨.inr rfl,_,rfl,_,frz_pure rfl,rfl⟩

end Go.Proofs.YtbnbjjgagikobaaGreat.Ab


namespace Go.Proofs.YtbnbjjgagikobaaGreat.Ab
open Go
set_option maxRecDepth 20000
set_option maxHeartbeats 4000000

theorem pig:∀ (l br:List Int),l.Nodup→(∀ x∈l,x∈br)→l.length≤br.length
 | [],_,_,_=>Nat.zero_le _
 | x::l,br,hn,h=>by
   have hx:=h x (by simp)
   have hn:=List.nodup_cons.1 hn
   have h1:=pig l (br.erase x) hn.2 fun y hy=>(List.mem_erase_of_ne (fun e=>hn.1 (by rw [←e];exact hy))).2 (h y (by simp [hy]))
   rw [List.length_erase_of_mem hx] at h1
   have:=List.length_pos_of_mem hx
   simp only [List.length_cons];omega
theorem nodup_cast (o:Nat):((List.range o).map fun (i:Nat)=>(i:Int)).Nodup:=by
 rw [List.nodup_iff_pairwise_ne,List.pairwise_map]
 exact List.nodup_range.imp fun h e=>h (by omega)
theorem whole_pos {b:Bed} (hb:BedOk b):0<(wholeL b.1.toNat b.2.1).length:=by
 rcases Nat.eq_zero_or_pos (wholeL b.1.toNat b.2.1).length with h0 | h0
 ·exfalso
  have h1:∀ x∈(List.range b.1.toNat).map (fun (i:Nat)=>(i:Int)),x∈b.2.1:=by
   intro x hx
   obtain ⟨i,hi,rfl⟩:=List.mem_map.1 hx
   rcases Classical.em ((i:Int)∈b.2.1) with h | h
   ·exact h
   ·exfalso
    have:(i:Int)∈wholeL b.1.toNat b.2.1:=by
     unfold wholeL wholeN
     exact List.mem_map.2 ⟨i,List.mem_filter.2 ⟨hi,by simp [h]⟩,rfl⟩
    rw [List.length_eq_zero_iff.1 h0] at this
    cases this
  have h2:=pig _ _ (nodup_cast b.1.toNat) h1
  have h3:=hb.lt
  have h4:=hb.o1
  simp at h2
  omega
 ·exact h0
structure PsOk (ps:List (Int×Int)):Prop where
 len:ps.length≤12
 heat:∀ p∈ps,0≤p.1∧p.1≤20
 hour:∀ p∈ps,1≤p.2∧p.2≤24
theorem badP_false {p:Int×Int}:badP p=false↔(0≤p.1∧p.1≤20)∧(1≤p.2∧p.2≤24):=by
 unfold badP;rw [Bool.or_eq_false_iff,outOf_false,outOf_false]
theorem pErr_iff (ps:List (Int×Int)):pErr ps=0↔PsOk ps:=by
 unfold pErr
 constructor
 ·intro h
  split at h
  ·cases h
  ·split at h
   ·cases h
   ·rename_i h1 h2
    rw [Bool.not_eq_true,List.any_eq_false] at h2
    exact ⟨by omega,fun p hp=>(badP_false.1 (by simpa using h2 p hp)).1,fun p hp=>(badP_false.1 (by simpa using h2 p hp)).2⟩
 ·intro h
  rw [if_neg (by have:=h.len;omega),if_neg]
  rw [Bool.not_eq_true,List.any_eq_false]
  exact fun p hp=>by simp [badP_false.2 ⟨h.heat p hp,h.hour p hp⟩]
theorem PsOk.hrs {ps:List (Int×Int)} (h:PsOk ps):hrsOk ps:=fun p hp=>by have:=h.hour p hp;omega
theorem PsOk.sub {ps:List (Int×Int)} (h:PsOk ps) (f:Int×Int→Bool):PsOk (ps.filter f) :=
 ⟨Nat.le_trans (List.length_filter_le _ _) h.len,fun p hp=>h.heat p (List.mem_filter.1 hp).1,fun p hp=>h.hour p (List.mem_filter.1 hp).1⟩
def wn (b:Bed):Nat:=(wholeL b.1.toNat b.2.1).length
theorem wn_pos {b:Bed} (hb:BedOk b):1≤wn b∧wn b≤10:=⟨whole_pos hb,Nat.le_trans (wholeL_len _ _) (by have:=hb.o10;omega)⟩
theorem x69_eq {b:Bed} (hb:bErr b=0) (hl:b.2.1.length≤20) {ps:List (Int×Int)} (hp:PsOk ps):x69 b ps=some (some (b,ps,wholeL b.1.toNat b.2.1,wantL ps),0):=by
 rw [x69,x20_eq b (by omega),Option.bind_some,hb,if_neg (by decide),x22_eq,Option.bind_some,(pErr_iff ps).2 hp,if_neg (by decide),x59_eq (bedOk hb) hp.heat (by have:=hp.len;omega),Option.bind_some]
theorem x66_eq {b:Bed} (hl:b.2.1.length≤20) (ps:List (Int×Int)):x66 b ps=some (if bErr b=0 then pErr ps else bErr b):=by
 rw [x66,x21_eq b (by omega),Option.bind_some]
 by_cases h:bErr b=0
 ·rw [if_pos h,h,if_neg (by decide),x23_eq];rfl
 ·rw [if_neg h,if_pos (decide_eq_true h)];rfl
def FineOk (b:Bed) (ps:List (Int×Int)):Prop:=b.2.1.length≤20∧bErr b=0∧PsOk ps
theorem x45_eq (b:Bed) (ps:List (Int×Int)):∃ r,x45 b ps=some r∧(r=true→FineOk b ps):=by
 rw [x45,x16_eq,Option.bind_some]
 by_cases h:20<b.2.1.length∨20<ps.length
 ·rw [if_pos (by simpa using h)];exact ⟨_,rfl,fun h=>by cases h⟩
 ·rw [if_neg (by simpa using h),x66_eq (by omega),Option.bind_some]
  refine ⟨_,rfl,fun h2=>?_⟩
  have h3:=of_decide_eq_true h2
  by_cases hb:bErr b=0
  ·rw [if_pos hb] at h3;exact ⟨by omega,hb,(pErr_iff ps).1 h3⟩
  ·rw [if_neg hb] at h3;exact absurd h3 hb

end Go.Proofs.YtbnbjjgagikobaaGreat.Ab


namespace Go.Proofs.YtbnbjjgagikobaaGreat.Ab
open Go
set_option maxRecDepth 20000
set_option maxHeartbeats 4000000

end Go.Proofs.YtbnbjjgagikobaaGreat.Ab


namespace Go.Proofs.YtbnbjjgagikobaaGreat.Ab
open Go
set_option maxRecDepth 20000
set_option maxHeartbeats 4000000
def dn (l:List Int) (i:Nat):Int:=(down l).getD i 0

end Go.Proofs.YtbnbjjgagikobaaGreat.Ab


namespace Go.Proofs.YtbnbjjgagikobaaGreat.Ab
open Go
set_option maxRecDepth 20000
set_option maxHeartbeats 4000000
end Go.Proofs.YtbnbjjgagikobaaGreat.Ab


namespace Go.Proofs.YtbnbjjgagikobaaGreat.Ab
open Go
end Go.Proofs.YtbnbjjgagikobaaGreat.Ab


namespace Go.Proofs.YtbnbjjgagikobaaGreat.Ab
open Go
set_option maxRecDepth 20000
set_option maxHeartbeats 4000000

def ceil (n c:Nat):Nat:=(c+n-1) / n
def cP (ps:List (Int×Int)) (h t:Int):Nat:=ps.countP fun p=>decide (p.1=h) && decide (t≤p.2)

end Go.Proofs.YtbnbjjgagikobaaGreat.Ab


namespace Go.Proofs.YtbnbjjgagikobaaGreat.Ab
open Go
set_option maxRecDepth 20000
set_option maxHeartbeats 4000000
def x71_l3 (panels:(List (Int×Int))) (s2:Int) (s4:Int) (kl3_0:Int→Option Int):Nat→Int→Int→Option Int
 | 0,_,_=>none
 | m+1,s5,s6 =>
   if (decide (s6<(panels.length:Int)))=true then
    gd (0≤s6∧s6<(panels.length:Int)) <|
    if (decide ((ix panels s6).1=s2))=true then
     gd (0≤s6∧s6<(panels.length:Int)) <|
     if (decide (s4≤(ix panels s6).2))=true then
      x71_l3 panels s2 s4 kl3_0 m (w (s5+(1:Int))) (w (s6+(1:Int)))
     else
      x71_l3 panels s2 s4 kl3_0 m s5 (w (s6+(1:Int)))
    else
     x71_l3 panels s2 s4 kl3_0 m s5 (w (s6+(1:Int)))
   else
    kl3_0 s5
def x71_l2 (panels:(List (Int×Int))) (whole:Int) (s2:Int) (kl2_0:Int→Option Int):Nat→Int→Int→Option Int
 | 0,_,_=>none
 | m+1,s3,s4 =>
   if (decide (s4≤(24:Int)))=true then
    x71_l3 panels s2 s4 (fun z1 =>
      gd (whole≠0) <|
      x71_l2 panels whole s2 kl2_0 m (w (s3+(w ((w ((w (z1+whole))-(1:Int))).tdiv whole)))) (w (s4+(1:Int)))) FU (0:Int) (0:Int)
   else
    kl2_0 s3
def x71_l1 (panels:(List (Int×Int))) (whole:Int) (kl1_0:Int→Option Int):Nat→Int→Int→Option Int
 | 0,_,_=>none
 | m+1,s1,s2 =>
   if (decide (s2≤(20:Int)))=true then
    x71_l2 panels whole s2 (fun z2 =>
      x71_l1 panels whole kl1_0 m z2 (w (s2+(1:Int)))) FU s1 (1:Int)
   else
    kl1_0 s1
def x71 (panels:(List (Int×Int))) (whole:Int):Option Int :=
 x71_l1 panels whole (fun z3 =>
   some z3) FU (0:Int) (0:Int)

def x34 (b:(Int×(List Int)×Int×Int)) (panels:(List (Int×Int))):Option (Int×Int) :=
 (x66 b panels).bind fun r1 =>
 if (decide (r1≠(0:Int)))=true then
  (x66 b panels).bind fun r2 =>
  some ((0:Int),r2)
 else
  (x51 b).bind fun r3 =>
  (x71 panels (r3.length:Int)).bind fun r4 =>
  some (r4,(0:Int))

def x72_l1 (r1:(List Int)) (kl1_0:Int→Option Int):Nat→Int→Int→Int→Option Int
 | 0,_,_,_=>none
 | m+1,s1,s2,s3 =>
   if (decide (s3<(r1.length:Int)))=true then
    gd (0≤s3∧s3<(r1.length:Int)) <|
    (x93 s1 (ix r1 s3)).bind fun r2 =>
    x72_l1 r1 kl1_0 m (ix r1 s3) (w (s2+r2)) (w (s3+(1:Int)))
   else
    kl1_0 s2
def x72 (x:((Int×(List Int)×Int×Int)×(List (Int×Int))×(List Int)×(List Int))):Option Int :=
 (x74 x).bind fun r1 =>
 x72_l1 r1 (fun z1 =>
   some z1) FU x.1.2.2.1 (0:Int) (0:Int)

def x35 (b:(Int×(List Int)×Int×Int)) (panels:(List (Int×Int))):Option (Int×Int) :=
 (x69 b panels).bind fun r1 =>
 match r1 with
 | (none,q1) =>
   if (decide (q1≠(0:Int)))=true then
    some ((0:Int),q1)
   else
    none
 | (some p1,q1) =>
   if (decide (q1≠(0:Int)))=true then
    some ((0:Int),q1)
   else
    (x72 p1).bind fun r2 =>
    some (r2,(0:Int))

def x73_l1 (panels:(List (Int×Int))) (kl1_0:Int→Int→Option Int):Nat→Int→Int→Int→Option Int
 | 0,_,_,_=>none
 | m+1,s1,s2,s3 =>
   if (decide (s3<(panels.length:Int)))=true then
    gd (0≤s3∧s3<(panels.length:Int)) <|
    gd (0≤s3∧s3<(panels.length:Int)) <|
    x73_l1 panels kl1_0 m (min s1 ((ix panels s3).1)) (max s2 ((ix panels s3).1)) (w (s3+(1:Int)))
   else
    kl1_0 s1 s2
def x73 (b:(Int×(List Int)×Int×Int)) (panels:(List (Int×Int))):Option Int :=
 x73_l1 panels (fun z1 z2 =>
   some (w ((w (z2-z1))+(min (w (b.2.2.1-z1)) (w (z2-b.2.2.1)))))) FU b.2.2.1 b.2.2.1 (0:Int)

def x36 (b:(Int×(List Int)×Int×Int)) (panels:(List (Int×Int))):Option (Int×Int) :=
 (x66 b panels).bind fun r1 =>
 if (decide (r1≠(0:Int)))=true then
  (x66 b panels).bind fun r2 =>
  some ((0:Int),r2)
 else
  (x73 b panels).bind fun r3 =>
  some (r3,(0:Int))

theorem take_snoc {α:Type} {l:List α} {i:Nat} (h:i<l.length):l.take (i+1)=l.take i++[l[i]]:=by
 rw [List.take_add_one,List.getElem?_eq_getElem h,Option.toList_some]
def hF (n:Nat) (ps:List (Int×Int)) (he:Int) (t:Nat):Int:=(ceil n (cP ps he ((t:Int)+1)):Int)
def eB (b:Bed) (ps:List (Int×Int)):Int:=if bErr b=0 then pErr ps else bErr b
theorem eB_ok {b:Bed} {ps:List (Int×Int)} (h:eB b ps=0):bErr b=0∧PsOk ps:=by
 unfold eB at h
 by_cases hb:bErr b=0
 ·rw [if_pos hb] at h;exact ⟨hb,(pErr_iff ps).1 h⟩
 ·rw [if_neg hb] at h;exact absurd h hb
theorem eB_of {b:Bed} {ps:List (Int×Int)} (hb:bErr b=0) (hp:PsOk ps):eB b ps=0:=by
 unfold eB;rw [if_pos hb];exact (pErr_iff ps).2 hp
theorem x69_err {b:Bed} (hl:b.2.1.length≤1000) {ps:List (Int×Int)} (he:eB b ps≠0):x69 b ps=some (none,eB b ps):=by
 rw [x69,x20_eq b hl,Option.bind_some]
 unfold eB at he ⊢
 by_cases hb:bErr b=0
 ·rw [if_pos hb] at he ⊢
  rw [if_neg (by simp [hb]),x22_eq,Option.bind_some,if_pos (decide_eq_true he)]
 ·rw [if_neg hb] at he ⊢
  rw [if_pos (decide_eq_true hb)]
def minL (s:Int) (l:List Int):Int:=l.foldl min s
def maxL (s:Int) (l:List Int):Int:=l.foldl max s
theorem minL_spec:∀ (l:List Int) (s:Int),minL s l≤s∧(∀ x∈l,minL s l≤x)∧(minL s l=s∨minL s l∈l)
 | [],s=>⟨Int.le_refl _,by simp,.inl rfl⟩
 | a::r,s=>by
   have e:minL s (a::r)=minL (min s a) r:=rfl
   obtain ⟨h1,h2,h3⟩:=minL_spec r (min s a)
   rw [e]
   refine ⟨by omega,fun x hx=>?_,?_⟩
   ·rcases List.mem_cons.1 hx with rfl | hx
    ·omega
    ·exact h2 x hx
   ·rcases h3 with h3 | h3
    ·by_cases h:s≤a
     ·exact .inl (by omega)
     ·exact .inr (by rw [h3,show min s a=a by omega];simp)
    ·exact .inr (by simp [h3])
theorem maxL_spec:∀ (l:List Int) (s:Int),s≤maxL s l∧(∀ x∈l,x≤maxL s l)∧(maxL s l=s∨maxL s l∈l)
 | [],s=>⟨Int.le_refl _,by simp,.inl rfl⟩
 | a::r,s=>by
   have e:maxL s (a::r)=maxL (max s a) r:=rfl
   obtain ⟨h1,h2,h3⟩:=maxL_spec r (max s a)
   rw [e]
   refine ⟨by omega,fun x hx=>?_,?_⟩
   ·rcases List.mem_cons.1 hx with rfl | hx
    ·omega
    ·exact h2 x hx
   ·rcases h3 with h3 | h3
    ·by_cases h:a≤s
     ·exact .inl (by omega)
     ·exact .inr (by rw [h3,show max s a=a by omega];simp)
    ·exact .inr (by simp [h3])
theorem minL_sub {l l':List Int} (h:∀ x∈l',x∈l) (s:Int):minL s l≤minL s l':=by
 have h1:=minL_spec l s
 rcases (minL_spec l' s).2.2 with h2 | h2
 ·omega
 ·exact h1.2.1 _ (h _ h2)
theorem maxL_sub {l l':List Int} (h:∀ x∈l',x∈l) (s:Int):maxL s l'≤maxL s l:=by
 have h1:=maxL_spec l s
 rcases (maxL_spec l' s).2.2 with h2 | h2
 ·omega
 ·exact h1.2.1 _ (h _ h2)
theorem minL_set {l l':List Int} (h:∀ x,x∈l↔x∈l') (s:Int):minL s l=minL s l' :=
 Int.le_antisymm (minL_sub (fun x hx=>(h x).2 hx) s) (minL_sub (fun x hx=>(h x).1 hx) s)
theorem maxL_set {l l':List Int} (h:∀ x,x∈l↔x∈l') (s:Int):maxL s l=maxL s l' :=
 Int.le_antisymm (maxL_sub (fun x hx=>(h x).1 hx) s) (maxL_sub (fun x hx=>(h x).2 hx) s)
theorem minL_min:∀ (r:List Int) (s a:Int),minL (min s a) r=min s (minL a r)
 | [],_,_=>rfl
 | b::r,s,a=>by
   show minL (min (min s a) b) r=min s (minL (min a b) r)
   rw [show min (min s a) b=min s (min a b) by omega,minL_min r]
theorem maxL_max:∀ (r:List Int) (s a:Int),maxL (max s a) r=max s (maxL a r)
 | [],_,_=>rfl
 | b::r,s,a=>by
   show maxL (max (max s a) b) r=max s (maxL (max a b) r)
   rw [show max (max s a) b=max s (max a b) by omega,maxL_max r]
def walk:Int→List Int→Int
 | _,[]=>0
 | s,a::r=>max (s-a) (a-s)+walk a r
def wayM (h:Int) (l:List Int):Int:=(maxL h l-minL h l)+min (h-minL h l) (maxL h l-h)
theorem wayM_set {l l':List Int} (h:∀ x,x∈l↔x∈l') (s:Int):wayM s l=wayM s l':=by unfold wayM;rw [minL_set h,maxL_set h]
theorem walk_ge:∀ (l:List Int) (s:Int),wayM s l≤walk s l
 | [],s=>by unfold wayM walk minL maxL;simp
 | a::r,s=>by
   have ih:=walk_ge r a
   have e1:minL s (a::r)=min s (minL a r):=minL_min r s a
   have e2:maxL s (a::r)=max s (maxL a r):=maxL_max r s a
   have h1:=(minL_spec r a).1
   have h2:=(maxL_spec r a).1
   unfold wayM at ih ⊢
   rw [e1,e2,walk]
   omega
theorem farD_eq {a b:Int} (ha:0≤a∧a≤1000) (hb:0≤b∧b≤1000):farD a b=max (a-b) (b-a):=by
 unfold farD;rw [w_id (by omega),w_id (by omega)]
theorem walk_nn:∀ (l:List Int) (s:Int),0≤walk s l
 | [],_=>Int.le_refl _
 | a::r,s=>by rw [walk];have:=walk_nn r a;omega

noncomputable def xrc89:RC :=
 .seq (.reg false [I_ 4 [.cv (.bool false)] .mv]) (.seq (.reg true [I_ 5 [.sl 1] (.ld .one),I_ 6 [.tk 0] .mv,I_ 7 [.tv 5,.tv 6] (.ia 2),I_ 8 [.tv 7] (.fa 0),I_ 9 [.tv 8] (.ld .one),I_ 10 [.sl 1] (.ld .one),I_ 11 [.tv 2]
 (.ld .one),I_ 12 [.tv 11,.cv (.int .i64 0)] (.ia 1),I_ 13 [.tv 12] (.ld .one),I_ 14 [.tv 10,.tv 13] (.ia 2),I_ 15 [.tv 14] (.fa 0),I_ 16 [.tv 15] (.ld .one),I_ 17 [.tv 9,.tv 16] (.bin .neq),I_ 4 [.tk 17] .mv]) .ret)
theorem lxx89:linkF Tryz.prog ann89 89=some (xrc89,18,[.tmp 4]):=by kernel_rfl
def x89 (i:Int) (c0:(List (Int×Int))) (c1:(List Int)):Option Bool :=
 gd (0≤i∧i<(c0.length:Int)) <|
 gd (0≤(0:Int)∧(0:Int)<(c1.length:Int)) <|
 gd (0≤(ix c1 (0:Int))∧(ix c1 (0:Int))<(c0.length:Int)) <|
 some (decide ((ix c0 i).1≠(ix c0 (ix c1 (0:Int))).1))
theorem x89_ok {i:Int} {c0:(List (Int×Int))} {c1:(List Int)} {v:Bool} (h:x89 i c0 c1=some v):PO 89 [(I i),(.lptr [(.lst (c0.flatMap pr) c0.length .shared)]),(.lptr [(.lst (c1.map I) c1.length .shared)])] (B v):=by
 refine fn_pureW hmix lxx89 rfl rfl fun Q hQ=>?_
 have hR:∀ T H,RetW [.tmp 4] (B v) .ret T H→Q .ret T H:=fun T H hh=>hQ _ T H hh
 unfold x89 at h
 unfold xrc89
 skip
 conv=>whnf
 obtain ⟨hb1,h⟩:=gd_some h
 refine ⟨hb1,?_⟩
 rw [dropS pr 2 pr_len c0 i hb1]
 conv=>whnf
 obtain ⟨hb2,h⟩:=gd_some h
 refine ⟨hb2,?_⟩
 rw [drop1 I c1 (0:Int) hb2]
 conv=>whnf
 obtain ⟨hb3,h⟩:=gd_some h
 refine ⟨hb3,?_⟩
 rw [dropS pr 2 pr_len c0 (ix c1 (0:Int)) hb3]
 conv=>whnf
 obtain rfl:=Option.some.inj h
 exact hR _ _ ⟨.inr rfl,_,rfl,_,frz_pure rfl,rfl⟩

noncomputable def xrc90:RC :=
 .seq (.reg false [I_ 3 [.cv (.bool false)] .mv]) (.seq (.reg false [I_ 4 [.tv 1] (.ld .one),I_ 5 [.tk 0] .mv,I_ 6 [.tv 4,.tv 5] (.ia 1),I_ 7 [.tv 6] (.ld .one),I_ 8 [.tv 7,.cv (.int .i64 0)] (.bin .gtr),I_ 3 [.tk 8] .mv])
 .ret)
theorem lxx90:linkF Tryz.prog ann90 90=some (xrc90,9,[.tmp 3]):=by kernel_rfl
def x90 (i:Int) (c0:(List Int)):Option Bool :=
 gd (0≤i∧i<(c0.length:Int)) <|
 some (decide ((0:Int)<(ix c0 i)))
theorem x90_ok {i:Int} {c0:(List Int)} {v:Bool} (h:x90 i c0=some v):PO 90 [(I i),(.lptr [(.lst (c0.map I) c0.length .shared)])] (B v):=by
 refine fn_pureW hmix lxx90 rfl rfl fun Q hQ=>?_
 have hR:∀ T H,RetW [.tmp 3] (B v) .ret T H→Q .ret T H:=fun T H hh=>hQ _ T H hh
 unfold x90 at h
 unfold xrc90
 skip
 conv=>whnf
 obtain ⟨hb1,h⟩:=gd_some h
 refine ⟨hb1,?_⟩
 rw [drop1 I c0 i hb1]
 conv=>whnf
 obtain rfl:=Option.some.inj h
 exact hR _ _ ⟨.inr rfl,_,rfl,_,frz_pure rfl,rfl⟩

noncomputable def xrc91_1:RC :=
 .loop (some [o_,i_,o_,o_,o_,i_,o_,o_,o_,o_,o_,o_,i_,i_,i_,o_,o_,o_,o_,o_,o_,o_,o_,o_,o_]) (.seq (.reg false [I_ 15 [.sl 14,.sl 13]
 (.bin .lss)]) (.seq (.cond (.sl 15) .skip (.exit 0)) (.seq (.block 1 (.seq (.reg false [I_ 16 [.sl 12,.sl 14] (.ia 1),I_ 17 [.tv 16] (.ld .one),I_ 7 [.tk 17] .mv]) (.seq (.reg false [I_ 18 [.sl 1] .mv,I_ 19 [.sl 7] .mv,I_
 20 [.sl 5] .mv,I_ 21 [.sl 18,.sl 19,.sl 20] (.call 6)]) (.cond (.sl 21) (.reg false [I_ 22 [.tk 7] .mv,I_ 5 [.tk 22] .mv]) .skip)))) (.reg false [I_ 23 [.tv 14,.cv (.int .i64 1)] (.bin .add),I_ 14 [.tk 23] .mv]))))
noncomputable def xrc91:RC :=
 .seq (.reg false [I_ 4 [.cv (.int .i64 0)] .mv]) (.seq (.reg false [I_ 8 [.sl 0] .mv,I_ 9 [.tv 8,.cv (.int .i64 0)] (.ia 1),I_ 10 [.tv 9] (.ld .one),I_ 5 [.tk 10] .mv]) (.seq (.seq (.reg false [I_ 11 [.tk 0] .mv,I_ 12 [.tk
 11,.cv (.int .i64 1)] (.slS 1 true false false),I_ 13 [.sl 12] .lenS,I_ 14 [.cv (.int .i64 0)] .mv]) (.block 0 xrc91_1)) (.seq (.reg false [I_ 24 [.tk 5] .mv,I_ 4 [.tk 24] .mv]) .ret)))
theorem lxx91:linkF Tryz.prog ann91 91=some (xrc91,25,[.tmp 4]):=by kernel_rfl
def x91_l1 (l:(List Int)) (better:(Int→Int→Option Bool)) (kl1_0:Int→Option Int):Nat→Int→Int→Option Int
 | 0,_,_=>none
 | m+1,s1,s2 =>
   if (decide (s2<((l.drop (1:Int).toNat).length:Int)))=true then
    gd (0≤s2∧s2<((l.drop (1:Int).toNat).length:Int)) <|
    (better (ix (l.drop (1:Int).toNat) s2) s1).bind fun r1 =>
    if r1=true then
     x91_l1 l better kl1_0 m (ix (l.drop (1:Int).toNat) s2) (w (s2+(1:Int)))
    else
     x91_l1 l better kl1_0 m s1 (w (s2+(1:Int)))
   else
    kl1_0 s1
def x91 (l:(List Int)) (better:(Int→Int→Option Bool)):Option Int :=
 gd (0≤(0:Int)∧(0:Int)<(l.length:Int)) <|
 gd (0≤(1:Int)∧(1:Int)≤(l.length:Int)) <|
 x91_l1 l better (fun z1 =>
   some z1) FU (ix l (0:Int)) (0:Int)
theorem x91_l1_ok {l:(List Int)} {better:(Int→Int→Option Bool)} {kl1_0:Int→Option Int} {s1:Int} {s2:Int} {kf_better:FuncId} {fc_better:List AV} (hc_better:fc_better.all (pureD 7)=true) (hk_better:∀ (y0:Int) (y1:Int) (r:Bool),better y0 y1=some r→PO kf_better [.lptr fc_better,(I y0),(I y1)] (B r)) {v:Int} {Q:Ex→List AV→List AObj→Prop}   (hkl1_0:∀ (z1:Int) (u0:AV) (u1:AV) (u4:AV) (u7:AV) (u8:AV) (u9:AV) (u10:AV) (u11:AV) (u12:AV) (u13:AV) (u14:AV) (u15:AV) (u16:AV) (u17:AV) (u18:AV) (u19:AV) (u20:AV) (u21:AV) (u22:AV) (u23:AV) (u24:AV),kl1_0 z1=some v→Q (.exit 0) [u0,u1,J,J,u4,(I z1),J,u7,u8,u9,u10,u11,u12,u13,u14,u15,u16,u17,u18,u19,u20,u21,u22,u23,u24] []) {T:List AV} (hT:zipKeep [o_,i_,o_,o_,o_,i_,o_,o_,o_,o_,o_,o_,i_,i_,i_,o_,o_,o_,o_,o_,o_,o_,o_,o_,o_] T=slots 25 [(1,(.func kf_better [.lptr fc_better] [])),(5,(I s1)),(12,(.lst ((l.drop (1:Int).toNat).map I) (l.drop (1:Int).toNat).length .shared)),(13,(I ((l.drop (1:Int).toNat).length:Int))),(14,(I s2))]) (h:x91_l1 l better kl1_0 FU s1 s2=some v) :
  wpR Tryz.prog ann91 91 0 none xrc91_1 T [] Q:=by
 unfold xrc91_1
 skip
 refine wp_loop hT ?_
 refine .intro (fun m T H=>∃ (s1:Int) (s2:Int),T=slots 25 [(1,(.func kf_better [.lptr fc_better] [])),(5,(I s1)),(12,(.lst ((l.drop (1:Int).toNat).map I) (l.drop (1:Int).toNat).length .shared)),(13,(I ((l.drop (1:Int).toNat).length:Int))),(14,(I s2))]∧H=[]∧x91_l1 l better kl1_0 m s1 s2=some v) FU ⟨s1,s2,rfl,rfl,h⟩ ?_
 clear h hT
 rintro m T H ⟨s1,s2,rfl,rfl,h⟩
 cases m
 ·exact none_ne h
 rename_i m
 rw [x91_l1.eq_2] at h
 conv=>whnf
 rcases bt (decide (s2<((l.drop (1:Int).toNat).length:Int))) with hb3 | hb3
 ·rw [hb3]
  conv=>whnf
  replace h:=it_t hb3 h
  obtain ⟨hb4,h⟩:=gd_some h
  refine ⟨hb4,?_⟩
  rw [drop1 I (l.drop (1:Int).toNat) s2 hb4]
  conv=>whnf
  obtain ⟨r1,hb5,h⟩:=bd_some h
  refine ⟨_,_,call6 (bs:=[.lptr fc_better,(I (ix (l.drop (1:Int).toNat) s2)),(I s1)]) (by rfl) (by exact (allc (pu_lptr hc_better) (allc rfl (allc rfl rfl)))) (hk_better _ _ _ hb5) rfl,?_⟩
  conv=>whnf
  cases r1
  ·conv=>whnf
   replace h:=it_f rfl h
   exact ⟨m,Nat.lt_succ_self m,s1,(w (s2+(1:Int))),rfl,rfl,h⟩
  ·conv=>whnf
   replace h:=it_t rfl h
   exact ⟨m,Nat.lt_succ_self m,(ix (l.drop (1:Int).toNat) s2),(w (s2+(1:Int))),rfl,rfl,h⟩
 ·rw [hb3]
  conv=>whnf
  replace h:=it_f hb3 h
  exact hkl1_0 _ _ _ _ _ _ _ _ _ _ _ _ _ _ _ _ _ _ _ _ _ _ h
theorem x91_ok {l:(List Int)} {better:(Int→Int→Option Bool)} {kf_better:FuncId} {fc_better:List AV} (hc_better:fc_better.all (pureD 7)=true) (hk_better:∀ (y0:Int) (y1:Int) (r:Bool),better y0 y1=some r→PO kf_better [.lptr fc_better,(I y0),(I y1)] (B r)) {v:Int} (h:x91 l better=some v):PO 91 [(.lst (l.map I) l.length .shared),(.func kf_better [.lptr fc_better] [])] (I v):=by
 refine fn_pureW hmix lxx91 rfl rfl fun Q hQ=>?_
 have hR:∀ T H,RetW [.tmp 4] (I v) .ret T H→Q .ret T H:=fun T H hh=>hQ _ T H hh
 unfold x91 at h
 unfold xrc91
 obtain ⟨c_1,g_1⟩:∃ c,xrc91_1=c:=⟨_,rfl⟩
 rw [g_1]
 conv=>whnf
 obtain ⟨hb1,h⟩:=gd_some h
 refine ⟨hb1,?_⟩
 rw [drop1 I l (0:Int) hb1]
 conv=>whnf
 obtain ⟨hb2,h⟩:=gd_some h
 refine ⟨hb2,?_⟩
 erw [slLo I l (1:Int) hb2]
 conv=>whnf
 subst g_1
 refine x91_l1_ok hc_better hk_better ?_ (by exact rfl) h
 intro z1 u0 u1 u4 u7 u8 u9 u10 u11 u12 u13 u14 u15 u16 u17 u18 u19 u20 u21 u22 u23 u24 h
 conv=>whnf
 obtain rfl:=Option.some.inj h
 exact hR _ _ ⟨.inr rfl,_,rfl,_,frz_pure rfl,rfl⟩
end Go.Proofs.YtbnbjjgagikobaaGreat.Ab
