
import Derived.Test.YtfakoboiahbhaaaGreatJo4
import Derived.KernelRfl
import Derived.Test.YtfakoboiahbhaaaGreatJo5
import Derived.Test.YtfakoboiahbhaaaGreatJo6
set_option linter.unusedSimpArgs false
set_option linter.unusedVariables false
set_option linter.unusedSectionVars false

namespace Go.Proofs.YtfakoboiahbhaaaGreat.Ab
open Go
def k1:Ent:=.pure 18 [.agg [.int .i64 4,.lst [.int .i64 0,.int .i64 1,.int .i64 1,.int .i64 2,.int .i64 2,.int .i64 0,.int .i64 2,.int .i64 3] 4 .shared],.lst [.int .i64 1,.int .i64 1,.int .i64 0,.int .i64 1,.int .i64 2,.int .i64 1,.int .i64 3,.int .i64 0] 4 .shared] (.tuple [.int .i64 2,.int .i64 3,.int .i64 0])
def k2:Ent:=.pure 22 [.agg [.int .i64 4,.lst [.int .i64 0,.int .i64 1,.int .i64 1,.int .i64 2,.int .i64 2,.int .i64 0,.int .i64 2,.int .i64 3] 4 .shared],.lst [.int .i64 1,.int .i64 1,.int .i64 0,.int .i64 1,.int .i64 2,.int .i64 1,.int .i64 3,.int .i64 0] 4 .shared] (.int .i64 27)
def k3:Ent:=.pure 27 [.agg [.int .i64 5,.lst [.int .i64 0,.int .i64 1,.int .i64 2,.int .i64 3,.int .i64 4,.int .i64 4] 3 .shared]] (.tuple [.lst [.int .i64 0,.int .i64 1,.int .i64 2,.int .i64 3] 4 .full,.int .i64 0])
def k4:Ent:=.pure 29 [.agg [.int .i64 4,.lst [.int .i64 0,.int .i64 1,.int .i64 1,.int .i64 2,.int .i64 2,.int .i64 0,.int .i64 2,.int .i64 3] 4 .shared]] (.tuple [.lst [.lst [.int .i64 0,.int .i64 1,.int .i64 2,.int .i64 3] 4 .shared] 1 .shared,.int .i64 0])
def k5:Ent:=.pure 35 [.agg [.int .i64 4,.lst [.int .i64 0,.int .i64 1,.int .i64 1,.int .i64 2,.int .i64 2,.int .i64 0,.int .i64 2,.int .i64 3] 4 .shared]] (.tuple [.int .i64 1,.int .i64 0])
def k6:Ent:=.pure 35 [.agg [.int .i64 2,.lst [.int .i64 0,.int .i64 1,.int .i64 1,.int .i64 0] 2 .shared]] (.tuple [.int .i64 1,.int .i64 0])
end Go.Proofs.YtfakoboiahbhaaaGreat.Ab


namespace Go.Proofs.YtfakoboiahbhaaaGreat.Ab
open Go
def worksL:List Ent:=[w1,w2,w3,w4,w5,w6,w7,w8,w9,w10,w11,w12,w13,w14,w15,w16,w17,w18,w19,w20,w21,w22,w23]
theorem worksL_ok:∀ e∈worksL,entOk Go.Proofs.Tryz.prog e:=by
 simp only [worksL,List.forall_mem_cons]
 exact ⟨w1_ok,w2_ok,w3_ok,w4_ok,w5_ok,w6_ok,w7_ok,w8_ok,w9_ok,w10_ok,w11_ok,w12_ok,w13_ok,w14_ok,w15_ok,w16_ok,w17_ok,w18_ok,w19_ok,w20_ok,w21_ok,w22_ok,w23_ok,by simp⟩
abbrev WK:Prop:=PO 17 [] (B true)
theorem works_ok:WK:=runC_ok worksL_ok (by kernel_rfl)
end Go.Proofs.YtfakoboiahbhaaaGreat.Ab


namespace Go.Proofs.YtfakoboiahbhaaaGreat.Ab
open Go
def x17:Option Bool:=some true
theorem x17_ok {v:Bool} (h:x17=some v):PO 17 [] (B v):=by
 obtain rfl:=Option.some.inj h
 exact works_ok
end Go.Proofs.YtfakoboiahbhaaaGreat.Ab


namespace Go.Proofs.YtfakoboiahbhaaaGreat.Ab
open Go
set_option maxRecDepth 20000
set_option maxHeartbeats 4000000
noncomputable def xrc16:RC :=
 .seq (.reg false [I_ 1 [.tk 0] .box,I_ 2 [.cv (.bool false)] .mv]) (.seq (.reg false [I_ 3 [.tv 1] (.fa 1),I_ 4 [.tv 3] (.ld .one),I_ 5 [.tk 4] .lenS,I_ 6 [.tv 5,.cv (.int .i64 14)] (.bin .gtr),I_ 2 [.tk 6] .mv]) .ret)
theorem lxx16:linkF Tryz.prog ann16 16=some (xrc16,7,[.tmp 2]):=by kernel_rfl
def x16 (b:(Int×(List (Int×Int)))):Option Bool :=
 some (decide ((14:Int)<(b.2.length:Int)))
theorem x16_ok {b:(Int×(List (Int×Int)))} {v:Bool} (h:x16 b=some v):PO 16 [(.agg [(I b.1),(.lst (b.2.flatMap pr) b.2.length .shared)])] (B v):=by
 refine fn_pureW hmix lxx16 rfl rfl fun Q hQ=>?_
 have hR:∀ T H,RetW [.tmp 2] (B v) .ret T H→Q .ret T H:=fun T H hh=>hQ _ T H hh
 unfold x16 at h
 unfold xrc16
 skip
 conv=>whnf
 obtain rfl:=Option.some.inj h
 exact hR _ _ ⟨.inr rfl,_,rfl,_,frz_pure rfl,rfl⟩

noncomputable def xrc114_1:RC :=
 .loop (some [i_,i_,o_,o_,o_,o_,o_,i_,i_,o_,o_,o_,o_,o_,o_,o_,o_,o_,o_]) (.seq (.reg false [I_ 9 [.sl 8,.sl 7] (.bin .lss)]) (.seq (.cond (.sl 9) .skip (.exit
 0)) (.seq (.block 1 (.seq (.reg false [I_ 10 [.sl 8] .mv,I_ 5 [.tk 10] .mv]) (.seq (.reg false [I_ 11 [.sl 1] .mv,I_ 12 [.sl 0] .mv,I_ 13 [.sl 5] .mv,I_ 14 [.tv 12,.tv 13] (.ia 1),I_ 15 [.tv 14] (.ld .one),I_ 16 [.sl 11,
 .sl 15] (.call 6)]) (.cond (.sl 16) (.seq (.reg false [I_ 17 [.tk 5] .mv,I_ 4 [.tk 17] .mv]) .ret) .skip)))) (.reg false [I_ 18 [.tv 8,.cv (.int .i64 1)] (.bin .add),I_ 8 [.tk 18] .mv]))))
noncomputable def xrc114:RC :=
 .seq (.reg false [I_ 4 [.cv (.int .i64 0)] .mv]) (.seq (.seq (.reg false [I_ 6 [.sl 0] .mv,I_ 7 [.tk 6] .lenS,I_ 8 [.cv (.int .i64 0)] .mv]) (.block 0 xrc114_1)) (.seq (.reg false [I_ 4 [.cv (.int .i64 (-1))] .mv]) .ret))
theorem lxx114:linkF Tryz.prog ann114 114=some (xrc114,19,[.tmp 4]):=by kernel_rfl
def x114_l1 (s:(List Int)) (f:(Int→Option Bool)) (kl1_0:Unit→Option Int):Nat→Int→Option Int
 | 0,_=>none
 | m+1,s1 =>
   if (decide (s1<(s.length:Int)))=true then
    gd (0≤s1∧s1<(s.length:Int)) <|
    (f (ix s s1)).bind fun r1 =>
    if r1=true then
     some s1
    else
     x114_l1 s f kl1_0 m (w (s1+(1:Int)))
   else
    kl1_0 ()
def x114 (s:(List Int)) (f:(Int→Option Bool)):Option Int :=
 x114_l1 s f (fun _ =>
   some (-1:Int)) FU (0:Int)
theorem x114_l1_ok {s:(List Int)} {f:(Int→Option Bool)} {kl1_0:Unit→Option Int} {s1:Int} {kf_f:FuncId} {cs_f:List AV} (hc_f:Boxes cs_f) (hk_f:∀ (y0:Int) (r:Bool),f y0=some r→PO kf_f ((I y0)::cs_f) (B r)) {v:Int} {Q:Ex→List AV→List AObj→Prop}   (hR:∀ T H,RetW [.tmp 4] (I v) .ret T H→Q .ret T H) (hkl1_0:∀ (u0:AV) (u1:AV) (u4:AV) (u5:AV) (u6:AV) (u7:AV) (u8:AV) (u9:AV) (u10:AV) (u11:AV) (u12:AV) (u13:AV) (u14:AV) (u15:AV) (u16:AV) (u17:AV) (u18:AV),kl1_0 ()=some v→Q (.exit 0) [u0,u1,J,J,u4,u5,u6,u7,u8,u9,u10,u11,u12,u13,u14,u15,u16,u17,u18] []) {T:List AV} (hT:zipKeep [i_,i_,o_,o_,o_,o_,o_,i_,i_,o_,o_,o_,o_,o_,o_,o_,o_,o_,o_] T=slots 19 [(0,(.lst (s.map I) s.length .shared)),(1,(.func kf_f [] cs_f)),(7,(I (s.length:Int))),(8,(I s1))]) (h:x114_l1 s f kl1_0 FU s1=some v) :
  wpR Tryz.prog ann114 114 0 none xrc114_1 T [] Q:=by
 unfold xrc114_1
 skip
 refine wp_loop hT ?_
 refine .intro (fun m T H=>∃ (s1:Int),T=slots 19 [(0,(.lst (s.map I) s.length .shared)),(1,(.func kf_f [] cs_f)),(7,(I (s.length:Int))),(8,(I s1))]∧H=[]∧x114_l1 s f kl1_0 m s1=some v) FU ⟨s1,rfl,rfl,h⟩ ?_
 clear h hT
 rintro m T H ⟨s1,rfl,rfl,h⟩
 cases m
 ·exact none_ne h
 rename_i m
 rw [x114_l1.eq_2] at h
 conv=>whnf
 rcases bt (decide (s1<(s.length:Int))) with hb1 | hb1
 ·rw [hb1]
  conv=>whnf
  replace h:=it_t hb1 h
  obtain ⟨hb2,h⟩:=gd_some h
  refine ⟨hb2,?_⟩
  rw [drop1 I s s1 hb2]
  conv=>whnf
  obtain ⟨r1,hb3,h⟩:=bd_some h
  refine ⟨_,_,call6 (bs:=((I (ix s s1))::cs_f)) (by simp only [List.map_cons,hc_f.shz,hc_f.dim];rfl) (by simp only [List.map_cons,hc_f.shz];exact (allc rfl hc_f.all8)) (hk_f _ _ hb3) rfl,?_⟩
  conv=>whnf
  cases r1
  ·conv=>whnf
   replace h:=it_f rfl h
   exact ⟨m,Nat.lt_succ_self m,(w (s1+(1:Int))),rfl,rfl,h⟩
  ·conv=>whnf
   replace h:=it_t rfl h
   obtain rfl:=Option.some.inj h
   exact hR _ _ ⟨.inr rfl,_,rfl,_,frz_pure rfl,rfl⟩
 ·rw [hb1]
  conv=>whnf
  replace h:=it_f hb1 h
  exact hkl1_0 _ _ _ _ _ _ _ _ _ _ _ _ _ _ _ _ _ h
theorem x114_ok {s:(List Int)} {f:(Int→Option Bool)} {kf_f:FuncId} {cs_f:List AV} (hc_f:Boxes cs_f) (hk_f:∀ (y0:Int) (r:Bool),f y0=some r→PO kf_f ((I y0)::cs_f) (B r)) {v:Int} (h:x114 s f=some v):PO 114 [(.lst (s.map I) s.length .shared),(.func kf_f [] cs_f)] (I v):=by
 refine fn_pureW hmix lxx114 rfl rfl fun Q hQ=>?_
 have hR:∀ T H,RetW [.tmp 4] (I v) .ret T H→Q .ret T H:=fun T H hh=>hQ _ T H hh
 unfold x114 at h
 unfold xrc114
 obtain ⟨c_1,g_1⟩:∃ c,xrc114_1=c:=⟨_,rfl⟩
 rw [g_1]
 conv=>whnf
 subst g_1
 refine x114_l1_ok hc_f hk_f ?_ ?_ (by exact rfl) h
 ·exact fun T H hh=>hR T H hh
 ·intro u0 u1 u4 u5 u6 u7 u8 u9 u10 u11 u12 u13 u14 u15 u16 u17 u18 h
  conv=>whnf
  obtain rfl:=Option.some.inj h
  exact hR _ _ ⟨.inr rfl,_,rfl,_,frz_pure rfl,rfl⟩

noncomputable def xrc92:RC :=
 .seq (.reg false [I_ 4 [.cv (.bool false)] .mv]) (.seq (.reg false [I_ 5 [.tk 0] .mv,I_ 6 [.tk 1] .mv,I_ 7 [.cv (.func 114 [] []),.sl 5,.sl 6] (.call 6),I_ 8 [.tv 7,.cv (.int .i64 0)] (.bin .geq),I_ 4 [.tk 8] .mv]) .ret)
theorem lxx92:linkF Tryz.prog ann92 92=some (xrc92,9,[.tmp 4]):=by kernel_rfl
def x92 (s:(List Int)) (f:(Int→Option Bool)):Option Bool :=
 (x114 s f).bind fun r1 =>
 some (decide ((0:Int)≤r1))
theorem x92_ok {s:(List Int)} {f:(Int→Option Bool)} {kf_f:FuncId} {cs_f:List AV} (hc_f:Boxes cs_f) (hk_f:∀ (y0:Int) (r:Bool),f y0=some r→PO kf_f ((I y0)::cs_f) (B r)) {v:Bool} (h:x92 s f=some v):PO 92 [(.lst (s.map I) s.length .shared),(.func kf_f [] cs_f)] (B v):=by
 refine fn_pureW hmix lxx92 rfl rfl fun Q hQ=>?_
 have hR:∀ T H,RetW [.tmp 4] (B v) .ret T H→Q .ret T H:=fun T H hh=>hQ _ T H hh
 unfold x92 at h
 unfold xrc92
 skip
 conv=>whnf
 obtain ⟨r1,hb1,h⟩:=bd_some h
 refine ⟨_,_,call6' (cs:=[(.lst (s.map I) s.length .shared),(.func kf_f [] cs_f)]) (bs:=[(.lst (s.map I) s.length .shared),(.func kf_f [] cs_f)]) (map_cons' rfl (map_cons' (hc_f.fn _ _) map_nil')) (by rfl) (by exact (allc (pu_map (fun _=>rfl) _ _ _) (allc (hc_f.pfn _) rfl))) (x114_ok hc_f hk_f hb1) rfl,?_⟩
 conv=>whnf
 obtain rfl:=Option.some.inj h
 exact hR _ _ ⟨.inr rfl,_,rfl,_,frz_pure rfl,rfl⟩

noncomputable def xrc93:RC :=
 .seq (.reg false [I_ 4 [.cv (.bool false)] .mv]) (.seq (.reg false [I_ 5 [.sl 0] .mv,I_ 6 [.tv 1] (.ld .one),I_ 7 [.tv 5,.tv 6] (.bin .lss),I_ 8 [.tk 7] .mv,⟨some 9,[.tk 0],some (8,false),none,.mv⟩,⟨some 10,[.tv 2],
 some (8,false),none,.ld .one⟩,⟨some 11,[.tv 9,.tv 10],some (8,false),none,.bin .gtr⟩,I_ 12 [.tv 8,.cv (.bool true),.tv 11] .pick,I_ 4 [.tk 12] .mv]) .ret)
theorem lxx93:linkF Tryz.prog ann93 93=some (xrc93,13,[.tmp 4]):=by kernel_rfl
def x93 (n:Int) (c0:Int) (c1:Int):Option Bool :=
 if (decide (n<c0))=true then
  some true
 else
  some (decide (c1<n))
theorem x93_ok {n:Int} {c0:Int} {c1:Int} {v:Bool} (h:x93 n c0 c1=some v):PO 93 [(I n),(.lptr [(I c0)]),(.lptr [(I c1)])] (B v):=by
 refine fn_pureW hmix lxx93 rfl rfl fun Q hQ=>?_
 have hR:∀ T H,RetW [.tmp 4] (B v) .ret T H→Q .ret T H:=fun T H hh=>hQ _ T H hh
 unfold x93 at h
 unfold xrc93
 skip
 conv=>whnf
 rcases bt (decide (n<c0)) with hb1 | hb1
 ·rw [hb1]
  conv=>whnf
  replace h:=it_t hb1 h
  obtain rfl:=Option.some.inj h
  exact hR _ _ ⟨.inr rfl,_,rfl,_,frz_pure rfl,rfl⟩
 ·rw [hb1]
  conv=>whnf
  replace h:=it_f hb1 h
  obtain rfl:=Option.some.inj h
  exact hR _ _ ⟨.inr rfl,_,rfl,_,frz_pure rfl,rfl⟩

noncomputable def xrc66:RC :=
 .seq (.reg false [I_ 3 [.tk 0] .box,I_ 4 [.tk 1] .box,I_ 6 [.cv (.bool false)] .mv]) (.seq (.reg false [I_ 7 [.tk 2] .mv,I_ 8 [.tv 3,.tv 4] (.mkF 93 0 2),I_ 9 [.cv (.func 92 [] []),.sl 7,.sl 8] (.call 6),I_ 10 [.tv 9]
 (.un .not),I_ 6 [.tk 10] .mv]) .ret)
theorem lxx66:linkF Tryz.prog ann66 66=some (xrc66,11,[.tmp 6]):=by kernel_rfl
def x66 (lo:Int) (hi:Int) (l:(List Int)):Option Bool :=
 (x92 l (fun y0=>x93 y0 lo hi)).bind fun r1 =>
 some (!r1)
theorem x66_ok {lo:Int} {hi:Int} {l:(List Int)} {v:Bool} (h:x66 lo hi l=some v):PO 66 [(I lo),(I hi),(.lst (l.map I) l.length .shared)] (B v):=by
 refine fn_pureW hmix lxx66 rfl rfl fun Q hQ=>?_
 have hR:∀ T H,RetW [.tmp 6] (B v) .ret T H→Q .ret T H:=fun T H hh=>hQ _ T H hh
 unfold x66 at h
 unfold xrc66
 skip
 conv=>whnf
 obtain ⟨r1,hb1,h⟩:=bd_some h
 refine ⟨_,_,call6' (cs:=[(.lst (l.map I) l.length .shared),(.func 93 [] [(.lptr [(I lo)]),(.lptr [(I hi)])])]) (bs:=[(.lst (l.map I) l.length .shared),(.func 93 [] [(.lptr [(I lo)]),(.lptr [(I hi)])])]) (map_cons' rfl (map_cons' (shz_func map_nil' (map_cons' (shz0_ptr' (cs:=[(I lo)]) (by first | with_reducible exact get_concat _ _ | exact get_concat _ _ | exact ga (get_concat _ _) | rfl | (simp [List.getElem?_append,AV.settle];done)) rfl) (map_cons' (shz0_ptr' (cs:=[(I hi)]) (by first | with_reducible exact get_concat _ _ | exact get_concat _ _ | exact ga (get_concat _ _) | rfl | (simp [List.getElem?_append,AV.settle];done)) rfl) map_nil'))) map_nil')) (by rfl) (by exact (allc (pu_map (fun _=>rfl) _ _ _) (allc (pu_fn rfl (allc (pu_lptr (allc rfl rfl)) (allc (pu_lptr (allc rfl rfl)) rfl))) rfl))) (x92_ok ⟨(allc (pu_lptr (allc rfl rfl)) (allc (pu_lptr (allc rfl rfl)) rfl)),by simp⟩ (fun _ _ hy=>x93_ok hy) hb1) rfl,?_⟩
 conv=>whnf
 obtain rfl:=Option.some.inj h
 exact hR _ _ ⟨.inr rfl,_,rfl,_,frz_pure rfl,rfl⟩

noncomputable def xrc71:RC :=
 .seq (.reg false [I_ 2 [.tk 0] .box,I_ 3 [.cv (.bool false)] .mv]) (.seq (.reg false [I_ 4 [.tv 1] (.fa 0),I_ 5 [.tv 4] (.ld .one),I_ 6 [.tv 5,.cv (.int .i64 1)] (.bin .sub),I_ 7 [.sl 2] (.fa 0),I_ 8 [.tv 7] (.ld .one),I_
 9 [.tv 2] (.fa 1),I_ 10 [.tv 9] (.ld .one),I_ 11 [.tv 8,.tv 10] (.buildS 2 1 [.int .i64 0] [0,1]),I_ 12 [.cv (.func 66 [] []),.cv (.int .i64 0),.sl 6,.sl 11] (.call 3),I_ 13 [.tv 12] (.un .not),I_ 3 [.tk 13] .mv])
 .ret)
theorem lxx71:linkF Tryz.prog ann71 71=some (xrc71,14,[.tmp 3]):=by kernel_rfl
def x71 (s:(Int×Int)) (c0:(Int×(List (Int×Int)))):Option Bool :=
 (x66 (0:Int) (w (c0.1-(1:Int))) [s.1,s.2]).bind fun r1 =>
 some (!r1)
theorem x71_ok {s:(Int×Int)} {c0:(Int×(List (Int×Int)))} {v:Bool} (h:x71 s c0=some v):PO 71 [(.agg [(I s.1),(I s.2)]),(.lptr [(I c0.1),(.lst (c0.2.flatMap pr) c0.2.length .shared)])] (B v):=by
 refine fn_pureW hmix lxx71 rfl rfl fun Q hQ=>?_
 have hR:∀ T H,RetW [.tmp 3] (B v) .ret T H→Q .ret T H:=fun T H hh=>hQ _ T H hh
 unfold x71 at h
 unfold xrc71
 skip
 conv=>whnf
 obtain ⟨r1,hb1,h⟩:=bd_some h
 refine ⟨(allc rfl (allc rfl (allc rfl rfl))),_,x66_ok hb1,?_⟩
 conv=>whnf
 obtain rfl:=Option.some.inj h
 exact hR _ _ ⟨.inr rfl,_,rfl,_,frz_pure rfl,rfl⟩

noncomputable def xrc95_1:RC :=
 .loop (some [i_,i_,o_,o_,o_,o_,o_,i_,i_,o_,o_,o_,o_,o_,o_,o_,o_,o_,o_]) (.seq (.reg false [I_ 9 [.sl 8,.sl 7] (.bin .lss)]) (.seq (.cond (.sl 9) .skip (.exit
 0)) (.seq (.block 1 (.seq (.reg false [I_ 10 [.sl 8] .mv,I_ 5 [.tk 10] .mv]) (.seq (.reg false [I_ 11 [.sl 1] .mv,I_ 12 [.sl 0] .mv,I_ 13 [.sl 5] .mv,I_ 14 [.tv 12,.tv 13] (.ia 2),I_ 15 [.tv 14] (.ld (.str 2)),I_ 16 [.sl
 11,.sl 15] (.call 6)]) (.cond (.sl 16) (.seq (.reg false [I_ 17 [.tk 5] .mv,I_ 4 [.tk 17] .mv]) .ret) .skip)))) (.reg false [I_ 18 [.tv 8,.cv (.int .i64 1)] (.bin .add),I_ 8 [.tk 18] .mv]))))
noncomputable def xrc95:RC :=
 .seq (.reg false [I_ 4 [.cv (.int .i64 0)] .mv]) (.seq (.seq (.reg false [I_ 6 [.sl 0] .mv,I_ 7 [.tk 6] .lenS,I_ 8 [.cv (.int .i64 0)] .mv]) (.block 0 xrc95_1)) (.seq (.reg false [I_ 4 [.cv (.int .i64 (-1))] .mv]) .ret))
theorem lxx95:linkF Tryz.prog ann95 95=some (xrc95,19,[.tmp 4]):=by kernel_rfl
def x95_l1 (s:(List (Int×Int))) (f:((Int×Int)→Option Bool)) (kl1_0:Unit→Option Int):Nat→Int→Option Int
 | 0,_=>none
 | m+1,s1 =>
   if (decide (s1<(s.length:Int)))=true then
    gd (0≤s1∧s1<(s.length:Int)) <|
    (f (ix s s1)).bind fun r1 =>
    if r1=true then
     some s1
    else
     x95_l1 s f kl1_0 m (w (s1+(1:Int)))
   else
    kl1_0 ()
def x95 (s:(List (Int×Int))) (f:((Int×Int)→Option Bool)):Option Int :=
 x95_l1 s f (fun _ =>
   some (-1:Int)) FU (0:Int)
theorem x95_l1_ok {s:(List (Int×Int))} {f:((Int×Int)→Option Bool)} {kl1_0:Unit→Option Int} {s1:Int} {kf_f:FuncId} {cs_f:List AV} (hc_f:Boxes cs_f) (hk_f:∀ (y0:(Int×Int)) (r:Bool),f y0=some r→PO kf_f ((.agg [(I y0.1),(I y0.2)])::cs_f) (B r)) {v:Int} {Q:Ex→List AV→List AObj→Prop}   (hR:∀ T H,RetW [.tmp 4] (I v) .ret T H→Q .ret T H) (hkl1_0:∀ (u0:AV) (u1:AV) (u4:AV) (u5:AV) (u6:AV) (u7:AV) (u8:AV) (u9:AV) (u10:AV) (u11:AV) (u12:AV) (u13:AV) (u14:AV) (u15:AV) (u16:AV) (u17:AV) (u18:AV),kl1_0 ()=some v→Q (.exit 0) [u0,u1,J,J,u4,u5,u6,u7,u8,u9,u10,u11,u12,u13,u14,u15,u16,u17,u18] []) {T:List AV} (hT:zipKeep [i_,i_,o_,o_,o_,o_,o_,i_,i_,o_,o_,o_,o_,o_,o_,o_,o_,o_,o_] T=slots 19 [(0,(.lst (s.flatMap pr) s.length .shared)),(1,(.func kf_f [] cs_f)),(7,(I (s.length:Int))),(8,(I s1))]) (h:x95_l1 s f kl1_0 FU s1=some v) :
  wpR Tryz.prog ann95 95 0 none xrc95_1 T [] Q:=by
 unfold xrc95_1
 skip
 refine wp_loop hT ?_
 refine .intro (fun m T H=>∃ (s1:Int),T=slots 19 [(0,(.lst (s.flatMap pr) s.length .shared)),(1,(.func kf_f [] cs_f)),(7,(I (s.length:Int))),(8,(I s1))]∧H=[]∧x95_l1 s f kl1_0 m s1=some v) FU ⟨s1,rfl,rfl,h⟩ ?_
 clear h hT
 rintro m T H ⟨s1,rfl,rfl,h⟩
 cases m
 ·exact none_ne h
 rename_i m
 rw [x95_l1.eq_2] at h
 conv=>whnf
 rcases bt (decide (s1<(s.length:Int))) with hb1 | hb1
 ·rw [hb1]
  conv=>whnf
  replace h:=it_t hb1 h
  obtain ⟨hb2,h⟩:=gd_some h
  refine ⟨hb2,?_⟩
  rw [dropS pr 2 pr_len s s1 hb2]
  conv=>whnf
  obtain ⟨r1,hb3,h⟩:=bd_some h
  refine ⟨_,_,call6 (bs:=((.agg [(I (ix s s1).1),(I (ix s s1).2)])::cs_f)) (by simp only [List.map_cons,hc_f.shz,hc_f.dim];rfl) (by simp only [List.map_cons,hc_f.shz];exact (allc (pu_agg (allc rfl (allc rfl rfl))) hc_f.all8)) (hk_f _ _ hb3) rfl,?_⟩
  conv=>whnf
  cases r1
  ·conv=>whnf
   replace h:=it_f rfl h
   exact ⟨m,Nat.lt_succ_self m,(w (s1+(1:Int))),rfl,rfl,h⟩
  ·conv=>whnf
   replace h:=it_t rfl h
   obtain rfl:=Option.some.inj h
   exact hR _ _ ⟨.inr rfl,_,rfl,_,frz_pure rfl,rfl⟩
 ·rw [hb1]
  conv=>whnf
  replace h:=it_f hb1 h
  exact hkl1_0 _ _ _ _ _ _ _ _ _ _ _ _ _ _ _ _ _ h
theorem x95_ok {s:(List (Int×Int))} {f:((Int×Int)→Option Bool)} {kf_f:FuncId} {cs_f:List AV} (hc_f:Boxes cs_f) (hk_f:∀ (y0:(Int×Int)) (r:Bool),f y0=some r→PO kf_f ((.agg [(I y0.1),(I y0.2)])::cs_f) (B r)) {v:Int} (h:x95 s f=some v):PO 95 [(.lst (s.flatMap pr) s.length .shared),(.func kf_f [] cs_f)] (I v):=by
 refine fn_pureW hmix lxx95 rfl rfl fun Q hQ=>?_
 have hR:∀ T H,RetW [.tmp 4] (I v) .ret T H→Q .ret T H:=fun T H hh=>hQ _ T H hh
 unfold x95 at h
 unfold xrc95
 obtain ⟨c_1,g_1⟩:∃ c,xrc95_1=c:=⟨_,rfl⟩
 rw [g_1]
 conv=>whnf
 subst g_1
 refine x95_l1_ok hc_f hk_f ?_ ?_ (by exact rfl) h
 ·exact fun T H hh=>hR T H hh
 ·intro u0 u1 u4 u5 u6 u7 u8 u9 u10 u11 u12 u13 u14 u15 u16 u17 u18 h
  conv=>whnf
  obtain rfl:=Option.some.inj h
  exact hR _ _ ⟨.inr rfl,_,rfl,_,frz_pure rfl,rfl⟩

noncomputable def xrc72:RC :=
 .seq (.reg false [I_ 4 [.cv (.bool false)] .mv]) (.seq (.reg false [I_ 5 [.tk 0] .mv,I_ 6 [.tk 1] .mv,I_ 7 [.cv (.func 95 [] []),.sl 5,.sl 6] (.call 6),I_ 8 [.tv 7,.cv (.int .i64 0)] (.bin .geq),I_ 4 [.tk 8] .mv]) .ret)
theorem lxx72:linkF Tryz.prog ann72 72=some (xrc72,9,[.tmp 4]):=by kernel_rfl
def x72 (s:(List (Int×Int))) (f:((Int×Int)→Option Bool)):Option Bool :=
 (x95 s f).bind fun r1 =>
 some (decide ((0:Int)≤r1))
theorem x72_ok {s:(List (Int×Int))} {f:((Int×Int)→Option Bool)} {kf_f:FuncId} {cs_f:List AV} (hc_f:Boxes cs_f) (hk_f:∀ (y0:(Int×Int)) (r:Bool),f y0=some r→PO kf_f ((.agg [(I y0.1),(I y0.2)])::cs_f) (B r)) {v:Bool} (h:x72 s f=some v):PO 72 [(.lst (s.flatMap pr) s.length .shared),(.func kf_f [] cs_f)] (B v):=by
 refine fn_pureW hmix lxx72 rfl rfl fun Q hQ=>?_
 have hR:∀ T H,RetW [.tmp 4] (B v) .ret T H→Q .ret T H:=fun T H hh=>hQ _ T H hh
 unfold x72 at h
 unfold xrc72
 skip
 conv=>whnf
 obtain ⟨r1,hb1,h⟩:=bd_some h
 refine ⟨_,_,call6' (cs:=[(.lst (s.flatMap pr) s.length .shared),(.func kf_f [] cs_f)]) (bs:=[(.lst (s.flatMap pr) s.length .shared),(.func kf_f [] cs_f)]) (map_cons' rfl (map_cons' (hc_f.fn _ _) map_nil')) (by rfl) (by exact (allc (pu_flat (fun _=>(allc rfl (allc rfl rfl))) _ _ _) (allc (hc_f.pfn _) rfl))) (x95_ok hc_f hk_f hb1) rfl,?_⟩
 conv=>whnf
 obtain rfl:=Option.some.inj h
 exact hR _ _ ⟨.inr rfl,_,rfl,_,frz_pure rfl,rfl⟩

noncomputable def xrc20:RC :=
 .seq (.reg false [I_ 1 [.tk 0] .box,I_ 2 [.cv (.int .i64 0)] .mv]) (.seq (.reg false [I_ 4 [.sl 1] (.mkF 71 0 1),I_ 3 [.tk 4] .mv]) (.seq (.block 0 (.seq (.reg false [I_ 6 [.sl 1] (.fa 0),I_ 7 [.tv 6] (.ld .one),I_ 8 [.tv 7]
 (.buildS 1 1 [.int .i64 0] [0]),I_ 9 [.cv (.func 66 [] []),.cv (.int .i64 1),.cv (.int .i64 6),.sl 8] (.call 3),I_ 10 [.tv 9] (.un .not),I_ 11 [.tk 10] .mv,⟨some 12,[.sl 1],some (11,false),none,.fa 1⟩,⟨some 13,
 [.tv 12],some (11,false),none,.ld .one⟩,⟨some 14,[.tk 13],some (11,false),none,.lenS⟩,⟨some 15,[.tv 14,.cv (.int .i64 10)],some (11,false),none,.bin .gtr⟩,I_ 16 [.tv 11,.cv (.bool true),.tv 15] .pick,I_ 5
 [.tk 16] .mv]) (.cond (.sl 5) (.seq (.reg false [I_ 2 [.cv (.int .i64 6)] .mv]) .ret) (.seq (.reg false [I_ 18 [.tv 1] (.fa 1),I_ 19 [.tv 18] (.ld .one),I_ 20 [.tk 3] .mv,I_ 21 [.cv (.func 72 [] []),.sl 19,.sl 20] (.call
 6),I_ 17 [.tk 21] .mv]) (.cond (.sl 17) (.seq (.reg false [I_ 2 [.cv (.int .i64 3)] .mv]) .ret) .skip))))) (.seq (.reg false [I_ 2 [.cv (.int .i64 0)] .mv]) .ret)))
theorem lxx20:linkF Tryz.prog ann20 20=some (xrc20,22,[.tmp 2]):=by kernel_rfl
def x20 (b:(Int×(List (Int×Int)))):Option Int :=
 (x66 (1:Int) (6:Int) [b.1]).bind fun r1 =>
 if r1=true then
  if (decide ((10:Int)<(b.2.length:Int)))=true then
   some (6:Int)
  else
   (x72 b.2 (fun y0=>x71 y0 b)).bind fun r2 =>
   if r2=true then
    some (3:Int)
   else
    some (0:Int)
 else
  some (6:Int)
theorem x20_ok {b:(Int×(List (Int×Int)))} {v:Int} (h:x20 b=some v):PO 20 [(.agg [(I b.1),(.lst (b.2.flatMap pr) b.2.length .shared)])] (I v):=by
 refine fn_pureW hmix lxx20 rfl rfl fun Q hQ=>?_
 have hR:∀ T H,RetW [.tmp 2] (I v) .ret T H→Q .ret T H:=fun T H hh=>hQ _ T H hh
 unfold x20 at h
 unfold xrc20
 skip
 conv=>whnf
 obtain ⟨r1,hb1,h⟩:=bd_some h
 refine ⟨(allc rfl (allc rfl (allc rfl rfl))),_,x66_ok hb1,?_⟩
 conv=>whnf
 cases r1
 ·conv=>whnf
  replace h:=it_f rfl h
  obtain rfl:=Option.some.inj h
  exact hR _ _ ⟨.inr rfl,_,rfl,_,frz_pure rfl,rfl⟩
 ·conv=>whnf
  replace h:=it_t rfl h
  rcases bt (decide ((10:Int)<(b.2.length:Int))) with hb2 | hb2
  ·rw [hb2]
   conv=>whnf
   replace h:=it_t hb2 h
   obtain rfl:=Option.some.inj h
   exact hR _ _ ⟨.inr rfl,_,rfl,_,frz_pure rfl,rfl⟩
  ·rw [hb2]
   conv=>whnf
   replace h:=it_f hb2 h
   obtain ⟨r2,hb3,h⟩:=bd_some h
   refine ⟨_,_,call6' (cs:=[(.lst (b.2.flatMap pr) b.2.length .shared),(.func 71 [] [(.lptr [(I b.1),(.lst (b.2.flatMap pr) b.2.length .shared)])])]) (bs:=[(.lst (b.2.flatMap pr) b.2.length .shared),(.func 71 [] [(.lptr [(I b.1),(.lst (b.2.flatMap pr) b.2.length .shared)])])]) (map_cons' rfl (map_cons' (shz_func map_nil' (map_cons' (shz0_ptr' (cs:=[(I b.1),(.lst (b.2.flatMap pr) b.2.length .shared)]) (by first | with_reducible exact get_concat _ _ | exact get_concat _ _ | exact ga (get_concat _ _) | rfl | (simp [List.getElem?_append,AV.settle];done)) rfl) map_nil')) map_nil')) (by rfl) (by exact (allc (pu_flat (fun _=>(allc rfl (allc rfl rfl))) _ _ _) (allc (pu_fn rfl (allc (pu_lptr (allc rfl (allc (pu_flat (fun _=>(allc rfl (allc rfl rfl))) _ _ _) rfl))) rfl)) rfl))) (x72_ok ⟨(allc (pu_lptr (allc rfl (allc (pu_flat (fun _=>(allc rfl (allc rfl rfl))) _ _ _) rfl))) rfl),by simp⟩ (fun _ _ hy=>x71_ok hy) hb3) rfl,?_⟩
   conv=>whnf
   cases r2
   ·conv=>whnf
    replace h:=it_f rfl h
    obtain rfl:=Option.some.inj h
    exact hR _ _ ⟨.inr rfl,_,rfl,_,frz_pure rfl,rfl⟩
   ·conv=>whnf
    replace h:=it_t rfl h
    obtain rfl:=Option.some.inj h
    exact hR _ _ ⟨.inr rfl,_,rfl,_,frz_pure rfl,rfl⟩

def E_table (x:(Int×(List (Int×Int)))):List AV:=[(I x.1),(.lst (x.2.flatMap pr) x.2.length .shared)]
noncomputable def xrc64:RC :=
 .seq (.reg false [I_ 1 [.tk 0] .box,I_ 2 [.cv .nilp] .mv,I_ 3 [.cv (.int .i64 0)] .mv]) (.seq (.seq (.reg false [I_ 5 [.sl 1] (.ld (.str 2)),I_ 6 [.cv (.func 20 [] []),.sl 5] (.call 3),I_ 4 [.tk 6] .mv]) (.seq (.reg false
 [I_ 7 [.sl 4] .mv,I_ 8 [.tv 7,.cv (.int .i64 0)] (.bin .neq)]) (.cond (.sl 8) (.seq (.reg false [I_ 9 [.tk 4] .mv,I_ 2 [.cv .nilp] .mv,I_ 3 [.tk 9] .mv]) .ret) .skip))) (.seq (.reg false [I_ 10 [.tv 1] (.ld (.str 2)),I_ 11
 [.tv 10] (.build [.int .i64 0,.lst [] 0 .full] [(0,2)]),I_ 12 [.tk 11] .boxF,I_ 2 [.tk 12] .mv,I_ 3 [.cv (.int .i64 0)] .mv]) .ret))
theorem lxx64:linkF Tryz.prog ann64 64=some (xrc64,13,[.tmp 2,.tmp 3]):=by kernel_rfl
def x64 (b:(Int×(List (Int×Int)))):Option ((Option (Int×(List (Int×Int))))×Int) :=
 (x20 b).bind fun r1 =>
 if (decide (r1≠(0:Int)))=true then
  some (none,r1)
 else
  some ((some b),(0:Int))
theorem x64_ok {b:(Int×(List (Int×Int)))} {v:((Option (Int×(List (Int×Int))))×Int)} (h:x64 b=some v):PO 64 [(.agg [(I b.1),(.lst (b.2.flatMap pr) b.2.length .shared)])] (.tuple [(optP E_table v.1),(I v.2)]):=by
 refine fn_pureW hmix lxx64 rfl (pu_tup (allc (pu_opt (fun _=>(allc rfl (allc (pu_flat (fun _=>(allc rfl (allc rfl rfl))) _ _ _) rfl))) _) (allc rfl rfl))) fun Q hQ=>?_
 have hR:∀ T H,RetW [.tmp 2,.tmp 3] (.tuple [(optP E_table v.1),(I v.2)]) .ret T H→Q .ret T H:=fun T H hh=>hQ _ T H hh
 unfold x64 at h
 unfold xrc64
 skip
 conv=>whnf
 obtain ⟨r1,hb1,h⟩:=bd_some h
 refine ⟨(allc (pu_agg (allc rfl (allc (pu_flat (fun _=>(allc rfl (allc rfl rfl))) _ _ _) rfl))) rfl),_,x20_ok hb1,?_⟩
 conv=>whnf
 rcases bt (decide (r1≠(0:Int))) with hb2 | hb2
 ·rw [hb2]
  conv=>whnf
  replace h:=it_t hb2 h
  obtain rfl:=Option.some.inj h
  exact hR _ _ ⟨.inr rfl,_,rfl,_,frz_pure (pu_tup (allc rfl (allc rfl rfl))),rfl⟩
 ·rw [hb2]
  conv=>whnf
  replace h:=it_f hb2 h
  refine ⟨rfl,?_⟩
  conv=>whnf
  obtain rfl:=Option.some.inj h
  exact hR _ _ ⟨.inr rfl,_,rfl,_,frz_pure (pu_tup (allc (pu_lptr (allc rfl (allc (pu_flat (fun _=>(allc rfl (allc rfl rfl))) _ _ _) rfl))) (allc rfl rfl))),rfl⟩

noncomputable def xrc65:RC :=
 .seq (.reg false [I_ 2 [.tk 0] .box,I_ 3 [.cv (.bool false)] .mv]) (.seq (.reg false [I_ 4 [.tv 1] (.fa 1),I_ 5 [.tv 4] (.ld .one),I_ 6 [.tk 5] .lenS,I_ 7 [.tv 6,.cv (.int .i64 1)] (.bin .sub),I_ 8 [.sl 2] (.fa 0),I_ 9
 [.tv 8] (.ld .one),I_ 10 [.tv 9] (.buildS 1 1 [.int .i64 0] [0]),I_ 11 [.cv (.func 66 [] []),.cv (.int .i64 0),.sl 7,.sl 10] (.call 3),I_ 12 [.tv 11] (.un .not),I_ 13 [.tk 12] .mv,⟨some 14,[.tv 2],some (13,false),
 none,.fa 1⟩,⟨some 15,[.tv 14],some (13,false),none,.ld .one⟩,⟨some 16,[.tv 15],some (13,false),none,.buildS 1 1 [.int .i64 0] [0]⟩,⟨some 17,[.cv (.func 66 [] []),.cv (.int .i64 0),.cv (.int .i64 1),.sl 16],
 some (13,false),none,.call 3⟩,⟨some 18,[.tv 17],some (13,false),none,.un .not⟩,I_ 19 [.tv 13,.cv (.bool true),.tv 18] .pick,I_ 3 [.tk 19] .mv]) .ret)
theorem lxx65:linkF Tryz.prog ann65 65=some (xrc65,20,[.tmp 3]):=by kernel_rfl
def x65 (p:(Int×Int)) (c0:(Int×(List (Int×Int)))):Option Bool :=
 (x66 (0:Int) (w ((c0.2.length:Int)-(1:Int))) [p.1]).bind fun r1 =>
 if r1=true then
  (x66 (0:Int) (1:Int) [p.2]).bind fun r2 =>
  some (!r2)
 else
  some true
theorem x65_ok {p:(Int×Int)} {c0:(Int×(List (Int×Int)))} {v:Bool} (h:x65 p c0=some v):PO 65 [(.agg [(I p.1),(I p.2)]),(.lptr [(I c0.1),(.lst (c0.2.flatMap pr) c0.2.length .shared)])] (B v):=by
 refine fn_pureW hmix lxx65 rfl rfl fun Q hQ=>?_
 have hR:∀ T H,RetW [.tmp 3] (B v) .ret T H→Q .ret T H:=fun T H hh=>hQ _ T H hh
 unfold x65 at h
 unfold xrc65
 skip
 conv=>whnf
 obtain ⟨r1,hb1,h⟩:=bd_some h
 refine ⟨(allc rfl (allc rfl (allc rfl rfl))),_,x66_ok hb1,?_⟩
 conv=>whnf
 cases r1
 ·conv=>whnf
  replace h:=it_f rfl h
  obtain rfl:=Option.some.inj h
  exact hR _ _ ⟨.inr rfl,_,rfl,_,frz_pure rfl,rfl⟩
 ·conv=>whnf
  replace h:=it_t rfl h
  obtain ⟨r2,hb2,h⟩:=bd_some h
  refine ⟨(allc rfl (allc rfl (allc rfl rfl))),_,x66_ok hb2,?_⟩
  conv=>whnf
  obtain rfl:=Option.some.inj h
  exact hR _ _ ⟨.inr rfl,_,rfl,_,frz_pure rfl,rfl⟩

noncomputable def xrc94_1:RC :=
 .loop (some [i_,i_,o_,o_,o_,o_,o_,i_,i_,o_,o_,o_,o_,o_,o_,o_,o_,o_,o_]) (.seq (.reg false [I_ 9 [.sl 8,.sl 7] (.bin .lss)]) (.seq (.cond (.sl 9) .skip (.exit
 0)) (.seq (.block 1 (.seq (.reg false [I_ 10 [.sl 8] .mv,I_ 5 [.tk 10] .mv]) (.seq (.reg false [I_ 11 [.sl 1] .mv,I_ 12 [.sl 0] .mv,I_ 13 [.sl 5] .mv,I_ 14 [.tv 12,.tv 13] (.ia 2),I_ 15 [.tv 14] (.ld (.str 2)),I_ 16 [.sl
 11,.sl 15] (.call 6)]) (.cond (.sl 16) (.seq (.reg false [I_ 17 [.tk 5] .mv,I_ 4 [.tk 17] .mv]) .ret) .skip)))) (.reg false [I_ 18 [.tv 8,.cv (.int .i64 1)] (.bin .add),I_ 8 [.tk 18] .mv]))))
noncomputable def xrc94:RC :=
 .seq (.reg false [I_ 4 [.cv (.int .i64 0)] .mv]) (.seq (.seq (.reg false [I_ 6 [.sl 0] .mv,I_ 7 [.tk 6] .lenS,I_ 8 [.cv (.int .i64 0)] .mv]) (.block 0 xrc94_1)) (.seq (.reg false [I_ 4 [.cv (.int .i64 (-1))] .mv]) .ret))
theorem lxx94:linkF Tryz.prog ann94 94=some (xrc94,19,[.tmp 4]):=by kernel_rfl
def x94_l1 (s:(List (Int×Int))) (f:((Int×Int)→Option Bool)) (kl1_0:Unit→Option Int):Nat→Int→Option Int
 | 0,_=>none
 | m+1,s1 =>
   if (decide (s1<(s.length:Int)))=true then
    gd (0≤s1∧s1<(s.length:Int)) <|
    (f (ix s s1)).bind fun r1 =>
    if r1=true then
     some s1
    else
     x94_l1 s f kl1_0 m (w (s1+(1:Int)))
   else
    kl1_0 ()
def x94 (s:(List (Int×Int))) (f:((Int×Int)→Option Bool)):Option Int :=
 x94_l1 s f (fun _ =>
   some (-1:Int)) FU (0:Int)
theorem x94_l1_ok {s:(List (Int×Int))} {f:((Int×Int)→Option Bool)} {kl1_0:Unit→Option Int} {s1:Int} {kf_f:FuncId} {cs_f:List AV} (hc_f:Boxes cs_f) (hk_f:∀ (y0:(Int×Int)) (r:Bool),f y0=some r→PO kf_f ((.agg [(I y0.1),(I y0.2)])::cs_f) (B r)) {v:Int} {Q:Ex→List AV→List AObj→Prop}   (hR:∀ T H,RetW [.tmp 4] (I v) .ret T H→Q .ret T H) (hkl1_0:∀ (u0:AV) (u1:AV) (u4:AV) (u5:AV) (u6:AV) (u7:AV) (u8:AV) (u9:AV) (u10:AV) (u11:AV) (u12:AV) (u13:AV) (u14:AV) (u15:AV) (u16:AV) (u17:AV) (u18:AV),kl1_0 ()=some v→Q (.exit 0) [u0,u1,J,J,u4,u5,u6,u7,u8,u9,u10,u11,u12,u13,u14,u15,u16,u17,u18] []) {T:List AV} (hT:zipKeep [i_,i_,o_,o_,o_,o_,o_,i_,i_,o_,o_,o_,o_,o_,o_,o_,o_,o_,o_] T=slots 19 [(0,(.lst (s.flatMap pr) s.length .shared)),(1,(.func kf_f [] cs_f)),(7,(I (s.length:Int))),(8,(I s1))]) (h:x94_l1 s f kl1_0 FU s1=some v) :
  wpR Tryz.prog ann94 94 0 none xrc94_1 T [] Q:=by
 unfold xrc94_1
 skip
 refine wp_loop hT ?_
 refine .intro (fun m T H=>∃ (s1:Int),T=slots 19 [(0,(.lst (s.flatMap pr) s.length .shared)),(1,(.func kf_f [] cs_f)),(7,(I (s.length:Int))),(8,(I s1))]∧H=[]∧x94_l1 s f kl1_0 m s1=some v) FU ⟨s1,rfl,rfl,h⟩ ?_
 clear h hT
 rintro m T H ⟨s1,rfl,rfl,h⟩
 cases m
 ·exact none_ne h
 rename_i m
 rw [x94_l1.eq_2] at h
 conv=>whnf
 rcases bt (decide (s1<(s.length:Int))) with hb1 | hb1
 ·rw [hb1]
  conv=>whnf
  replace h:=it_t hb1 h
  obtain ⟨hb2,h⟩:=gd_some h
  refine ⟨hb2,?_⟩
  rw [dropS pr 2 pr_len s s1 hb2]
  conv=>whnf
  obtain ⟨r1,hb3,h⟩:=bd_some h
  refine ⟨_,_,call6 (bs:=((.agg [(I (ix s s1).1),(I (ix s s1).2)])::cs_f)) (by simp only [List.map_cons,hc_f.shz,hc_f.dim];rfl) (by simp only [List.map_cons,hc_f.shz];exact (allc (pu_agg (allc rfl (allc rfl rfl))) hc_f.all8)) (hk_f _ _ hb3) rfl,?_⟩
  conv=>whnf
  cases r1
  ·conv=>whnf
   replace h:=it_f rfl h
   exact ⟨m,Nat.lt_succ_self m,(w (s1+(1:Int))),rfl,rfl,h⟩
  ·conv=>whnf
   replace h:=it_t rfl h
   obtain rfl:=Option.some.inj h
   exact hR _ _ ⟨.inr rfl,_,rfl,_,frz_pure rfl,rfl⟩
 ·rw [hb1]
  conv=>whnf
  replace h:=it_f hb1 h
  exact hkl1_0 _ _ _ _ _ _ _ _ _ _ _ _ _ _ _ _ _ h
theorem x94_ok {s:(List (Int×Int))} {f:((Int×Int)→Option Bool)} {kf_f:FuncId} {cs_f:List AV} (hc_f:Boxes cs_f) (hk_f:∀ (y0:(Int×Int)) (r:Bool),f y0=some r→PO kf_f ((.agg [(I y0.1),(I y0.2)])::cs_f) (B r)) {v:Int} (h:x94 s f=some v):PO 94 [(.lst (s.flatMap pr) s.length .shared),(.func kf_f [] cs_f)] (I v):=by
 refine fn_pureW hmix lxx94 rfl rfl fun Q hQ=>?_
 have hR:∀ T H,RetW [.tmp 4] (I v) .ret T H→Q .ret T H:=fun T H hh=>hQ _ T H hh
 unfold x94 at h
 unfold xrc94
 obtain ⟨c_1,g_1⟩:∃ c,xrc94_1=c:=⟨_,rfl⟩
 rw [g_1]
 conv=>whnf
 subst g_1
 refine x94_l1_ok hc_f hk_f ?_ ?_ (by exact rfl) h
 ·exact fun T H hh=>hR T H hh
 ·intro u0 u1 u4 u5 u6 u7 u8 u9 u10 u11 u12 u13 u14 u15 u16 u17 u18 h
  conv=>whnf
  obtain rfl:=Option.some.inj h
  exact hR _ _ ⟨.inr rfl,_,rfl,_,frz_pure rfl,rfl⟩

noncomputable def xrc67:RC :=
 .seq (.reg false [I_ 4 [.cv (.bool false)] .mv]) (.seq (.reg false [I_ 5 [.tk 0] .mv,I_ 6 [.tk 1] .mv,I_ 7 [.cv (.func 94 [] []),.sl 5,.sl 6] (.call 6),I_ 8 [.tv 7,.cv (.int .i64 0)] (.bin .geq),I_ 4 [.tk 8] .mv]) .ret)
theorem lxx67:linkF Tryz.prog ann67 67=some (xrc67,9,[.tmp 4]):=by kernel_rfl
def x67 (s:(List (Int×Int))) (f:((Int×Int)→Option Bool)):Option Bool :=
 (x94 s f).bind fun r1 =>
 some (decide ((0:Int)≤r1))
theorem x67_ok {s:(List (Int×Int))} {f:((Int×Int)→Option Bool)} {kf_f:FuncId} {cs_f:List AV} (hc_f:Boxes cs_f) (hk_f:∀ (y0:(Int×Int)) (r:Bool),f y0=some r→PO kf_f ((.agg [(I y0.1),(I y0.2)])::cs_f) (B r)) {v:Bool} (h:x67 s f=some v):PO 67 [(.lst (s.flatMap pr) s.length .shared),(.func kf_f [] cs_f)] (B v):=by
 refine fn_pureW hmix lxx67 rfl rfl fun Q hQ=>?_
 have hR:∀ T H,RetW [.tmp 4] (B v) .ret T H→Q .ret T H:=fun T H hh=>hQ _ T H hh
 unfold x67 at h
 unfold xrc67
 skip
 conv=>whnf
 obtain ⟨r1,hb1,h⟩:=bd_some h
 refine ⟨_,_,call6' (cs:=[(.lst (s.flatMap pr) s.length .shared),(.func kf_f [] cs_f)]) (bs:=[(.lst (s.flatMap pr) s.length .shared),(.func kf_f [] cs_f)]) (map_cons' rfl (map_cons' (hc_f.fn _ _) map_nil')) (by rfl) (by exact (allc (pu_flat (fun _=>(allc rfl (allc rfl rfl))) _ _ _) (allc (hc_f.pfn _) rfl))) (x94_ok hc_f hk_f hb1) rfl,?_⟩
 conv=>whnf
 obtain rfl:=Option.some.inj h
 exact hR _ _ ⟨.inr rfl,_,rfl,_,frz_pure rfl,rfl⟩

noncomputable def xrc18_1:RC :=
 .loop (some [o_,i_,o_,o_,o_,o_,o_,i_,o_,o_,i_,o_,o_,o_,o_,o_,o_,o_,o_,o_,o_,o_,o_,o_,o_,o_,o_,o_,o_,o_,o_,o_,o_,o_,o_,o_,o_,o_,o_,i_,i_,i_,o_,o_,o_,o_,o_,o_,o_,o_,o_,o_,o_,o_,o_,o_,o_,o_,o_,o_,o_,o_,o_,o_,o_,o_,o_,o_,o_,o_,o_,o_,o_,o_,o_,o_,o_,o_,o_,o_,o_,o_]) (.seq (.reg false [I_ 42 [.sl 41,.sl 40] (.bin .lss)]) (.seq (.cond (.sl 42) .skip (.exit 1)) (.seq
 (.block 2 (.seq (.reg false [I_ 43 [.sl 39,.sl 41] (.ia 2),I_ 44 [.tv 43] (.ld (.str 2)),I_ 12 [] (.alloc [.int .i64 0,.int .i64 0]),⟨none,[.sl 12,.tk 44],none,none,.st 2⟩]) (.seq (.seq (.reg false [I_ 45 [.sl 12]
 (.fa 0),I_ 46 [.tv 45] (.ld .one),I_ 47 [.sl 10,.tv 46] (.iaA 10 1),I_ 48 [.tv 47] (.ld .one),I_ 49 [.tv 48,.cv (.int .i64 0)] (.bin .gtr)]) (.cond (.sl 49) (.seq (.reg false [I_ 4 [.cv (.int .i64 0)] .mv,I_ 5 [.cv (.int
 .i64 0)] .mv,I_ 6 [.cv (.int .i64 11)] .mv]) .ret) .skip)) (.reg false [I_ 50 [.tv 12] (.fa 0),I_ 51 [.tv 50] (.ld .one),I_ 52 [.sl 10,.tv 51] (.iaA 10 1),⟨none,[.tk 52,.cv (.int .i64 1)],none,none,.st 1⟩])))) (.reg
 false [I_ 53 [.tv 41,.cv (.int .i64 1)] (.bin .add),I_ 41 [.tk 53] .mv]))))
noncomputable def xrc18_2:RC :=
 .loop (some [o_,o_,o_,o_,o_,o_,o_,i_,o_,o_,o_,o_,o_,i_,o_,i_,o_,o_,o_,o_,o_,o_,o_,o_,o_,o_,o_,o_,o_,o_,o_,o_,o_,o_,o_,o_,o_,o_,o_,o_,o_,o_,o_,o_,o_,o_,o_,o_,o_,o_,o_,o_,o_,o_,o_,o_,o_,o_,o_,o_,o_,o_,o_,i_,i_,i_,o_,o_,o_,o_,o_,o_,o_,o_,o_,o_,o_,o_,o_,o_,o_,o_]) (.seq (.reg false [I_ 66 [.sl 65,.sl 64] (.bin .lss)]) (.seq (.cond (.sl 66) .skip (.exit 3))
 (.seq (.block 4 (.seq (.reg false [I_ 67 [.sl 63,.sl 65] (.ia 2),I_ 68 [.tv 67] (.ld (.str 2)),I_ 17 [] (.alloc [.int .i64 0,.int .i64 0]),⟨none,[.sl 17,.tk 68],none,none,.st 2⟩]) (.seq (.reg false [I_ 70 [.sl 7] .mv,
 I_ 71 [.tv 17] (.ld (.str 2)),I_ 72 [.cv (.func 68 [] []),.sl 70,.sl 71] (.call 3),I_ 69 [.tk 72] .mv,I_ 73 [.sl 69] (.ext 0),I_ 74 [.tv 69] (.ext 1),I_ 18 [.tk 73] .mv,I_ 19 [.tk 74] .mv]) (.seq (.seq (.reg false [I_
 75 [.tk 18] .mv,I_ 76 [.tk 15] .mv,I_ 77 [.tv 75,.tv 76] (.bin .neq)]) (.cond (.sl 77) (.seq (.reg false [I_ 4 [.cv (.int .i64 0)] .mv,I_ 5 [.cv (.int .i64 0)] .mv,I_ 6 [.cv (.int .i64 27)] .mv]) .ret) .skip)) (.reg false
 [I_ 78 [.tk 19] .mv,I_ 15 [.tk 78] .mv]))))) (.reg false [I_ 79 [.tv 65,.cv (.int .i64 1)] (.bin .add),I_ 65 [.tk 79] .mv]))))
noncomputable def xrc18:RC :=
 .seq (.reg false [I_ 2 [.tk 0] .box,I_ 4 [.cv (.int .i64 0)] .mv,I_ 5 [.cv (.int .i64 0)] .mv,I_ 6 [.cv (.int .i64 0)] .mv]) (.seq (.reg false [I_ 21 [.sl 2] (.ld (.str 2)),I_ 22 [.cv (.func 64 [] []),.sl 21] (.call 3),I_
 20 [.tk 22] .mv,I_ 23 [.sl 20] (.ext 0),I_ 24 [.tv 20] (.ext 1),I_ 7 [.tk 23] .mv,I_ 8 [.tk 24] .mv]) (.seq (.reg false [I_ 25 [.tv 2] (.mkF 65 0 1),I_ 9 [.tk 25] .mv]) (.seq (.block 0 (.seq (.reg false [I_ 27 [.sl 8] .mv,
 I_ 28 [.tv 27,.cv (.int .i64 0)] (.bin .neq),I_ 26 [.tk 28] .mv]) (.cond (.sl 26) (.seq (.reg false [I_ 29 [.tk 8] .mv,I_ 4 [.cv (.int .i64 0)] .mv,I_ 5 [.cv (.int .i64 0)] .mv,I_ 6 [.tk 29] .mv]) .ret) (.seq (.reg false
 [I_ 31 [.sl 1] .mv,I_ 32 [.tk 31] .lenS,I_ 33 [.tv 32,.cv (.int .i64 0)] (.bin .eql),I_ 30 [.tk 33] .mv]) (.cond (.sl 30) (.seq (.reg false [I_ 4 [.cv (.int .i64 0)] .mv,I_ 5 [.cv (.int .i64 0)] .mv,I_ 6 [.cv (.int .i64
 6)] .mv]) .ret) (.seq (.reg false [I_ 35 [.sl 1] .mv,I_ 36 [.tk 9] .mv,I_ 37 [.cv (.func 67 [] []),.sl 35,.sl 36] (.call 6),I_ 34 [.tk 37] .mv]) (.cond (.sl 34) (.seq (.reg false [I_ 4 [.cv (.int .i64 0)] .mv,I_ 5 [.cv
 (.int .i64 0)] .mv,I_ 6 [.cv (.int .i64 3)] .mv]) .ret) .skip))))))) (.seq (.reg false [I_ 10 [] (.alloc [.int .i64 0,.int .i64 0,.int .i64 0,.int .i64 0,.int .i64 0,.int .i64 0,.int .i64 0,.int .i64 0,.int .i64 0,
 .int .i64 0])]) (.seq (.reg false [I_ 38 [.sl 10] (.other (Oper.mk (some 38) (Op.slice 89 (Operand.tmp 10) none none none) 38 "match.go:50" (Array.mk []) none) 0), ⟨none, [.tk 38], none, none, .other (Oper.mk none (Op.call
 (Call.mk (Callee.builtin Builtin.clear) (Array.mk [Operand.tmp 38]) (Array.mk [38]))) 0 "match.go:50" (Array.mk [Edge.mk 0 Ground.data]) none) 0⟩]) (.seq (.seq (.reg false [I_ 39 [.sl 1] .mv, I_ 40 [.sl 39] .lenS, I_ 41 [.cv
 (.int .i64 0)] .mv]) (.block 1 xrc18_1)) (.seq (.reg false [I_ 55 [.sl 7] .mv,I_ 56 [.sl 1] .mv,I_ 57 [.tv 56,.cv (.int .i64 0)] (.ia 2),I_ 58 [.tv 57] (.ld (.str 2)),I_ 59 [.cv (.func 68 [] []),.sl 55,.sl 58] (.call 3),
 I_ 54 [.tk 59] .mv,I_ 60 [.sl 54] (.ext 0),I_ 61 [.tv 54] (.ext 1),I_ 13 [.tk 60] .mv,I_ 14 [.tk 61] .mv]) (.seq (.reg false [I_ 62 [.sl 13] .mv,I_ 15 [.tk 62] .mv]) (.seq (.seq (.reg false [I_ 63 [.tk 1] .mv,I_ 64 [.sl
 63] .lenS,I_ 65 [.cv (.int .i64 0)] .mv]) (.block 3 xrc18_2)) (.seq (.reg false [I_ 80 [.tk 13] .mv,I_ 81 [.tk 15] .mv,I_ 4 [.tk 80] .mv,I_ 5 [.tk 81] .mv,I_ 6 [.cv (.int .i64 0)] .mv]) .ret))))))))))
theorem lxx18:linkF Tryz.prog ann18 18=some (xrc18,82,[.tmp 4,.tmp 5,.tmp 6]):=by kernel_rfl
def x18_l1 (row:(List (Int×Int))) (kl1_0:Unit→Option (Int×Int×Int)):Nat→Int→(List Int)→Option (Int×Int×Int)
 | 0,_,_=>none
 | m+1,s1,s2 =>
   if (decide (s1<(row.length:Int)))=true then
    gd (0≤s1∧s1<(row.length:Int)) <|
    gd (0≤(ix row s1).1∧(ix row s1).1<(10:Int)∧10=s2.length) <|
    if (decide ((0:Int)<(ix s2 ((ix row s1).1))))=true then
     some ((0:Int),(0:Int),(11:Int))
    else
     gd (0≤(ix row s1).1∧(ix row s1).1<(10:Int)∧10=s2.length) <|
     x18_l1 row kl1_0 m (w (s1+(1:Int))) (s2.set ((ix row s1).1).toNat (1:Int))
   else
    kl1_0 ()
def x18_l2 (row:(List (Int×Int))) (kl2_0:Unit→Option (Int×Int×Int)):Nat→Int→(List Int)→Option (Int×Int×Int)
 | 0,_,_=>none
 | m+1,s3,s4 =>
   if (decide (s3<(row.length:Int)))=true then
    gd (0≤s3∧s3<(row.length:Int)) <|
    gd (0≤(ix row s3).1∧(ix row s3).1<(10:Int)∧10=s4.length) <|
    if (decide ((0:Int)<(ix s4 ((ix row s3).1))))=true then
     some ((0:Int),(0:Int),(11:Int))
    else
     gd (0≤(ix row s3).1∧(ix row s3).1<(10:Int)∧10=s4.length) <|
     x18_l2 row kl2_0 m (w (s3+(1:Int))) (s4.set ((ix row s3).1).toNat (1:Int))
   else
    kl2_0 ()
def x18_l3 (row:(List (Int×Int))) (p1:(Int×(List (Int×Int)))) (kl3_0:Int→Option (Int×Int×Int)):Nat→Int→Int→Option (Int×Int×Int)
 | 0,_,_=>none
 | m+1,s5,s6 =>
   if (decide (s6<(row.length:Int)))=true then
    gd (0≤s6∧s6<(row.length:Int)) <|
    (x68 p1 (ix row s6)).bind fun r5 =>
    if (decide (r5.1≠s5))=true then
     some ((0:Int),(0:Int),(27:Int))
    else
     x18_l3 row p1 kl3_0 m r5.2 (w (s6+(1:Int)))
   else
    kl3_0 s5
def x18 (b:(Int×(List (Int×Int)))) (row:(List (Int×Int))):Option (Int×Int×Int) :=
 (x64 b).bind fun r1 =>
 match r1 with
 | (none,q1) =>
   if (decide (q1≠(0:Int)))=true then
    some ((0:Int),(0:Int),q1)
   else
    if (decide ((row.length:Int)=(0:Int)))=true then
     some ((0:Int),(0:Int),(6:Int))
    else
     (x67 row (fun y0=>x65 y0 b)).bind fun r2 =>
     if r2=true then
      some ((0:Int),(0:Int),(3:Int))
     else
      gd ((List.replicate 10 (0:Int)).length=10) <|
      x18_l1 row (fun _ =>
        gd (0≤(0:Int)∧(0:Int)<(row.length:Int)) <|
        none) FU (0:Int) (List.replicate 10 (0:Int))
 | (some p1,q1) =>
   if (decide (q1≠(0:Int)))=true then
    some ((0:Int),(0:Int),q1)
   else
    if (decide ((row.length:Int)=(0:Int)))=true then
     some ((0:Int),(0:Int),(6:Int))
    else
     (x67 row (fun y0=>x65 y0 b)).bind fun r3 =>
     if r3=true then
      some ((0:Int),(0:Int),(3:Int))
     else
      gd ((List.replicate 10 (0:Int)).length=10) <|
      x18_l2 row (fun _ =>
        gd (0≤(0:Int)∧(0:Int)<(row.length:Int)) <|
        (x68 p1 (ix row (0:Int))).bind fun r4 =>
        x18_l3 row p1 (fun z1 =>
          some (r4.1,z1,(0:Int))) FU r4.1 (0:Int)) FU (0:Int) (List.replicate 10 (0:Int))
theorem x18_l1_ok {row:(List (Int×Int))} {kl1_0:Unit→Option (Int×Int×Int)} {s1:Int} {s2:(List Int)} {v:(Int×Int×Int)} {Q:Ex→List AV→List AObj→Prop} {o1:AObj}  (hR:∀ T H,RetW [.tmp 4,.tmp 5,.tmp 6] (.tuple [(I v.1),(I v.2.1),(I v.2.2)]) .ret T H→Q .ret T H) (hkl1_0:∀ (u0:AV) (u2:AV) (u4:AV) (u5:AV) (u6:AV) (u8:AV) (u9:AV) (u10:AV) (u12:AV) (u13:AV) (u14:AV) (u15:AV) (u17:AV) (u18:AV) (u19:AV) (u20:AV) (u21:AV) (u22:AV) (u23:AV) (u24:AV) (u25:AV) (u26:AV) (u27:AV) (u28:AV) (u29:AV) (u30:AV) (u31:AV) (u32:AV) (u33:AV) (u34:AV) (u35:AV) (u36:AV) (u37:AV) (u38:AV) (u39:AV) (u40:AV) (u41:AV) (u42:AV) (u43:AV) (u44:AV) (u45:AV) (u46:AV) (u47:AV) (u48:AV) (u49:AV) (u50:AV) (u51:AV) (u52:AV) (u53:AV) (u54:AV) (u55:AV) (u56:AV) (u57:AV) (u58:AV) (u59:AV) (u60:AV) (u61:AV) (u62:AV) (u63:AV) (u64:AV) (u65:AV) (u66:AV) (u67:AV) (u68:AV) (u69:AV) (u70:AV) (u71:AV) (u72:AV) (u73:AV) (u74:AV) (u75:AV) (u76:AV) (u77:AV) (u78:AV) (u79:AV) (u80:AV) (u81:AV) (o2:AObj) (Yq:List AObj),kl1_0 ()=some v→Q (.exit 1) [u0,(.lst (row.flatMap pr) row.length .shared),u2,J,u4,u5,u6,.nilp,u8,u9,u10,J,u12,u13,u14,u15,J,u17,u18,u19,u20,u21,u22,u23,u24,u25,u26,u27,u28,u29,u30,u31,u32,u33,u34,u35,u36,u37,u38,u39,u40,u41,u42,u43,u44,u45,u46,u47,u48,u49,u50,u51,u52,u53,u54,u55,u56,u57,u58,u59,u60,u61,u62,u63,u64,u65,u66,u67,u68,u69,u70,u71,u72,u73,u74,u75,u76,u77,u78,u79,u80,u81] (o1::o2::Yq)) {T:List AV} (hT:zipKeep [o_,i_,o_,o_,o_,o_,o_,i_,o_,o_,i_,o_,o_,o_,o_,o_,o_,o_,o_,o_,o_,o_,o_,o_,o_,o_,o_,o_,o_,o_,o_,o_,o_,o_,o_,o_,o_,o_,o_,i_,i_,i_,o_,o_,o_,o_,o_,o_,o_,o_,o_,o_,o_,o_,o_,o_,o_,o_,o_,o_,o_,o_,o_,o_,o_,o_,o_,o_,o_,o_,o_,o_,o_,o_,o_,o_,o_,o_,o_,o_,o_,o_] T=slots 82 [(1,(.lst (row.flatMap pr) row.length .shared)),(7,.nilp),(10,(.ptr 1 0)),(39,(.lst (row.flatMap pr) row.length .shared)),(40,(I (row.length:Int))),(41,(I s1))]) (h:x18_l1 row kl1_0 FU s1 s2=some v) :
  wpR Tryz.prog ann18 18 0 none xrc18_1 T [o1,AObj.cells (s2.map I)] Q:=by
 unfold xrc18_1
 skip
 refine wp_loop hT ?_
 refine .intro (fun m T H=>∃ (s1:Int) (s2:(List Int)) (Y18_1:List AObj),T=slots 82 [(1,(.lst (row.flatMap pr) row.length .shared)),(7,.nilp),(10,(.ptr 1 0)),(39,(.lst (row.flatMap pr) row.length .shared)),(40,(I (row.length:Int))),(41,(I s1))]∧H=(o1::AObj.cells (s2.map I)::Y18_1)∧x18_l1 row kl1_0 m s1 s2=some v) FU ⟨s1,s2,[],rfl,rfl,h⟩ ?_
 clear h hT
 rintro m T H ⟨s1,s2,Y18_1,rfl,rfl,h⟩
 cases m
 ·exact none_ne h
 rename_i m
 rw [x18_l1.eq_2] at h
 conv=>whnf
 rcases bt (decide (s1<(row.length:Int))) with hb6 | hb6
 ·rw [hb6]
  conv=>whnf
  replace h:=it_t hb6 h
  obtain ⟨hb7,h⟩:=gd_some h
  refine ⟨hb7,?_⟩
  rw [dropS pr 2 pr_len row s1 hb7]
  conv=>whnf
  refine nthK_of (x:=AObj.cells [(I (0:Int)),(I (0:Int))]) (by first | with_reducible exact get_concat _ _ | exact get_concat _ _ | exact ga (get_concat _ _) | rfl | (simp [List.getElem?_append,AV.settle];done)) ?_
  conv=>whnf
  rw [set_concat]
  refine nthK_of (x:=AObj.cells [(I (ix row s1).1),(I (ix row s1).2)]) (by first | with_reducible exact get_concat _ _ | exact get_concat _ _ | exact ga (get_concat _ _) | rfl | (simp [List.getElem?_append,AV.settle];done)) ?_
  conv=>whnf
  obtain ⟨hb8,h⟩:=gd_some h
  refine ⟨⟨hb8.1,hb8.2.1⟩,?_⟩
  replace hb8:0≤(ix row s1).1∧(ix row s1).1<(s2.length:Int):=⟨hb8.1,by have:=hb8.2;omega⟩
  conv=>whnf
  refine rdD I s2 ((ix row s1).1) hb8 ?_
  conv=>whnf
  rcases bt (decide ((0:Int)<(ix s2 ((ix row s1).1)))) with hb9 | hb9
  ·rw [hb9]
   conv=>whnf
   replace h:=it_t hb9 h
   obtain rfl:=Option.some.inj h
   exact hR _ _ ⟨.inr rfl,_,rfl,_,frz_pure (pu_tup (allc rfl (allc rfl (allc rfl rfl)))),rfl⟩
  ·rw [hb9]
   conv=>whnf
   replace h:=it_f hb9 h
   refine nthK_of (x:=AObj.cells [(I (ix row s1).1),(I (ix row s1).2)]) (by first | with_reducible exact get_concat _ _ | exact get_concat _ _ | exact ga (get_concat _ _) | rfl | (simp [List.getElem?_append,AV.settle];done)) ?_
   conv=>whnf
   obtain ⟨hb10,h⟩:=gd_some h
   refine ⟨⟨hb10.1,hb10.2.1⟩,?_⟩
   replace hb10:0≤(ix row s1).1∧(ix row s1).1<(s2.length:Int):=⟨hb10.1,by have:=hb10.2;omega⟩
   conv=>whnf
   refine updD I s2 ((ix row s1).1) (1:Int) hb10 ?_
   conv=>whnf
   exact ⟨m,Nat.lt_succ_self m,(w (s1+(1:Int))),(s2.set ((ix row s1).1).toNat (1:Int)),_,rfl,rfl,h⟩
 ·rw [hb6]
  conv=>whnf
  replace h:=it_f hb6 h
  exact hkl1_0 _ _ _ _ _ _ _ _ _ _ _ _ _ _ _ _ _ _ _ _ _ _ _ _ _ _ _ _ _ _ _ _ _ _ _ _ _ _ _ _ _ _ _ _ _ _ _ _ _ _ _ _ _ _ _ _ _ _ _ _ _ _ _ _ _ _ _ _ _ _ _ _ _ _ _ _ _ _ _ h
theorem x18_l2_ok {row:(List (Int×Int))} {kl2_0:Unit→Option (Int×Int×Int)} {s3:Int} {s4:(List Int)} {p1:(Int×(List (Int×Int)))} {v:(Int×Int×Int)} {Q:Ex→List AV→List AObj→Prop} {o1:AObj}  (hR:∀ T H,RetW [.tmp 4,.tmp 5,.tmp 6] (.tuple [(I v.1),(I v.2.1),(I v.2.2)]) .ret T H→Q .ret T H) (hkl2_0:∀ (u0:AV) (u2:AV) (u4:AV) (u5:AV) (u6:AV) (u8:AV) (u9:AV) (u10:AV) (u12:AV) (u13:AV) (u14:AV) (u15:AV) (u17:AV) (u18:AV) (u19:AV) (u20:AV) (u21:AV) (u22:AV) (u23:AV) (u24:AV) (u25:AV) (u26:AV) (u27:AV) (u28:AV) (u29:AV) (u30:AV) (u31:AV) (u32:AV) (u33:AV) (u34:AV) (u35:AV) (u36:AV) (u37:AV) (u38:AV) (u39:AV) (u40:AV) (u41:AV) (u42:AV) (u43:AV) (u44:AV) (u45:AV) (u46:AV) (u47:AV) (u48:AV) (u49:AV) (u50:AV) (u51:AV) (u52:AV) (u53:AV) (u54:AV) (u55:AV) (u56:AV) (u57:AV) (u58:AV) (u59:AV) (u60:AV) (u61:AV) (u62:AV) (u63:AV) (u64:AV) (u65:AV) (u66:AV) (u67:AV) (u68:AV) (u69:AV) (u70:AV) (u71:AV) (u72:AV) (u73:AV) (u74:AV) (u75:AV) (u76:AV) (u77:AV) (u78:AV) (u79:AV) (u80:AV) (u81:AV) (o4:AObj) (Yq:List AObj),kl2_0 ()=some v→Q (.exit 1) [u0,(.lst (row.flatMap pr) row.length .shared),u2,J,u4,u5,u6,(.lptr [(I p1.1),(.lst (p1.2.flatMap pr) p1.2.length .shared)]),u8,u9,u10,J,u12,u13,u14,u15,J,u17,u18,u19,u20,u21,u22,u23,u24,u25,u26,u27,u28,u29,u30,u31,u32,u33,u34,u35,u36,u37,u38,u39,u40,u41,u42,u43,u44,u45,u46,u47,u48,u49,u50,u51,u52,u53,u54,u55,u56,u57,u58,u59,u60,u61,u62,u63,u64,u65,u66,u67,u68,u69,u70,u71,u72,u73,u74,u75,u76,u77,u78,u79,u80,u81] (o1::o4::Yq)) {T:List AV} (hT:zipKeep [o_,i_,o_,o_,o_,o_,o_,i_,o_,o_,i_,o_,o_,o_,o_,o_,o_,o_,o_,o_,o_,o_,o_,o_,o_,o_,o_,o_,o_,o_,o_,o_,o_,o_,o_,o_,o_,o_,o_,i_,i_,i_,o_,o_,o_,o_,o_,o_,o_,o_,o_,o_,o_,o_,o_,o_,o_,o_,o_,o_,o_,o_,o_,o_,o_,o_,o_,o_,o_,o_,o_,o_,o_,o_,o_,o_,o_,o_,o_,o_,o_,o_] T=slots 82 [(1,(.lst (row.flatMap pr) row.length .shared)),(7,(.lptr [(I p1.1),(.lst (p1.2.flatMap pr) p1.2.length .shared)])),(10,(.ptr 1 0)),(39,(.lst (row.flatMap pr) row.length .shared)),(40,(I (row.length:Int))),(41,(I s3))]) (h:x18_l2 row kl2_0 FU s3 s4=some v) :
  wpR Tryz.prog ann18 18 0 none xrc18_1 T [o1,AObj.cells (s4.map I)] Q:=by
 unfold xrc18_1
 skip
 refine wp_loop hT ?_
 refine .intro (fun m T H=>∃ (s3:Int) (s4:(List Int)) (Y18_1:List AObj),T=slots 82 [(1,(.lst (row.flatMap pr) row.length .shared)),(7,(.lptr [(I p1.1),(.lst (p1.2.flatMap pr) p1.2.length .shared)])),(10,(.ptr 1 0)),(39,(.lst (row.flatMap pr) row.length .shared)),(40,(I (row.length:Int))),(41,(I s3))]∧H=(o1::AObj.cells (s4.map I)::Y18_1)∧x18_l2 row kl2_0 m s3 s4=some v) FU ⟨s3,s4,[],rfl,rfl,h⟩ ?_
 clear h hT
 rintro m T H ⟨s3,s4,Y18_1,rfl,rfl,h⟩
 cases m
 ·exact none_ne h
 rename_i m
 rw [x18_l2.eq_2] at h
 conv=>whnf
 rcases bt (decide (s3<(row.length:Int))) with hb16 | hb16
 ·rw [hb16]
  conv=>whnf
  replace h:=it_t hb16 h
  obtain ⟨hb17,h⟩:=gd_some h
  refine ⟨hb17,?_⟩
  rw [dropS pr 2 pr_len row s3 hb17]
  conv=>whnf
  refine nthK_of (x:=AObj.cells [(I (0:Int)),(I (0:Int))]) (by first | with_reducible exact get_concat _ _ | exact get_concat _ _ | exact ga (get_concat _ _) | rfl | (simp [List.getElem?_append,AV.settle];done)) ?_
  conv=>whnf
  rw [set_concat]
  refine nthK_of (x:=AObj.cells [(I (ix row s3).1),(I (ix row s3).2)]) (by first | with_reducible exact get_concat _ _ | exact get_concat _ _ | exact ga (get_concat _ _) | rfl | (simp [List.getElem?_append,AV.settle];done)) ?_
  conv=>whnf
  obtain ⟨hb18,h⟩:=gd_some h
  refine ⟨⟨hb18.1,hb18.2.1⟩,?_⟩
  replace hb18:0≤(ix row s3).1∧(ix row s3).1<(s4.length:Int):=⟨hb18.1,by have:=hb18.2;omega⟩
  conv=>whnf
  refine rdD I s4 ((ix row s3).1) hb18 ?_
  conv=>whnf
  rcases bt (decide ((0:Int)<(ix s4 ((ix row s3).1)))) with hb19 | hb19
  ·rw [hb19]
   conv=>whnf
   replace h:=it_t hb19 h
   obtain rfl:=Option.some.inj h
   exact hR _ _ ⟨.inr rfl,_,rfl,_,frz_pure (pu_tup (allc rfl (allc rfl (allc rfl rfl)))),rfl⟩
  ·rw [hb19]
   conv=>whnf
   replace h:=it_f hb19 h
   refine nthK_of (x:=AObj.cells [(I (ix row s3).1),(I (ix row s3).2)]) (by first | with_reducible exact get_concat _ _ | exact get_concat _ _ | exact ga (get_concat _ _) | rfl | (simp [List.getElem?_append,AV.settle];done)) ?_
   conv=>whnf
   obtain ⟨hb20,h⟩:=gd_some h
   refine ⟨⟨hb20.1,hb20.2.1⟩,?_⟩
   replace hb20:0≤(ix row s3).1∧(ix row s3).1<(s4.length:Int):=⟨hb20.1,by have:=hb20.2;omega⟩
   conv=>whnf
   refine updD I s4 ((ix row s3).1) (1:Int) hb20 ?_
   conv=>whnf
   exact ⟨m,Nat.lt_succ_self m,(w (s3+(1:Int))),(s4.set ((ix row s3).1).toNat (1:Int)),_,rfl,rfl,h⟩
 ·rw [hb16]
  conv=>whnf
  replace h:=it_f hb16 h
  exact hkl2_0 _ _ _ _ _ _ _ _ _ _ _ _ _ _ _ _ _ _ _ _ _ _ _ _ _ _ _ _ _ _ _ _ _ _ _ _ _ _ _ _ _ _ _ _ _ _ _ _ _ _ _ _ _ _ _ _ _ _ _ _ _ _ _ _ _ _ _ _ _ _ _ _ _ _ _ _ _ _ _ h
theorem x18_l3_ok {row:(List (Int×Int))} {p1:(Int×(List (Int×Int)))} {kl3_0:Int→Option (Int×Int×Int)} {s5:Int} {s6:Int} {r4:(Int×Int)} {v:(Int×Int×Int)} {Q:Ex→List AV→List AObj→Prop} {o1:AObj} {o4:AObj} {Yq:List AObj} (hR:∀ T H,RetW [.tmp 4,.tmp 5,.tmp 6] (.tuple [(I v.1),(I v.2.1),(I v.2.2)]) .ret T H→Q .ret T H) (hkl3_0:∀ (z1:Int) (u0:AV) (u1:AV) (u2:AV) (u4:AV) (u5:AV) (u6:AV) (u7:AV) (u8:AV) (u9:AV) (u10:AV) (u12:AV) (u14:AV) (u17:AV) (u18:AV) (u19:AV) (u20:AV) (u21:AV) (u22:AV) (u23:AV) (u24:AV) (u25:AV) (u26:AV) (u27:AV) (u28:AV) (u29:AV) (u30:AV) (u31:AV) (u32:AV) (u33:AV) (u34:AV) (u35:AV) (u36:AV) (u37:AV) (u38:AV) (u39:AV) (u40:AV) (u41:AV) (u42:AV) (u43:AV) (u44:AV) (u45:AV) (u46:AV) (u47:AV) (u48:AV) (u49:AV) (u50:AV) (u51:AV) (u52:AV) (u53:AV) (u54:AV) (u55:AV) (u56:AV) (u57:AV) (u58:AV) (u59:AV) (u60:AV) (u61:AV) (u62:AV) (u63:AV) (u64:AV) (u65:AV) (u66:AV) (u67:AV) (u68:AV) (u69:AV) (u70:AV) (u71:AV) (u72:AV) (u73:AV) (u74:AV) (u75:AV) (u76:AV) (u77:AV) (u78:AV) (u79:AV) (u80:AV) (u81:AV) (Yq:List AObj),kl3_0 z1=some v→Q (.exit 3) [u0,u1,u2,J,u4,u5,u6,u7,u8,u9,u10,J,u12,(I r4.1),u14,(I z1),J,u17,u18,u19,u20,u21,u22,u23,u24,u25,u26,u27,u28,u29,u30,u31,u32,u33,u34,u35,u36,u37,u38,u39,u40,u41,u42,u43,u44,u45,u46,u47,u48,u49,u50,u51,u52,u53,u54,u55,u56,u57,u58,u59,u60,u61,u62,u63,u64,u65,u66,u67,u68,u69,u70,u71,u72,u73,u74,u75,u76,u77,u78,u79,u80,u81] (o1::o4::Yq)) {T:List AV} (hT:zipKeep [o_,o_,o_,o_,o_,o_,o_,i_,o_,o_,o_,o_,o_,i_,o_,i_,o_,o_,o_,o_,o_,o_,o_,o_,o_,o_,o_,o_,o_,o_,o_,o_,o_,o_,o_,o_,o_,o_,o_,o_,o_,o_,o_,o_,o_,o_,o_,o_,o_,o_,o_,o_,o_,o_,o_,o_,o_,o_,o_,o_,o_,o_,o_,i_,i_,i_,o_,o_,o_,o_,o_,o_,o_,o_,o_,o_,o_,o_,o_,o_,o_,o_] T=slots 82 [(7,(.lptr [(I p1.1),(.lst (p1.2.flatMap pr) p1.2.length .shared)])),(13,(I r4.1)),(15,(I s5)),(63,(.lst (row.flatMap pr) row.length .shared)),(64,(I (row.length:Int))),(65,(I s6))]) (h:x18_l3 row p1 kl3_0 FU s5 s6=some v) :
  wpR Tryz.prog ann18 18 0 none xrc18_2 T (o1::o4::Yq) Q:=by
 unfold xrc18_2
 skip
 refine wp_loop hT ?_
 refine .intro (fun m T H=>∃ (s5:Int) (s6:Int) (Y18_2:List AObj),T=slots 82 [(7,(.lptr [(I p1.1),(.lst (p1.2.flatMap pr) p1.2.length .shared)])),(13,(I r4.1)),(15,(I s5)),(63,(.lst (row.flatMap pr) row.length .shared)),(64,(I (row.length:Int))),(65,(I s6))]∧H=(o1::o4::Y18_2)∧x18_l3 row p1 kl3_0 m s5 s6=some v) FU ⟨s5,s6,Yq,rfl,rfl,h⟩ ?_
 clear h hT
 rintro m T H ⟨s5,s6,Y18_2,rfl,rfl,h⟩
 cases m
 ·exact none_ne h
 rename_i m
 rw [x18_l3.eq_2] at h
 conv=>whnf
 rcases bt (decide (s6<(row.length:Int))) with hb23 | hb23
 ·rw [hb23]
  conv=>whnf
  replace h:=it_t hb23 h
  obtain ⟨hb24,h⟩:=gd_some h
  refine ⟨hb24,?_⟩
  rw [dropS pr 2 pr_len row s6 hb24]
  conv=>whnf
  refine nthK_of (x:=AObj.cells [(I (0:Int)),(I (0:Int))]) (by first | with_reducible exact get_concat _ _ | exact get_concat _ _ | exact ga (get_concat _ _) | rfl | (simp [List.getElem?_append,AV.settle];done)) ?_
  conv=>whnf
  rw [set_concat]
  refine nthK_of (x:=AObj.cells [(I (ix row s6).1),(I (ix row s6).2)]) (by first | with_reducible exact get_concat _ _ | exact get_concat _ _ | exact ga (get_concat _ _) | rfl | (simp [List.getElem?_append,AV.settle];done)) ?_
  conv=>whnf
  obtain ⟨r5,hb25,h⟩:=bd_some h
  refine ⟨(allc (pu_lptr (allc rfl (allc (pu_flat (fun _=>(allc rfl (allc rfl rfl))) _ _ _) rfl))) (allc (pu_agg (allc rfl (allc rfl rfl))) rfl)),_,x68_ok hb25,?_⟩
  conv=>whnf
  rcases bt (decide (r5.1≠s5)) with hb26 | hb26
  ·rw [hb26]
   conv=>whnf
   replace h:=it_t hb26 h
   obtain rfl:=Option.some.inj h
   exact hR _ _ ⟨.inr rfl,_,rfl,_,frz_pure (pu_tup (allc rfl (allc rfl (allc rfl rfl)))),rfl⟩
  ·rw [hb26]
   conv=>whnf
   replace h:=it_f hb26 h
   exact ⟨m,Nat.lt_succ_self m,r5.2,(w (s6+(1:Int))),_,rfl,rfl,h⟩
 ·rw [hb23]
  conv=>whnf
  replace h:=it_f hb23 h
  exact hkl3_0 _ _ _ _ _ _ _ _ _ _ _ _ _ _ _ _ _ _ _ _ _ _ _ _ _ _ _ _ _ _ _ _ _ _ _ _ _ _ _ _ _ _ _ _ _ _ _ _ _ _ _ _ _ _ _ _ _ _ _ _ _ _ _ _ _ _ _ _ _ _ _ _ _ _ _ _ _ _ _ h
theorem x18_ok {b:(Int×(List (Int×Int)))} {row:(List (Int×Int))} {v:(Int×Int×Int)} (h:x18 b row=some v):PO 18 [(.agg [(I b.1),(.lst (b.2.flatMap pr) b.2.length .shared)]),(.lst (row.flatMap pr) row.length .shared)] (.tuple [(I v.1),(I v.2.1),(I v.2.2)]):=by
 refine fn_pureW hmix lxx18 rfl (pu_tup (allc rfl (allc rfl (allc rfl rfl)))) fun Q hQ=>?_
 have hR:∀ T H,RetW [.tmp 4,.tmp 5,.tmp 6] (.tuple [(I v.1),(I v.2.1),(I v.2.2)]) .ret T H→Q .ret T H:=fun T H hh=>hQ _ T H hh
 unfold x18 at h
 unfold xrc18
 obtain ⟨c_1,g_1⟩:∃ c,xrc18_1=c:=⟨_,rfl⟩
 rw [g_1]
 obtain ⟨c_2,g_2⟩:∃ c,xrc18_2=c:=⟨_,rfl⟩
 rw [g_2]
 conv=>whnf
 obtain ⟨r1,hb1,h⟩:=bd_some h
 rcases r1 with ⟨_ | p1,q1⟩
 ·refine ⟨(allc (pu_agg (allc rfl (allc (pu_flat (fun _=>(allc rfl (allc rfl rfl))) _ _ _) rfl))) rfl),_,x64_ok hb1,?_⟩
  conv=>whnf
  rcases bt (decide (q1≠(0:Int))) with hb2 | hb2
  ·rw [hb2]
   conv=>whnf
   replace h:=it_t hb2 h
   obtain rfl:=Option.some.inj h
   exact hR _ _ ⟨.inr rfl,_,rfl,_,frz_pure (pu_tup (allc rfl (allc rfl (allc rfl rfl)))),rfl⟩
  ·rw [hb2]
   conv=>whnf
   replace h:=it_f hb2 h
   rcases bt (decide ((row.length:Int)=(0:Int))) with hb3 | hb3
   ·rw [hb3]
    conv=>whnf
    replace h:=it_t hb3 h
    obtain rfl:=Option.some.inj h
    exact hR _ _ ⟨.inr rfl,_,rfl,_,frz_pure (pu_tup (allc rfl (allc rfl (allc rfl rfl)))),rfl⟩
   ·rw [hb3]
    conv=>whnf
    replace h:=it_f hb3 h
    obtain ⟨r2,hb4,h⟩:=bd_some h
    refine ⟨_,_,call6' (cs:=[(.lst (row.flatMap pr) row.length .shared),(.func 65 [] [(.lptr [(I b.1),(.lst (b.2.flatMap pr) b.2.length .shared)])])]) (bs:=[(.lst (row.flatMap pr) row.length .shared),(.func 65 [] [(.lptr [(I b.1),(.lst (b.2.flatMap pr) b.2.length .shared)])])]) (map_cons' rfl (map_cons' (shz_func map_nil' (map_cons' (shz0_ptr' (cs:=[(I b.1),(.lst (b.2.flatMap pr) b.2.length .shared)]) (by first | with_reducible exact get_concat _ _ | exact get_concat _ _ | exact ga (get_concat _ _) | rfl | (simp [List.getElem?_append,AV.settle];done)) rfl) map_nil')) map_nil')) (by rfl) (by exact (allc (pu_flat (fun _=>(allc rfl (allc rfl rfl))) _ _ _) (allc (pu_fn rfl (allc (pu_lptr (allc rfl (allc (pu_flat (fun _=>(allc rfl (allc rfl rfl))) _ _ _) rfl))) rfl)) rfl))) (x67_ok ⟨(allc (pu_lptr (allc rfl (allc (pu_flat (fun _=>(allc rfl (allc rfl rfl))) _ _ _) rfl))) rfl),by simp⟩ (fun _ _ hy=>x65_ok hy) hb4) rfl,?_⟩
    conv=>whnf
    cases r2
    ·conv=>whnf
     replace h:=it_f rfl h
     refine ⟨_,_,fun C=>opAll_slA rfl (e:=3) (len:=10) (by kernel_rfl) (by kernel_rfl) (by decide),?_⟩
     conv=>whnf
     obtain ⟨hb5,h⟩:=gd_some h
     refine ⟨_,_,fun C=>(opAll_clear rfl).trans (clear_all (e:=3) (l:=(List.replicate 10 (0:Int))) (by kernel_rfl) (by kernel_rfl) (by kernel_rfl) (Nat.zero_le _) (by first | with_reducible exact get_concat _ _ | exact get_concat _ _ | exact ga (get_concat _ _) | rfl | (simp [List.getElem?_append,AV.settle];done)) hb5),?_⟩
     conv=>whnf
     subst g_1
     refine x18_l1_ok ?_ ?_ (by exact rfl) h
     ·exact fun T H hh=>hR T H hh
     ·intro u0 u2 u4 u5 u6 u8 u9 u10 u12 u13 u14 u15 u17 u18 u19 u20 u21 u22 u23 u24 u25 u26 u27 u28 u29 u30 u31 u32 u33 u34 u35 u36 u37 u38 u39 u40 u41 u42 u43 u44 u45 u46 u47 u48 u49 u50 u51 u52 u53 u54 u55 u56 u57 u58 u59 u60 u61 u62 u63 u64 u65 u66 u67 u68 u69 u70 u71 u72 u73 u74 u75 u76 u77 u78 u79 u80 u81 o2 Yq h
      conv=>whnf
      obtain ⟨hb11,h⟩:=gd_some h
      refine ⟨hb11,?_⟩
      rw [dropS pr 2 pr_len row (0:Int) hb11]
      conv=>whnf
      exact none_ne h
    ·conv=>whnf
     replace h:=it_t rfl h
     obtain rfl:=Option.some.inj h
     exact hR _ _ ⟨.inr rfl,_,rfl,_,frz_pure (pu_tup (allc rfl (allc rfl (allc rfl rfl)))),rfl⟩
 ·refine ⟨(allc (pu_agg (allc rfl (allc (pu_flat (fun _=>(allc rfl (allc rfl rfl))) _ _ _) rfl))) rfl),_,x64_ok hb1,?_⟩
  conv=>whnf
  rcases bt (decide (q1≠(0:Int))) with hb12 | hb12
  ·rw [hb12]
   conv=>whnf
   replace h:=it_t hb12 h
   obtain rfl:=Option.some.inj h
   exact hR _ _ ⟨.inr rfl,_,rfl,_,frz_pure (pu_tup (allc rfl (allc rfl (allc rfl rfl)))),rfl⟩
  ·rw [hb12]
   conv=>whnf
   replace h:=it_f hb12 h
   rcases bt (decide ((row.length:Int)=(0:Int))) with hb13 | hb13
   ·rw [hb13]
    conv=>whnf
    replace h:=it_t hb13 h
    obtain rfl:=Option.some.inj h
    exact hR _ _ ⟨.inr rfl,_,rfl,_,frz_pure (pu_tup (allc rfl (allc rfl (allc rfl rfl)))),rfl⟩
   ·rw [hb13]
    conv=>whnf
    replace h:=it_f hb13 h
    obtain ⟨r3,hb14,h⟩:=bd_some h
    refine ⟨_,_,call6' (cs:=[(.lst (row.flatMap pr) row.length .shared),(.func 65 [] [(.lptr [(I b.1),(.lst (b.2.flatMap pr) b.2.length .shared)])])]) (bs:=[(.lst (row.flatMap pr) row.length .shared),(.func 65 [] [(.lptr [(I b.1),(.lst (b.2.flatMap pr) b.2.length .shared)])])]) (map_cons' rfl (map_cons' (shz_func map_nil' (map_cons' (shz0_ptr' (cs:=[(I b.1),(.lst (b.2.flatMap pr) b.2.length .shared)]) (by first | with_reducible exact get_concat _ _ | exact get_concat _ _ | exact ga (get_concat _ _) | rfl | (simp [List.getElem?_append,AV.settle];done)) rfl) map_nil')) map_nil')) (by rfl) (by exact (allc (pu_flat (fun _=>(allc rfl (allc rfl rfl))) _ _ _) (allc (pu_fn rfl (allc (pu_lptr (allc rfl (allc (pu_flat (fun _=>(allc rfl (allc rfl rfl))) _ _ _) rfl))) rfl)) rfl))) (x67_ok ⟨(allc (pu_lptr (allc rfl (allc (pu_flat (fun _=>(allc rfl (allc rfl rfl))) _ _ _) rfl))) rfl),by simp⟩ (fun _ _ hy=>x65_ok hy) hb14) rfl,?_⟩
    conv=>whnf
    cases r3
    ·conv=>whnf
     replace h:=it_f rfl h
     refine ⟨_,_,fun C=>opAll_slA rfl (e:=3) (len:=10) (by kernel_rfl) (by kernel_rfl) (by decide),?_⟩
     conv=>whnf
     obtain ⟨hb15,h⟩:=gd_some h
     refine ⟨_,_,fun C=>(opAll_clear rfl).trans (clear_all (e:=3) (l:=(List.replicate 10 (0:Int))) (by kernel_rfl) (by kernel_rfl) (by kernel_rfl) (Nat.zero_le _) (by first | with_reducible exact get_concat _ _ | exact get_concat _ _ | exact ga (get_concat _ _) | rfl | (simp [List.getElem?_append,AV.settle];done)) hb15),?_⟩
     conv=>whnf
     subst g_1
     refine x18_l2_ok ?_ ?_ (by exact rfl) h
     ·exact fun T H hh=>hR T H hh
     ·intro u0 u2 u4 u5 u6 u8 u9 u10 u12 u13 u14 u15 u17 u18 u19 u20 u21 u22 u23 u24 u25 u26 u27 u28 u29 u30 u31 u32 u33 u34 u35 u36 u37 u38 u39 u40 u41 u42 u43 u44 u45 u46 u47 u48 u49 u50 u51 u52 u53 u54 u55 u56 u57 u58 u59 u60 u61 u62 u63 u64 u65 u66 u67 u68 u69 u70 u71 u72 u73 u74 u75 u76 u77 u78 u79 u80 u81 o4 Yq h
      conv=>whnf
      obtain ⟨hb21,h⟩:=gd_some h
      refine ⟨hb21,?_⟩
      rw [dropS pr 2 pr_len row (0:Int) hb21]
      conv=>whnf
      obtain ⟨r4,hb22,h⟩:=bd_some h
      refine ⟨(allc (pu_lptr (allc rfl (allc (pu_flat (fun _=>(allc rfl (allc rfl rfl))) _ _ _) rfl))) (allc (pu_agg (allc rfl (allc rfl rfl))) rfl)),_,x68_ok hb22,?_⟩
      conv=>whnf
      subst g_2
      refine x18_l3_ok ?_ ?_ (by exact rfl) h
      ·exact fun T H hh=>hR T H hh
      ·intro z1 u0 u1 u2 u4 u5 u6 u7 u8 u9 u10 u12 u14 u17 u18 u19 u20 u21 u22 u23 u24 u25 u26 u27 u28 u29 u30 u31 u32 u33 u34 u35 u36 u37 u38 u39 u40 u41 u42 u43 u44 u45 u46 u47 u48 u49 u50 u51 u52 u53 u54 u55 u56 u57 u58 u59 u60 u61 u62 u63 u64 u65 u66 u67 u68 u69 u70 u71 u72 u73 u74 u75 u76 u77 u78 u79 u80 u81 Yq h
       conv=>whnf
       obtain rfl:=Option.some.inj h
       exact hR _ _ ⟨.inr rfl,_,rfl,_,frz_pure (pu_tup (allc rfl (allc rfl (allc rfl rfl)))),rfl⟩
    ·conv=>whnf
     replace h:=it_t rfl h
     obtain rfl:=Option.some.inj h
     exact hR _ _ ⟨.inr rfl,_,rfl,_,frz_pure (pu_tup (allc rfl (allc rfl (allc rfl rfl)))),rfl⟩

noncomputable def xrc21_1:RC :=
 .loop (some [o_,i_,o_,i_,o_,o_,o_,o_,o_,o_,o_,o_,o_,o_,o_,o_,o_,o_,o_,o_,o_,o_,o_,o_,o_,o_,o_,o_,o_,o_,o_,o_,o_,o_,o_,o_,o_,o_,o_,o_,o_,o_,o_,o_,o_,o_,o_,o_,o_,o_,o_,o_,o_]) (.seq (.seq (.reg false [I_ 19 [.sl 3] .mv,I_ 20 [.sl 1] (.fa 1),I_ 21
 [.tv 20] (.ld .one),I_ 22 [.tk 21] .lenS,I_ 23 [.tv 19,.tv 22] (.bin .lss)]) (.cond (.sl 23) .skip (.exit 0))) (.seq (.block 1 (.seq (.reg false [I_ 26 [.sl 1] (.fa 1),I_ 27 [.tv 26] (.ld .one),I_ 28 [.sl 3] .mv,I_ 29
 [.tv 27,.tv 28] (.ia 2),I_ 30 [.tv 29] (.ld (.str 2)),I_ 4 [] (.alloc [.int .i64 0,.int .i64 0]),⟨none,[.sl 4,.tk 30],none,none,.st 2⟩]) (.seq (.reg false [I_ 31 [.sl 4] (.fa 0),I_ 32 [.tv 31] (.ld .one),I_ 33 [.tv
 32,.cv (.int .i64 0)] (.bin .lss),I_ 34 [.tk 33] .mv,⟨some 35,[.sl 4],some (34,false),none,.fa 0⟩,⟨some 36,[.tv 35],some (34,false),none,.ld .one⟩,⟨some 37,[.sl 1],some (34,false),none,.fa 0⟩,⟨some 38,[.tv
 37],some (34,false),none,.ld .one⟩,⟨some 39,[.tv 36,.tv 38],some (34,false),none,.bin .geq⟩,I_ 40 [.tv 34,.cv (.bool true),.tv 39] .pick,I_ 41 [.tk 40] .mv,⟨some 42,[.sl 4],some (41,false),none,.fa 1⟩,
 ⟨some 43,[.tv 42],some (41,false),none,.ld .one⟩,⟨some 44,[.tv 43,.cv (.int .i64 0)],some (41,false),none,.bin .lss⟩,I_ 45 [.tv 41,.cv (.bool true),.tv 44] .pick,I_ 46 [.tk 45] .mv,⟨some 47,[.tv 4],some (46,
 false),none,.fa 1⟩,⟨some 48,[.tv 47],some (46,false),none,.ld .one⟩,⟨some 49,[.sl 1],some (46,false),none,.fa 0⟩,⟨some 50,[.tv 49],some (46,false),none,.ld .one⟩,⟨some 51,[.tv 48,.tv 50],some (46,
 false),none,.bin .geq⟩,I_ 52 [.tv 46,.cv (.bool true),.tv 51] .pick]) (.cond (.sl 52) (.seq (.reg false [I_ 2 [.cv (.int .i64 3)] .mv]) .ret) .skip)))) (.reg false [I_ 24 [.tk 3] .mv,I_ 25 [.tv 24,.cv (.int .i64 1)]
 (.bin .add),I_ 3 [.tk 25] .mv])))
noncomputable def xrc21:RC :=
 .seq (.reg false [I_ 1 [.tk 0] .box,I_ 2 [.cv (.int .i64 0)] .mv]) (.seq (.seq (.reg false [I_ 5 [.sl 1] (.fa 0),I_ 6 [.tv 5] (.ld .one),I_ 7 [.tv 6,.cv (.int .i64 1)] (.bin .lss),I_ 8 [.tk 7] .mv,⟨some 9,[.sl 1],some (8,
 false),none,.fa 0⟩,⟨some 10,[.tv 9],some (8,false),none,.ld .one⟩,⟨some 11,[.tv 10,.cv (.int .i64 6)],some (8,false),none,.bin .gtr⟩,I_ 12 [.tv 8,.cv (.bool true),.tv 11] .pick,I_ 13 [.tk 12] .mv,⟨some 14,
 [.sl 1],some (13,false),none,.fa 1⟩,⟨some 15,[.tv 14],some (13,false),none,.ld .one⟩,⟨some 16,[.tk 15],some (13,false),none,.lenS⟩,⟨some 17,[.tv 16,.cv (.int .i64 10)],some (13,false),none,.bin .gtr⟩,I_
 18 [.tv 13,.cv (.bool true),.tv 17] .pick]) (.cond (.sl 18) (.seq (.reg false [I_ 2 [.cv (.int .i64 6)] .mv]) .ret) .skip)) (.seq (.seq (.reg false [I_ 3 [.cv (.int .i64 0)] .mv]) (.block 0 xrc21_1)) (.seq (.reg false [I_ 2
 [.cv (.int .i64 0)] .mv]) .ret)))
theorem lxx21:linkF Tryz.prog ann21 21=some (xrc21,53,[.tmp 2]):=by kernel_rfl
def x21_l1 (b:(Int×(List (Int×Int)))) (kl1_0:Unit→Option Int):Nat→Int→Option Int
 | 0,_=>none
 | m+1,s1 =>
   if (decide (s1<(b.2.length:Int)))=true then
    gd (0≤s1∧s1<(b.2.length:Int)) <|
    if (decide ((ix b.2 s1).1<(0:Int)))=true then
     some (3:Int)
    else
     if (decide (b.1≤(ix b.2 s1).1))=true then
      some (3:Int)
     else
      if (decide ((ix b.2 s1).2<(0:Int)))=true then
       some (3:Int)
      else
       if (decide (b.1≤(ix b.2 s1).2))=true then
        some (3:Int)
       else
        x21_l1 b kl1_0 m (w (s1+(1:Int)))
   else
    kl1_0 ()
def x21 (b:(Int×(List (Int×Int)))):Option Int :=
 if (decide (b.1<(1:Int)))=true then
  some (6:Int)
 else
  if (decide ((6:Int)<b.1))=true then
   some (6:Int)
  else
   if (decide ((10:Int)<(b.2.length:Int)))=true then
    some (6:Int)
   else
    x21_l1 b (fun _ =>
      some (0:Int)) FU (0:Int)
theorem x21_l1_ok {b:(Int×(List (Int×Int)))} {kl1_0:Unit→Option Int} {s1:Int} {v:Int} {Q:Ex→List AV→List AObj→Prop}   (hR:∀ T H,RetW [.tmp 2] (I v) .ret T H→Q .ret T H) (hkl1_0:∀ (u0:AV) (u1:AV) (u2:AV) (u3:AV) (u4:AV) (u5:AV) (u6:AV) (u7:AV) (u8:AV) (u9:AV) (u10:AV) (u11:AV) (u12:AV) (u13:AV) (u14:AV) (u15:AV) (u16:AV) (u17:AV) (u18:AV) (u19:AV) (u20:AV) (u21:AV) (u22:AV) (u23:AV) (u24:AV) (u25:AV) (u26:AV) (u27:AV) (u28:AV) (u29:AV) (u30:AV) (u31:AV) (u32:AV) (u33:AV) (u34:AV) (u35:AV) (u36:AV) (u37:AV) (u38:AV) (u39:AV) (u40:AV) (u41:AV) (u42:AV) (u43:AV) (u44:AV) (u45:AV) (u46:AV) (u47:AV) (u48:AV) (u49:AV) (u50:AV) (u51:AV) (u52:AV) (o1:AObj) (Yq:List AObj),kl1_0 ()=some v→Q (.exit 0) [u0,u1,u2,u3,u4,u5,u6,u7,u8,u9,u10,u11,u12,u13,u14,u15,u16,u17,u18,u19,u20,u21,u22,u23,u24,u25,u26,u27,u28,u29,u30,u31,u32,u33,u34,u35,u36,u37,u38,u39,u40,u41,u42,u43,u44,u45,u46,u47,u48,u49,u50,u51,u52] (o1::Yq)) {T:List AV} (hT:zipKeep [o_,i_,o_,i_,o_,o_,o_,o_,o_,o_,o_,o_,o_,o_,o_,o_,o_,o_,o_,o_,o_,o_,o_,o_,o_,o_,o_,o_,o_,o_,o_,o_,o_,o_,o_,o_,o_,o_,o_,o_,o_,o_,o_,o_,o_,o_,o_,o_,o_,o_,o_,o_,o_] T=slots 53 [(1,(.ptr 0 0)),(3,(I s1))]) (h:x21_l1 b kl1_0 FU s1=some v) :
  wpR Tryz.prog ann21 21 0 none xrc21_1 T [AObj.cells [(I b.1),(.lst (b.2.flatMap pr) b.2.length .shared)]] Q:=by
 unfold xrc21_1
 skip
 refine wp_loop hT ?_
 refine .intro (fun m T H=>∃ (s1:Int) (Y21_1:List AObj),T=slots 53 [(1,(.ptr 0 0)),(3,(I s1))]∧H=(AObj.cells [(I b.1),(.lst (b.2.flatMap pr) b.2.length .shared)]::Y21_1)∧x21_l1 b kl1_0 m s1=some v) FU ⟨s1,[],rfl,rfl,h⟩ ?_
 clear h hT
 rintro m T H ⟨s1,Y21_1,rfl,rfl,h⟩
 cases m
 ·exact none_ne h
 rename_i m
 rw [x21_l1.eq_2] at h
 conv=>whnf
 rcases bt (decide (s1<(b.2.length:Int))) with hb4 | hb4
 ·rw [hb4]
  conv=>whnf
  replace h:=it_t hb4 h
  obtain ⟨hb5,h⟩:=gd_some h
  refine ⟨hb5,?_⟩
  rw [dropS pr 2 pr_len b.2 s1 hb5]
  conv=>whnf
  refine nthK_of (x:=AObj.cells [(I (0:Int)),(I (0:Int))]) (by first | with_reducible exact get_concat _ _ | exact get_concat _ _ | exact ga (get_concat _ _) | rfl | (simp [List.getElem?_append,AV.settle];done)) ?_
  conv=>whnf
  rw [set_concat]
  refine nthK_of (x:=AObj.cells [(I (ix b.2 s1).1),(I (ix b.2 s1).2)]) (by first | with_reducible exact get_concat _ _ | exact get_concat _ _ | exact ga (get_concat _ _) | rfl | (simp [List.getElem?_append,AV.settle];done)) ?_
  conv=>whnf
  rcases bt (decide ((ix b.2 s1).1<(0:Int))) with hb6 | hb6
  ·rw [hb6]
   conv=>whnf
   replace h:=it_t hb6 h
   obtain rfl:=Option.some.inj h
   exact hR _ _ ⟨.inr rfl,_,rfl,_,frz_pure rfl,rfl⟩
  ·rw [hb6]
   conv=>whnf
   replace h:=it_f hb6 h
   refine nthK_of (x:=AObj.cells [(I (ix b.2 s1).1),(I (ix b.2 s1).2)]) (by first | with_reducible exact get_concat _ _ | exact get_concat _ _ | exact ga (get_concat _ _) | rfl | (simp [List.getElem?_append,AV.settle];done)) ?_
   conv=>whnf
   rcases bt (decide (b.1≤(ix b.2 s1).1)) with hb7 | hb7
   ·rw [hb7]
    conv=>whnf
    replace h:=it_t hb7 h
    obtain rfl:=Option.some.inj h
    exact hR _ _ ⟨.inr rfl,_,rfl,_,frz_pure rfl,rfl⟩
   ·rw [hb7]
    conv=>whnf
    replace h:=it_f hb7 h
    refine nthK_of (x:=AObj.cells [(I (ix b.2 s1).1),(I (ix b.2 s1).2)]) (by first | with_reducible exact get_concat _ _ | exact get_concat _ _ | exact ga (get_concat _ _) | rfl | (simp [List.getElem?_append,AV.settle];done)) ?_
    conv=>whnf
    rcases bt (decide ((ix b.2 s1).2<(0:Int))) with hb8 | hb8
    ·rw [hb8]
     conv=>whnf
     replace h:=it_t hb8 h
     obtain rfl:=Option.some.inj h
     exact hR _ _ ⟨.inr rfl,_,rfl,_,frz_pure rfl,rfl⟩
    ·rw [hb8]
     conv=>whnf
     replace h:=it_f hb8 h
     refine nthK_of (x:=AObj.cells [(I (ix b.2 s1).1),(I (ix b.2 s1).2)]) (by first | with_reducible exact get_concat _ _ | exact get_concat _ _ | exact ga (get_concat _ _) | rfl | (simp [List.getElem?_append,AV.settle];done)) ?_
     conv=>whnf
     rcases bt (decide (b.1≤(ix b.2 s1).2)) with hb9 | hb9
     ·rw [hb9]
      conv=>whnf
      replace h:=it_t hb9 h
      obtain rfl:=Option.some.inj h
      exact hR _ _ ⟨.inr rfl,_,rfl,_,frz_pure rfl,rfl⟩
     ·rw [hb9]
      conv=>whnf
      replace h:=it_f hb9 h
      exact ⟨m,Nat.lt_succ_self m,(w (s1+(1:Int))),_,rfl,rfl,h⟩
 ·rw [hb4]
  conv=>whnf
  replace h:=it_f hb4 h
  exact hkl1_0 _ _ _ _ _ _ _ _ _ _ _ _ _ _ _ _ _ _ _ _ _ _ _ _ _ _ _ _ _ _ _ _ _ _ _ _ _ _ _ _ _ _ _ _ _ _ _ _ _ _ _ _ _ _ _ h
theorem x21_ok {b:(Int×(List (Int×Int)))} {v:Int} (h:x21 b=some v):PO 21 [(.agg [(I b.1),(.lst (b.2.flatMap pr) b.2.length .shared)])] (I v):=by
 refine fn_pureW hmix lxx21 rfl rfl fun Q hQ=>?_
 have hR:∀ T H,RetW [.tmp 2] (I v) .ret T H→Q .ret T H:=fun T H hh=>hQ _ T H hh
 unfold x21 at h
 unfold xrc21
 obtain ⟨c_1,g_1⟩:∃ c,xrc21_1=c:=⟨_,rfl⟩
 rw [g_1]
 conv=>whnf
 rcases bt (decide (b.1<(1:Int))) with hb1 | hb1
 ·rw [hb1]
  conv=>whnf
  replace h:=it_t hb1 h
  obtain rfl:=Option.some.inj h
  exact hR _ _ ⟨.inr rfl,_,rfl,_,frz_pure rfl,rfl⟩
 ·rw [hb1]
  conv=>whnf
  replace h:=it_f hb1 h
  rcases bt (decide ((6:Int)<b.1)) with hb2 | hb2
  ·rw [hb2]
   conv=>whnf
   replace h:=it_t hb2 h
   obtain rfl:=Option.some.inj h
   exact hR _ _ ⟨.inr rfl,_,rfl,_,frz_pure rfl,rfl⟩
  ·rw [hb2]
   conv=>whnf
   replace h:=it_f hb2 h
   rcases bt (decide ((10:Int)<(b.2.length:Int))) with hb3 | hb3
   ·rw [hb3]
    conv=>whnf
    replace h:=it_t hb3 h
    obtain rfl:=Option.some.inj h
    exact hR _ _ ⟨.inr rfl,_,rfl,_,frz_pure rfl,rfl⟩
   ·rw [hb3]
    conv=>whnf
    replace h:=it_f hb3 h
    subst g_1
    refine x21_l1_ok ?_ ?_ (by exact rfl) h
    ·exact fun T H hh=>hR T H hh
    ·intro u0 u1 u2 u3 u4 u5 u6 u7 u8 u9 u10 u11 u12 u13 u14 u15 u16 u17 u18 u19 u20 u21 u22 u23 u24 u25 u26 u27 u28 u29 u30 u31 u32 u33 u34 u35 u36 u37 u38 u39 u40 u41 u42 u43 u44 u45 u46 u47 u48 u49 u50 u51 u52 o1 Yq h
     conv=>whnf
     obtain rfl:=Option.some.inj h
     exact hR _ _ ⟨.inr rfl,_,rfl,_,frz_pure rfl,rfl⟩

noncomputable def xrc57:RC :=
 .seq (.reg false [I_ 2 [.tk 0] .box,I_ 3 [.tk 1] .box,I_ 4 [.cv (.int .i64 0)] .mv]) (.seq (.seq (.reg false [I_ 5 [.sl 3] (.fa 1),I_ 6 [.tv 5] (.ld .one),I_ 7 [.tv 6,.cv (.int .i64 1)] (.bin .eql)]) (.cond (.sl 7) (.seq
 (.reg false [I_ 8 [.tv 2] (.fa 1),I_ 9 [.tv 8] (.ld .one),I_ 10 [.tv 3] (.fa 0),I_ 11 [.tv 10] (.ld .one),I_ 12 [.tv 9,.tv 11] (.ia 2),I_ 13 [.tv 12] (.fa 1),I_ 14 [.tv 13] (.ld .one),I_ 4 [.tk 14] .mv]) .ret) .skip))
 (.seq (.reg false [I_ 15 [.tv 2] (.fa 1),I_ 16 [.tv 15] (.ld .one),I_ 17 [.tv 3] (.fa 0),I_ 18 [.tv 17] (.ld .one),I_ 19 [.tv 16,.tv 18] (.ia 2),I_ 20 [.tv 19] (.fa 0),I_ 21 [.tv 20] (.ld .one),I_ 4 [.tk 21] .mv]) .ret))
theorem lxx57:linkF Tryz.prog ann57 57=some (xrc57,22,[.tmp 4]):=by kernel_rfl
def x57 (b:(Int×(List (Int×Int)))) (p:(Int×Int)):Option Int :=
 if (decide (p.2=(1:Int)))=true then
  gd (0≤p.1∧p.1<(b.2.length:Int)) <|
  some ((ix b.2 p.1).2)
 else
  gd (0≤p.1∧p.1<(b.2.length:Int)) <|
  some ((ix b.2 p.1).1)
theorem x57_ok {b:(Int×(List (Int×Int)))} {p:(Int×Int)} {v:Int} (h:x57 b p=some v):PO 57 [(.agg [(I b.1),(.lst (b.2.flatMap pr) b.2.length .shared)]),(.agg [(I p.1),(I p.2)])] (I v):=by
 refine fn_pureW hmix lxx57 rfl rfl fun Q hQ=>?_
 have hR:∀ T H,RetW [.tmp 4] (I v) .ret T H→Q .ret T H:=fun T H hh=>hQ _ T H hh
 unfold x57 at h
 unfold xrc57
 skip
 conv=>whnf
 rcases bt (decide (p.2=(1:Int))) with hb1 | hb1
 ·rw [hb1]
  conv=>whnf
  replace h:=it_t hb1 h
  obtain ⟨hb2,h⟩:=gd_some h
  refine ⟨hb2,?_⟩
  rw [dropS pr 2 pr_len b.2 p.1 hb2]
  conv=>whnf
  obtain rfl:=Option.some.inj h
  exact hR _ _ ⟨.inr rfl,_,rfl,_,frz_pure rfl,rfl⟩
 ·rw [hb1]
  conv=>whnf
  replace h:=it_f hb1 h
  obtain ⟨hb3,h⟩:=gd_some h
  refine ⟨hb3,?_⟩
  rw [dropS pr 2 pr_len b.2 p.1 hb3]
  conv=>whnf
  obtain rfl:=Option.some.inj h
  exact hR _ _ ⟨.inr rfl,_,rfl,_,frz_pure rfl,rfl⟩

noncomputable def xrc69_1:RC :=
 .loop (some [i_,i_,o_,o_,o_,i_,o_,o_,o_,o_,o_,o_,o_,o_,o_,o_,o_,o_,o_]) (.seq (.seq (.reg false [I_ 6 [.sl 5] .mv,I_ 7 [.sl 0] .mv,I_ 8 [.tk 7] .lenS,I_ 9
 [.tv 6,.tv 8] (.bin .lss)]) (.cond (.sl 9) .skip (.exit 0))) (.seq (.block 1 (.seq (.reg false [I_ 12 [.sl 0] .mv,I_ 13 [.sl 5] .mv,I_ 14 [.tv 12,.tv 13] (.ia 2),I_ 15 [.tv 14] (.fa 0),I_ 16 [.tv 15] (.ld .one),I_ 17
 [.sl 1] .mv,I_ 18 [.tv 16,.tv 17] (.bin .eql)]) (.cond (.sl 18) (.seq (.reg false [I_ 4 [.cv (.bool true)] .mv]) .ret) .skip))) (.reg false [I_ 10 [.tk 5] .mv,I_ 11 [.tv 10,.cv (.int .i64 1)] (.bin .add),I_ 5 [.tk 11]
 .mv])))
noncomputable def xrc69:RC :=
 .seq (.reg false [I_ 4 [.cv (.bool false)] .mv]) (.seq (.seq (.reg false [I_ 5 [.cv (.int .i64 0)] .mv]) (.block 0 xrc69_1)) (.seq (.reg false [I_ 4 [.cv (.bool false)] .mv]) .ret))
theorem lxx69:linkF Tryz.prog ann69 69=some (xrc69,19,[.tmp 4]):=by kernel_rfl
def x69_l1 (row:(List (Int×Int))) (sheet:Int) (kl1_0:Unit→Option Bool):Nat→Int→Option Bool
 | 0,_=>none
 | m+1,s1 =>
   if (decide (s1<(row.length:Int)))=true then
    gd (0≤s1∧s1<(row.length:Int)) <|
    if (decide ((ix row s1).1=sheet))=true then
     some true
    else
     x69_l1 row sheet kl1_0 m (w (s1+(1:Int)))
   else
    kl1_0 ()
def x69 (row:(List (Int×Int))) (sheet:Int):Option Bool :=
 x69_l1 row sheet (fun _ =>
   some false) FU (0:Int)
theorem x69_l1_ok {row:(List (Int×Int))} {sheet:Int} {kl1_0:Unit→Option Bool} {s1:Int} {v:Bool} {Q:Ex→List AV→List AObj→Prop}   (hR:∀ T H,RetW [.tmp 4] (B v) .ret T H→Q .ret T H) (hkl1_0:∀ (u0:AV) (u1:AV) (u4:AV) (u5:AV) (u6:AV) (u7:AV) (u8:AV) (u9:AV) (u10:AV) (u11:AV) (u12:AV) (u13:AV) (u14:AV) (u15:AV) (u16:AV) (u17:AV) (u18:AV),kl1_0 ()=some v→Q (.exit 0) [u0,u1,J,J,u4,u5,u6,u7,u8,u9,u10,u11,u12,u13,u14,u15,u16,u17,u18] []) {T:List AV} (hT:zipKeep [i_,i_,o_,o_,o_,i_,o_,o_,o_,o_,o_,o_,o_,o_,o_,o_,o_,o_,o_] T=slots 19 [(0,(.lst (row.flatMap pr) row.length .shared)),(1,(I sheet)),(5,(I s1))]) (h:x69_l1 row sheet kl1_0 FU s1=some v) :
  wpR Tryz.prog ann69 69 0 none xrc69_1 T [] Q:=by
 unfold xrc69_1
 skip
 refine wp_loop hT ?_
 refine .intro (fun m T H=>∃ (s1:Int),T=slots 19 [(0,(.lst (row.flatMap pr) row.length .shared)),(1,(I sheet)),(5,(I s1))]∧H=[]∧x69_l1 row sheet kl1_0 m s1=some v) FU ⟨s1,rfl,rfl,h⟩ ?_
 clear h hT
 rintro m T H ⟨s1,rfl,rfl,h⟩
 cases m
 ·exact none_ne h
 rename_i m
 rw [x69_l1.eq_2] at h
 conv=>whnf
 rcases bt (decide (s1<(row.length:Int))) with hb1 | hb1
 ·rw [hb1]
  conv=>whnf
  replace h:=it_t hb1 h
  obtain ⟨hb2,h⟩:=gd_some h
  refine ⟨hb2,?_⟩
  rw [dropS pr 2 pr_len row s1 hb2]
  conv=>whnf
  rcases bt (decide ((ix row s1).1=sheet)) with hb3 | hb3
  ·rw [hb3]
   conv=>whnf
   replace h:=it_t hb3 h
   obtain rfl:=Option.some.inj h
   exact hR _ _ ⟨.inr rfl,_,rfl,_,frz_pure rfl,rfl⟩
  ·rw [hb3]
   conv=>whnf
   replace h:=it_f hb3 h
   exact ⟨m,Nat.lt_succ_self m,(w (s1+(1:Int))),rfl,rfl,h⟩
 ·rw [hb1]
  conv=>whnf
  replace h:=it_f hb1 h
  exact hkl1_0 _ _ _ _ _ _ _ _ _ _ _ _ _ _ _ _ _ h
theorem x69_ok {row:(List (Int×Int))} {sheet:Int} {v:Bool} (h:x69 row sheet=some v):PO 69 [(.lst (row.flatMap pr) row.length .shared),(I sheet)] (B v):=by
 refine fn_pureW hmix lxx69 rfl rfl fun Q hQ=>?_
 have hR:∀ T H,RetW [.tmp 4] (B v) .ret T H→Q .ret T H:=fun T H hh=>hQ _ T H hh
 unfold x69 at h
 unfold xrc69
 obtain ⟨c_1,g_1⟩:∃ c,xrc69_1=c:=⟨_,rfl⟩
 rw [g_1]
 conv=>whnf
 subst g_1
 refine x69_l1_ok ?_ ?_ (by exact rfl) h
 ·exact fun T H hh=>hR T H hh
 ·intro u0 u1 u4 u5 u6 u7 u8 u9 u10 u11 u12 u13 u14 u15 u16 u17 u18 h
  conv=>whnf
  obtain rfl:=Option.some.inj h
  exact hR _ _ ⟨.inr rfl,_,rfl,_,frz_pure rfl,rfl⟩

noncomputable def xrc70:RC :=
 .seq (.reg false [I_ 2 [.tk 0] .box,I_ 3 [.tk 1] .box,I_ 4 [.cv (.int .i64 0)] .mv]) (.seq (.seq (.reg false [I_ 5 [.sl 3] (.fa 1),I_ 6 [.tv 5] (.ld .one),I_ 7 [.tv 6,.cv (.int .i64 1)] (.bin .eql)]) (.cond (.sl 7) (.seq
 (.reg false [I_ 8 [.tv 2] (.fa 1),I_ 9 [.tv 8] (.ld .one),I_ 10 [.tv 3] (.fa 0),I_ 11 [.tv 10] (.ld .one),I_ 12 [.tv 9,.tv 11] (.ia 2),I_ 13 [.tv 12] (.fa 0),I_ 14 [.tv 13] (.ld .one),I_ 4 [.tk 14] .mv]) .ret) .skip))
 (.seq (.reg false [I_ 15 [.tv 2] (.fa 1),I_ 16 [.tv 15] (.ld .one),I_ 17 [.tv 3] (.fa 0),I_ 18 [.tv 17] (.ld .one),I_ 19 [.tv 16,.tv 18] (.ia 2),I_ 20 [.tv 19] (.fa 1),I_ 21 [.tv 20] (.ld .one),I_ 4 [.tk 21] .mv]) .ret))
theorem lxx70:linkF Tryz.prog ann70 70=some (xrc70,22,[.tmp 4]):=by kernel_rfl
def x70 (b:(Int×(List (Int×Int)))) (p:(Int×Int)):Option Int :=
 if (decide (p.2=(1:Int)))=true then
  gd (0≤p.1∧p.1<(b.2.length:Int)) <|
  some ((ix b.2 p.1).1)
 else
  gd (0≤p.1∧p.1<(b.2.length:Int)) <|
  some ((ix b.2 p.1).2)
theorem x70_ok {b:(Int×(List (Int×Int)))} {p:(Int×Int)} {v:Int} (h:x70 b p=some v):PO 70 [(.agg [(I b.1),(.lst (b.2.flatMap pr) b.2.length .shared)]),(.agg [(I p.1),(I p.2)])] (I v):=by
 refine fn_pureW hmix lxx70 rfl rfl fun Q hQ=>?_
 have hR:∀ T H,RetW [.tmp 4] (I v) .ret T H→Q .ret T H:=fun T H hh=>hQ _ T H hh
 unfold x70 at h
 unfold xrc70
 skip
 conv=>whnf
 rcases bt (decide (p.2=(1:Int))) with hb1 | hb1
 ·rw [hb1]
  conv=>whnf
  replace h:=it_t hb1 h
  obtain ⟨hb2,h⟩:=gd_some h
  refine ⟨hb2,?_⟩
  rw [dropS pr 2 pr_len b.2 p.1 hb2]
  conv=>whnf
  obtain rfl:=Option.some.inj h
  exact hR _ _ ⟨.inr rfl,_,rfl,_,frz_pure rfl,rfl⟩
 ·rw [hb1]
  conv=>whnf
  replace h:=it_f hb1 h
  obtain ⟨hb3,h⟩:=gd_some h
  refine ⟨hb3,?_⟩
  rw [dropS pr 2 pr_len b.2 p.1 hb3]
  conv=>whnf
  obtain rfl:=Option.some.inj h
  exact hR _ _ ⟨.inr rfl,_,rfl,_,frz_pure rfl,rfl⟩

noncomputable def xrc19_1:RC :=
 .loop (some [o_,i_,i_,o_,o_,o_,o_,i_,i_,o_,o_,o_,o_,o_,o_,o_,o_,o_,o_,o_,o_,o_,o_,o_,o_,o_,o_,o_,o_,o_,o_,o_,o_,o_,o_,o_,o_,o_,o_,o_,o_,o_,o_,o_,o_,o_,o_,o_,o_,o_,o_,o_,o_,o_,o_,o_,o_,o_,o_,o_,o_,o_,o_,o_,o_,o_,o_,o_,o_,o_,o_,o_,o_,o_,o_,o_,o_,o_,o_,o_,o_,o_,o_,o_,o_,o_,o_,o_,o_,o_,o_,o_,o_,o_,o_,o_,o_,o_,o_,o_,o_,o_,o_]) (.seq (.seq (.reg false [I_ 20 [.sl 8] .mv,I_ 21 [.sl 7] .mv,I_ 22 [.tv 20,.tv 21] (.bin .lss)]) (.cond (.sl 22) .skip (.exit 0))) (.seq (.block 1 (.seq (.reg true [I_
 25 [.sl 1] .mv,I_ 26 [.sl 8] .mv,I_ 27 [.tv 25,.tv 26] (.ia 2),I_ 28 [.tv 27] (.fa 0),I_ 29 [.tv 28] (.ld .one),I_ 30 [.tv 29,.cv (.int .i64 0)] (.bin .lss),I_ 31 [.tk 30] .mv,⟨some 32,[.sl 1],some (31,false),none,
 .mv⟩,⟨some 33,[.sl 8],some (31,false),none,.mv⟩,⟨some 34,[.tv 32,.tv 33],some (31,false),none,.ia 2⟩,⟨some 35,[.tv 34],some (31,false),none,.fa 0⟩,⟨some 36,[.tv 35],some (31,false),none,.ld .one⟩,⟨some
 37,[.sl 2],some (31,false),none,.fa 1⟩,⟨some 38,[.tv 37],some (31,false),none,.ld .one⟩,⟨some 39,[.tk 38],some (31,false),none,.lenS⟩,⟨some 40,[.tv 36,.tv 39],some (31,false),none,.bin .geq⟩,I_ 41 [.sl
 31,.cv (.bool true),.tv 40] .pick,I_ 42 [.tk 41] .mv,⟨some 43,[.sl 1],some (42,false),none,.mv⟩,⟨some 44,[.sl 8],some (42,false),none,.mv⟩,⟨some 45,[.tv 43,.tv 44],some (42,false),none,.ia 2⟩,⟨some 46,
 [.tv 45],some (42,false),none,.fa 1⟩,⟨some 47,[.tv 46],some (42,false),none,.ld .one⟩,⟨some 48,[.tv 47,.cv (.int .i64 0)],some (42,false),none,.bin .lss⟩,I_ 49 [.sl 42,.cv (.bool true),.tv 48] .pick,I_ 50
 [.tk 49] .mv,⟨some 51,[.sl 1],some (50,false),none,.mv⟩,⟨some 52,[.sl 8],some (50,false),none,.mv⟩,⟨some 53,[.tv 51,.tv 52],some (50,false),none,.ia 2⟩,⟨some 54,[.tv 53],some (50,false),none,.fa 1⟩,
 ⟨some 55,[.tv 54],some (50,false),none,.ld .one⟩,⟨some 56,[.tv 55,.cv (.int .i64 1)],some (50,false),none,.bin .gtr⟩,I_ 57 [.sl 50,.cv (.bool true),.tv 56] .pick]) (.cond (.sl 57) (.seq (.reg false [I_ 4 [.cv
 (.int .i64 0)] .mv,I_ 5 [.cv (.int .i64 0)] .mv,I_ 6 [.cv (.int .i64 3)] .mv]) .ret) .skip))) (.reg false [I_ 23 [.tk 8] .mv,I_ 24 [.tv 23,.cv (.int .i64 1)] (.bin .add),I_ 8 [.tk 24] .mv])))
noncomputable def xrc19_2:RC :=
 .loop (some [o_,i_,i_,o_,o_,o_,o_,i_,o_,i_,o_,o_,o_,o_,o_,o_,o_,o_,o_,o_,o_,o_,o_,o_,o_,o_,o_,o_,o_,o_,o_,o_,o_,o_,o_,o_,o_,o_,o_,o_,o_,o_,o_,o_,o_,o_,o_,o_,o_,o_,o_,o_,o_,o_,o_,o_,o_,o_,o_,o_,o_,o_,o_,o_,o_,o_,o_,o_,o_,o_,o_,o_,o_,o_,o_,o_,o_,o_,o_,o_,o_,o_,o_,o_,o_,o_,o_,o_,o_,o_,o_,o_,o_,o_,o_,o_,o_,o_,o_,o_,o_,o_,o_]) (.seq (.seq (.reg false [I_ 58 [.sl 9] .mv,I_ 59 [.sl 7] .mv,I_ 60 [.tv 58,.tv 59] (.bin .lss)]) (.cond (.sl 60) .skip (.exit 2))) (.seq (.block 3 (.seq (.reg true [I_
 63 [.sl 1] .mv,I_ 64 [.sl 9] .mv,I_ 65 [.tk 63,.tk 64] (.slS 2 false true false),I_ 66 [.sl 1] .mv,I_ 67 [.sl 9] .mv,I_ 68 [.tv 66,.tv 67] (.ia 2),I_ 69 [.tv 68] (.fa 0),I_ 70 [.tv 69] (.ld .one),I_ 71 [.cv (.func 69
 [] []),.sl 65,.sl 70] (.call 3)]) (.cond (.sl 71) (.seq (.reg false [I_ 4 [.cv (.int .i64 0)] .mv,I_ 5 [.cv (.int .i64 0)] .mv,I_ 6 [.cv (.int .i64 11)] .mv]) .ret) .skip))) (.reg false [I_ 61 [.tk 9] .mv,I_ 62 [.tv 61,
 .cv (.int .i64 1)] (.bin .add),I_ 9 [.tk 62] .mv])))
noncomputable def xrc19_3:RC :=
 .loop (some [o_,i_,i_,o_,o_,o_,o_,i_,o_,o_,i_,o_,o_,o_,o_,o_,o_,o_,o_,o_,o_,o_,o_,o_,o_,o_,o_,o_,o_,o_,o_,o_,o_,o_,o_,o_,o_,o_,o_,o_,o_,o_,o_,o_,o_,o_,o_,o_,o_,o_,o_,o_,o_,o_,o_,o_,o_,o_,o_,o_,o_,o_,o_,o_,o_,o_,o_,o_,o_,o_,o_,o_,o_,o_,o_,o_,o_,o_,o_,o_,o_,o_,o_,o_,o_,o_,o_,o_,o_,o_,o_,o_,o_,o_,o_,o_,o_,o_,o_,o_,o_,o_,o_]) (.seq (.seq (.reg false [I_ 72 [.sl 10] .mv,I_ 73 [.sl 7] .mv,I_ 74 [.tv 72,.tv 73] (.bin .lss)]) (.cond (.sl 74) .skip (.exit 4))) (.seq (.block 5 (.seq (.reg true
 [I_ 77 [.sl 2] (.ld (.str 2)),I_ 78 [.sl 1] .mv,I_ 79 [.sl 10] .mv,I_ 80 [.tv 79,.cv (.int .i64 1)] (.bin .sub),I_ 81 [.tv 78,.tv 80] (.ia 2),I_ 82 [.tv 81] (.ld (.str 2)),I_ 83 [.cv (.func 70 [] []),.sl 77,.sl 82]
 (.call 3),I_ 84 [.sl 2] (.ld (.str 2)),I_ 85 [.sl 1] .mv,I_ 86 [.sl 10] .mv,I_ 87 [.tv 85,.tv 86] (.ia 2),I_ 88 [.tv 87] (.ld (.str 2)),I_ 89 [.cv (.func 57 [] []),.sl 84,.sl 88] (.call 3),I_ 90 [.tv 83,.tv 89] (.bin
 .neq)]) (.cond (.sl 90) (.seq (.reg false [I_ 4 [.cv (.int .i64 0)] .mv,I_ 5 [.cv (.int .i64 0)] .mv,I_ 6 [.cv (.int .i64 27)] .mv]) .ret) .skip))) (.reg false [I_ 75 [.tk 10] .mv,I_ 76 [.tv 75,.cv (.int .i64 1)] (.bin
 .add),I_ 10 [.tk 76] .mv])))
noncomputable def xrc19:RC :=
 .seq (.reg false [I_ 2 [.tk 0] .box,I_ 4 [.cv (.int .i64 0)] .mv,I_ 5 [.cv (.int .i64 0)] .mv,I_ 6 [.cv (.int .i64 0)] .mv]) (.seq (.seq (.reg false [I_ 11 [.sl 2] (.ld (.str 2)),I_ 12 [.cv (.func 21 [] []),.sl 11] (.call
 3),I_ 13 [.tv 12,.cv (.int .i64 0)] (.bin .neq)]) (.cond (.sl 13) (.seq (.reg false [I_ 14 [.tv 2] (.ld (.str 2)),I_ 15 [.cv (.func 21 [] []),.sl 14] (.call 3),I_ 4 [.cv (.int .i64 0)] .mv,I_ 5 [.cv (.int .i64 0)] .mv,I_
 6 [.tk 15] .mv]) .ret) .skip)) (.seq (.reg false [I_ 16 [.sl 1] .mv,I_ 17 [.tk 16] .lenS,I_ 7 [.tk 17] .mv]) (.seq (.seq (.reg false [I_ 18 [.sl 7] .mv,I_ 19 [.tv 18,.cv (.int .i64 0)] (.bin .eql)]) (.cond (.sl 19) (.seq
 (.reg false [I_ 4 [.cv (.int .i64 0)] .mv,I_ 5 [.cv (.int .i64 0)] .mv,I_ 6 [.cv (.int .i64 6)] .mv]) .ret) .skip)) (.seq (.seq (.reg false [I_ 8 [.cv (.int .i64 0)] .mv]) (.block 0 xrc19_1)) (.seq (.seq (.reg false [I_ 9
 [.cv (.int .i64 0)] .mv]) (.block 2 xrc19_2)) (.seq (.seq (.reg false [I_ 10 [.cv (.int .i64 1)] .mv]) (.block 4 xrc19_3)) (.seq (.reg true [I_ 91 [.sl 2] (.ld (.str 2)),I_ 92 [.sl 1] .mv,I_ 93 [.tv 92,.cv (.int .i64 0)]
 (.ia 2),I_ 94 [.tv 93] (.ld (.str 2)),I_ 95 [.cv (.func 57 [] []),.sl 91,.sl 94] (.call 3),I_ 96 [.sl 2] (.ld (.str 2)),I_ 97 [.sl 1] .mv,I_ 98 [.tk 7] .mv,I_ 99 [.tv 98,.cv (.int .i64 1)] (.bin .sub),I_ 100 [.tv 97,
 .tv 99] (.ia 2),I_ 101 [.tv 100] (.ld (.str 2)),I_ 102 [.cv (.func 70 [] []),.sl 96,.sl 101] (.call 3),I_ 4 [.tk 95] .mv,I_ 5 [.tk 102] .mv,I_ 6 [.cv (.int .i64 0)] .mv]) .ret)))))))
theorem lxx19:linkF Tryz.prog ann19 19=some (xrc19,103,[.tmp 4,.tmp 5,.tmp 6]):=by kernel_rfl
def x19_l1 (b:(Int×(List (Int×Int)))) (row:(List (Int×Int))) (kl1_0:Unit→Option (Int×Int×Int)):Nat→Int→Option (Int×Int×Int)
 | 0,_=>none
 | m+1,s1 =>
   if (decide (s1<(row.length:Int)))=true then
    gd (0≤s1∧s1<(row.length:Int)) <|
    if (decide ((ix row s1).1<(0:Int)))=true then
     some ((0:Int),(0:Int),(3:Int))
    else
     gd (0≤s1∧s1<(row.length:Int)) <|
     if (decide ((b.2.length:Int)≤(ix row s1).1))=true then
      some ((0:Int),(0:Int),(3:Int))
     else
      gd (0≤s1∧s1<(row.length:Int)) <|
      if (decide ((ix row s1).2<(0:Int)))=true then
       some ((0:Int),(0:Int),(3:Int))
      else
       gd (0≤s1∧s1<(row.length:Int)) <|
       if (decide ((1:Int)<(ix row s1).2))=true then
        some ((0:Int),(0:Int),(3:Int))
       else
        x19_l1 b row kl1_0 m (w (s1+(1:Int)))
   else
    kl1_0 ()
def x19_l2 (row:(List (Int×Int))) (kl2_0:Unit→Option (Int×Int×Int)):Nat→Int→Option (Int×Int×Int)
 | 0,_=>none
 | m+1,s2 =>
   if (decide (s2<(row.length:Int)))=true then
    gd (0≤s2∧s2≤(row.length:Int)) <|
    gd (0≤s2∧s2<(row.length:Int)) <|
    (x69 (row.take s2.toNat) ((ix row s2).1)).bind fun r3 =>
    if r3=true then
     some ((0:Int),(0:Int),(11:Int))
    else
     x19_l2 row kl2_0 m (w (s2+(1:Int)))
   else
    kl2_0 ()
def x19_l3 (b:(Int×(List (Int×Int)))) (row:(List (Int×Int))) (kl3_0:Unit→Option (Int×Int×Int)):Nat→Int→Option (Int×Int×Int)
 | 0,_=>none
 | m+1,s3 =>
   if (decide (s3<(row.length:Int)))=true then
    gd (0≤(w (s3-(1:Int)))∧(w (s3-(1:Int)))<(row.length:Int)) <|
    (x70 b (ix row (w (s3-(1:Int))))).bind fun r4 =>
    gd (0≤s3∧s3<(row.length:Int)) <|
    (x57 b (ix row s3)).bind fun r5 =>
    if (decide (r4≠r5))=true then
     some ((0:Int),(0:Int),(27:Int))
    else
     x19_l3 b row kl3_0 m (w (s3+(1:Int)))
   else
    kl3_0 ()
def x19 (b:(Int×(List (Int×Int)))) (row:(List (Int×Int))):Option (Int×Int×Int) :=
 (x21 b).bind fun r1 =>
 if (decide (r1≠(0:Int)))=true then
  (x21 b).bind fun r2 =>
  some ((0:Int),(0:Int),r2)
 else
  if (decide ((row.length:Int)=(0:Int)))=true then
   some ((0:Int),(0:Int),(6:Int))
  else
   x19_l1 b row (fun _ =>
     x19_l2 row (fun _ =>
       x19_l3 b row (fun _ =>
         gd (0≤(0:Int)∧(0:Int)<(row.length:Int)) <|
         (x57 b (ix row (0:Int))).bind fun r6 =>
         gd (0≤(w ((row.length:Int)-(1:Int)))∧(w ((row.length:Int)-(1:Int)))<(row.length:Int)) <|
         (x70 b (ix row (w ((row.length:Int)-(1:Int))))).bind fun r7 =>
         some (r6,r7,(0:Int))) FU (1:Int)) FU (0:Int)) FU (0:Int)
theorem x19_l1_ok {b:(Int×(List (Int×Int)))} {row:(List (Int×Int))} {kl1_0:Unit→Option (Int×Int×Int)} {s1:Int} {v:(Int×Int×Int)} {Q:Ex→List AV→List AObj→Prop}   (hR:∀ T H,RetW [.tmp 4,.tmp 5,.tmp 6] (.tuple [(I v.1),(I v.2.1),(I v.2.2)]) .ret T H→Q .ret T H) (hkl1_0:∀ (u0:AV) (u4:AV) (u5:AV) (u6:AV) (u8:AV) (u9:AV) (u10:AV) (u11:AV) (u12:AV) (u13:AV) (u14:AV) (u15:AV) (u16:AV) (u17:AV) (u18:AV) (u19:AV) (u20:AV) (u21:AV) (u22:AV) (u23:AV) (u24:AV) (u25:AV) (u26:AV) (u27:AV) (u28:AV) (u29:AV) (u30:AV) (u31:AV) (u32:AV) (u33:AV) (u34:AV) (u35:AV) (u36:AV) (u37:AV) (u38:AV) (u39:AV) (u40:AV) (u41:AV) (u42:AV) (u43:AV) (u44:AV) (u45:AV) (u46:AV) (u47:AV) (u48:AV) (u49:AV) (u50:AV) (u51:AV) (u52:AV) (u53:AV) (u54:AV) (u55:AV) (u56:AV) (u57:AV) (u58:AV) (u59:AV) (u60:AV) (u61:AV) (u62:AV) (u63:AV) (u64:AV) (u65:AV) (u66:AV) (u67:AV) (u68:AV) (u69:AV) (u70:AV) (u71:AV) (u72:AV) (u73:AV) (u74:AV) (u75:AV) (u76:AV) (u77:AV) (u78:AV) (u79:AV) (u80:AV) (u81:AV) (u82:AV) (u83:AV) (u84:AV) (u85:AV) (u86:AV) (u87:AV) (u88:AV) (u89:AV) (u90:AV) (u91:AV) (u92:AV) (u93:AV) (u94:AV) (u95:AV) (u96:AV) (u97:AV) (u98:AV) (u99:AV) (u100:AV) (u101:AV) (u102:AV),kl1_0 ()=some v→Q (.exit 0) [u0,(.lst (row.flatMap pr) row.length .shared),(.ptr 0 0),J,u4,u5,u6,(I (row.length:Int)),u8,u9,u10,u11,u12,u13,u14,u15,u16,u17,u18,u19,u20,u21,u22,u23,u24,u25,u26,u27,u28,u29,u30,u31,u32,u33,u34,u35,u36,u37,u38,u39,u40,u41,u42,u43,u44,u45,u46,u47,u48,u49,u50,u51,u52,u53,u54,u55,u56,u57,u58,u59,u60,u61,u62,u63,u64,u65,u66,u67,u68,u69,u70,u71,u72,u73,u74,u75,u76,u77,u78,u79,u80,u81,u82,u83,u84,u85,u86,u87,u88,u89,u90,u91,u92,u93,u94,u95,u96,u97,u98,u99,u100,u101,u102] [AObj.cells [(I b.1),(.lst (b.2.flatMap pr) b.2.length .shared)]]) {T:List AV} (hT:zipKeep [o_,i_,i_,o_,o_,o_,o_,i_,i_,o_,o_,o_,o_,o_,o_,o_,o_,o_,o_,o_,o_,o_,o_,o_,o_,o_,o_,o_,o_,o_,o_,o_,o_,o_,o_,o_,o_,o_,o_,o_,o_,o_,o_,o_,o_,o_,o_,o_,o_,o_,o_,o_,o_,o_,o_,o_,o_,o_,o_,o_,o_,o_,o_,o_,o_,o_,o_,o_,o_,o_,o_,o_,o_,o_,o_,o_,o_,o_,o_,o_,o_,o_,o_,o_,o_,o_,o_,o_,o_,o_,o_,o_,o_,o_,o_,o_,o_,o_,o_,o_,o_,o_,o_] T=slots 103 [(1,(.lst (row.flatMap pr) row.length .shared)),(2,(.ptr 0 0)),(7,(I (row.length:Int))),(8,(I s1))]) (h:x19_l1 b row kl1_0 FU s1=some v) :
  wpR Tryz.prog ann19 19 0 none xrc19_1 T [AObj.cells [(I b.1),(.lst (b.2.flatMap pr) b.2.length .shared)]] Q:=by
 unfold xrc19_1
 skip
 refine wp_loop hT ?_
 refine .intro (fun m T H=>∃ (s1:Int),T=slots 103 [(1,(.lst (row.flatMap pr) row.length .shared)),(2,(.ptr 0 0)),(7,(I (row.length:Int))),(8,(I s1))]∧H=[AObj.cells [(I b.1),(.lst (b.2.flatMap pr) b.2.length .shared)]]∧x19_l1 b row kl1_0 m s1=some v) FU ⟨s1,rfl,rfl,h⟩ ?_
 clear h hT
 rintro m T H ⟨s1,rfl,rfl,h⟩
 cases m
 ·exact none_ne h
 rename_i m
 rw [x19_l1.eq_2] at h
 conv=>whnf
 rcases bt (decide (s1<(row.length:Int))) with hb5 | hb5
 ·rw [hb5]
  conv=>whnf
  replace h:=it_t hb5 h
  obtain ⟨hb6,h⟩:=gd_some h
  refine ⟨hb6,?_⟩
  rw [dropS pr 2 pr_len row s1 hb6]
  conv=>whnf
  rcases bt (decide ((ix row s1).1<(0:Int))) with hb7 | hb7
  ·rw [hb7]
   conv=>whnf
   replace h:=it_t hb7 h
   obtain rfl:=Option.some.inj h
   exact hR _ _ ⟨.inr rfl,_,rfl,_,frz_pure (pu_tup (allc rfl (allc rfl (allc rfl rfl)))),rfl⟩
  ·rw [hb7]
   conv=>whnf
   replace h:=it_f hb7 h
   obtain ⟨hb8,h⟩:=gd_some h
   refine ⟨hb8,?_⟩
   rw [dropS pr 2 pr_len row s1 hb8]
   conv=>whnf
   rcases bt (decide ((b.2.length:Int)≤(ix row s1).1)) with hb9 | hb9
   ·rw [hb9]
    conv=>whnf
    replace h:=it_t hb9 h
    obtain rfl:=Option.some.inj h
    exact hR _ _ ⟨.inr rfl,_,rfl,_,frz_pure (pu_tup (allc rfl (allc rfl (allc rfl rfl)))),rfl⟩
   ·rw [hb9]
    conv=>whnf
    replace h:=it_f hb9 h
    obtain ⟨hb10,h⟩:=gd_some h
    refine ⟨hb10,?_⟩
    rw [dropS pr 2 pr_len row s1 hb10]
    conv=>whnf
    rcases bt (decide ((ix row s1).2<(0:Int))) with hb11 | hb11
    ·rw [hb11]
     conv=>whnf
     replace h:=it_t hb11 h
     obtain rfl:=Option.some.inj h
     exact hR _ _ ⟨.inr rfl,_,rfl,_,frz_pure (pu_tup (allc rfl (allc rfl (allc rfl rfl)))),rfl⟩
    ·rw [hb11]
     conv=>whnf
     replace h:=it_f hb11 h
     obtain ⟨hb12,h⟩:=gd_some h
     refine ⟨hb12,?_⟩
     rw [dropS pr 2 pr_len row s1 hb12]
     conv=>whnf
     rcases bt (decide ((1:Int)<(ix row s1).2)) with hb13 | hb13
     ·rw [hb13]
      conv=>whnf
      replace h:=it_t hb13 h
      obtain rfl:=Option.some.inj h
      exact hR _ _ ⟨.inr rfl,_,rfl,_,frz_pure (pu_tup (allc rfl (allc rfl (allc rfl rfl)))),rfl⟩
     ·rw [hb13]
      conv=>whnf
      replace h:=it_f hb13 h
      exact ⟨m,Nat.lt_succ_self m,(w (s1+(1:Int))),rfl,rfl,h⟩
 ·rw [hb5]
  conv=>whnf
  replace h:=it_f hb5 h
  exact hkl1_0 _ _ _ _ _ _ _ _ _ _ _ _ _ _ _ _ _ _ _ _ _ _ _ _ _ _ _ _ _ _ _ _ _ _ _ _ _ _ _ _ _ _ _ _ _ _ _ _ _ _ _ _ _ _ _ _ _ _ _ _ _ _ _ _ _ _ _ _ _ _ _ _ _ _ _ _ _ _ _ _ _ _ _ _ _ _ _ _ _ _ _ _ _ _ _ _ _ _ _ h
theorem x19_l2_ok {row:(List (Int×Int))} {kl2_0:Unit→Option (Int×Int×Int)} {s2:Int} {b:(Int×(List (Int×Int)))} {v:(Int×Int×Int)} {Q:Ex→List AV→List AObj→Prop}   (hR:∀ T H,RetW [.tmp 4,.tmp 5,.tmp 6] (.tuple [(I v.1),(I v.2.1),(I v.2.2)]) .ret T H→Q .ret T H) (hkl2_0:∀ (u0:AV) (u4:AV) (u5:AV) (u6:AV) (u8:AV) (u9:AV) (u10:AV) (u11:AV) (u12:AV) (u13:AV) (u14:AV) (u15:AV) (u16:AV) (u17:AV) (u18:AV) (u19:AV) (u20:AV) (u21:AV) (u22:AV) (u23:AV) (u24:AV) (u25:AV) (u26:AV) (u27:AV) (u28:AV) (u29:AV) (u30:AV) (u31:AV) (u32:AV) (u33:AV) (u34:AV) (u35:AV) (u36:AV) (u37:AV) (u38:AV) (u39:AV) (u40:AV) (u41:AV) (u42:AV) (u43:AV) (u44:AV) (u45:AV) (u46:AV) (u47:AV) (u48:AV) (u49:AV) (u50:AV) (u51:AV) (u52:AV) (u53:AV) (u54:AV) (u55:AV) (u56:AV) (u57:AV) (u58:AV) (u59:AV) (u60:AV) (u61:AV) (u62:AV) (u63:AV) (u64:AV) (u65:AV) (u66:AV) (u67:AV) (u68:AV) (u69:AV) (u70:AV) (u71:AV) (u72:AV) (u73:AV) (u74:AV) (u75:AV) (u76:AV) (u77:AV) (u78:AV) (u79:AV) (u80:AV) (u81:AV) (u82:AV) (u83:AV) (u84:AV) (u85:AV) (u86:AV) (u87:AV) (u88:AV) (u89:AV) (u90:AV) (u91:AV) (u92:AV) (u93:AV) (u94:AV) (u95:AV) (u96:AV) (u97:AV) (u98:AV) (u99:AV) (u100:AV) (u101:AV) (u102:AV),kl2_0 ()=some v→Q (.exit 2) [u0,(.lst (row.flatMap pr) row.length .shared),(.ptr 0 0),J,u4,u5,u6,(I (row.length:Int)),u8,u9,u10,u11,u12,u13,u14,u15,u16,u17,u18,u19,u20,u21,u22,u23,u24,u25,u26,u27,u28,u29,u30,u31,u32,u33,u34,u35,u36,u37,u38,u39,u40,u41,u42,u43,u44,u45,u46,u47,u48,u49,u50,u51,u52,u53,u54,u55,u56,u57,u58,u59,u60,u61,u62,u63,u64,u65,u66,u67,u68,u69,u70,u71,u72,u73,u74,u75,u76,u77,u78,u79,u80,u81,u82,u83,u84,u85,u86,u87,u88,u89,u90,u91,u92,u93,u94,u95,u96,u97,u98,u99,u100,u101,u102] [AObj.cells [(I b.1),(.lst (b.2.flatMap pr) b.2.length .shared)]]) {T:List AV} (hT:zipKeep [o_,i_,i_,o_,o_,o_,o_,i_,o_,i_,o_,o_,o_,o_,o_,o_,o_,o_,o_,o_,o_,o_,o_,o_,o_,o_,o_,o_,o_,o_,o_,o_,o_,o_,o_,o_,o_,o_,o_,o_,o_,o_,o_,o_,o_,o_,o_,o_,o_,o_,o_,o_,o_,o_,o_,o_,o_,o_,o_,o_,o_,o_,o_,o_,o_,o_,o_,o_,o_,o_,o_,o_,o_,o_,o_,o_,o_,o_,o_,o_,o_,o_,o_,o_,o_,o_,o_,o_,o_,o_,o_,o_,o_,o_,o_,o_,o_,o_,o_,o_,o_,o_,o_] T=slots 103 [(1,(.lst (row.flatMap pr) row.length .shared)),(2,(.ptr 0 0)),(7,(I (row.length:Int))),(9,(I s2))]) (h:x19_l2 row kl2_0 FU s2=some v) :
  wpR Tryz.prog ann19 19 0 none xrc19_2 T [AObj.cells [(I b.1),(.lst (b.2.flatMap pr) b.2.length .shared)]] Q:=by
 unfold xrc19_2
 skip
 refine wp_loop hT ?_
 refine .intro (fun m T H=>∃ (s2:Int),T=slots 103 [(1,(.lst (row.flatMap pr) row.length .shared)),(2,(.ptr 0 0)),(7,(I (row.length:Int))),(9,(I s2))]∧H=[AObj.cells [(I b.1),(.lst (b.2.flatMap pr) b.2.length .shared)]]∧x19_l2 row kl2_0 m s2=some v) FU ⟨s2,rfl,rfl,h⟩ ?_
 clear h hT
 rintro m T H ⟨s2,rfl,rfl,h⟩
 cases m
 ·exact none_ne h
 rename_i m
 rw [x19_l2.eq_2] at h
 conv=>whnf
 rcases bt (decide (s2<(row.length:Int))) with hb14 | hb14
 ·rw [hb14]
  conv=>whnf
  replace h:=it_t hb14 h
  obtain ⟨hb15,h⟩:=gd_some h
  refine ⟨hb15,?_⟩
  erw [slHiS pr 2 pr_len row s2 hb15]
  conv=>whnf
  obtain ⟨hb16,h⟩:=gd_some h
  refine ⟨hb16,?_⟩
  rw [dropS pr 2 pr_len row s2 hb16]
  conv=>whnf
  obtain ⟨r3,hb17,h⟩:=bd_some h
  refine ⟨(allc (pu_flat (fun _=>(allc rfl (allc rfl rfl))) _ _ _) (allc rfl rfl)),_,x69_ok hb17,acc0,?_⟩
  conv=>whnf
  cases r3
  ·conv=>whnf
   replace h:=it_f rfl h
   exact ⟨m,Nat.lt_succ_self m,(w (s2+(1:Int))),rfl,rfl,h⟩
  ·conv=>whnf
   replace h:=it_t rfl h
   obtain rfl:=Option.some.inj h
   exact hR _ _ ⟨.inr rfl,_,rfl,_,frz_pure (pu_tup (allc rfl (allc rfl (allc rfl rfl)))),rfl⟩
 ·rw [hb14]
  conv=>whnf
  replace h:=it_f hb14 h
  exact hkl2_0 _ _ _ _ _ _ _ _ _ _ _ _ _ _ _ _ _ _ _ _ _ _ _ _ _ _ _ _ _ _ _ _ _ _ _ _ _ _ _ _ _ _ _ _ _ _ _ _ _ _ _ _ _ _ _ _ _ _ _ _ _ _ _ _ _ _ _ _ _ _ _ _ _ _ _ _ _ _ _ _ _ _ _ _ _ _ _ _ _ _ _ _ _ _ _ _ _ _ _ h
theorem x19_l3_ok {b:(Int×(List (Int×Int)))} {row:(List (Int×Int))} {kl3_0:Unit→Option (Int×Int×Int)} {s3:Int} {v:(Int×Int×Int)} {Q:Ex→List AV→List AObj→Prop}   (hR:∀ T H,RetW [.tmp 4,.tmp 5,.tmp 6] (.tuple [(I v.1),(I v.2.1),(I v.2.2)]) .ret T H→Q .ret T H) (hkl3_0:∀ (u0:AV) (u4:AV) (u5:AV) (u6:AV) (u8:AV) (u9:AV) (u10:AV) (u11:AV) (u12:AV) (u13:AV) (u14:AV) (u15:AV) (u16:AV) (u17:AV) (u18:AV) (u19:AV) (u20:AV) (u21:AV) (u22:AV) (u23:AV) (u24:AV) (u25:AV) (u26:AV) (u27:AV) (u28:AV) (u29:AV) (u30:AV) (u31:AV) (u32:AV) (u33:AV) (u34:AV) (u35:AV) (u36:AV) (u37:AV) (u38:AV) (u39:AV) (u40:AV) (u41:AV) (u42:AV) (u43:AV) (u44:AV) (u45:AV) (u46:AV) (u47:AV) (u48:AV) (u49:AV) (u50:AV) (u51:AV) (u52:AV) (u53:AV) (u54:AV) (u55:AV) (u56:AV) (u57:AV) (u58:AV) (u59:AV) (u60:AV) (u61:AV) (u62:AV) (u63:AV) (u64:AV) (u65:AV) (u66:AV) (u67:AV) (u68:AV) (u69:AV) (u70:AV) (u71:AV) (u72:AV) (u73:AV) (u74:AV) (u75:AV) (u76:AV) (u77:AV) (u78:AV) (u79:AV) (u80:AV) (u81:AV) (u82:AV) (u83:AV) (u84:AV) (u85:AV) (u86:AV) (u87:AV) (u88:AV) (u89:AV) (u90:AV) (u91:AV) (u92:AV) (u93:AV) (u94:AV) (u95:AV) (u96:AV) (u97:AV) (u98:AV) (u99:AV) (u100:AV) (u101:AV) (u102:AV),kl3_0 ()=some v→Q (.exit 4) [u0,(.lst (row.flatMap pr) row.length .shared),(.ptr 0 0),J,u4,u5,u6,(I (row.length:Int)),u8,u9,u10,u11,u12,u13,u14,u15,u16,u17,u18,u19,u20,u21,u22,u23,u24,u25,u26,u27,u28,u29,u30,u31,u32,u33,u34,u35,u36,u37,u38,u39,u40,u41,u42,u43,u44,u45,u46,u47,u48,u49,u50,u51,u52,u53,u54,u55,u56,u57,u58,u59,u60,u61,u62,u63,u64,u65,u66,u67,u68,u69,u70,u71,u72,u73,u74,u75,u76,u77,u78,u79,u80,u81,u82,u83,u84,u85,u86,u87,u88,u89,u90,u91,u92,u93,u94,u95,u96,u97,u98,u99,u100,u101,u102] [AObj.cells [(I b.1),(.lst (b.2.flatMap pr) b.2.length .shared)]]) {T:List AV} (hT:zipKeep [o_,i_,i_,o_,o_,o_,o_,i_,o_,o_,i_,o_,o_,o_,o_,o_,o_,o_,o_,o_,o_,o_,o_,o_,o_,o_,o_,o_,o_,o_,o_,o_,o_,o_,o_,o_,o_,o_,o_,o_,o_,o_,o_,o_,o_,o_,o_,o_,o_,o_,o_,o_,o_,o_,o_,o_,o_,o_,o_,o_,o_,o_,o_,o_,o_,o_,o_,o_,o_,o_,o_,o_,o_,o_,o_,o_,o_,o_,o_,o_,o_,o_,o_,o_,o_,o_,o_,o_,o_,o_,o_,o_,o_,o_,o_,o_,o_,o_,o_,o_,o_,o_,o_] T=slots 103 [(1,(.lst (row.flatMap pr) row.length .shared)),(2,(.ptr 0 0)),(7,(I (row.length:Int))),(10,(I s3))]) (h:x19_l3 b row kl3_0 FU s3=some v) :
  wpR Tryz.prog ann19 19 0 none xrc19_3 T [AObj.cells [(I b.1),(.lst (b.2.flatMap pr) b.2.length .shared)]] Q:=by
 unfold xrc19_3
 skip
 refine wp_loop hT ?_
 refine .intro (fun m T H=>∃ (s3:Int),T=slots 103 [(1,(.lst (row.flatMap pr) row.length .shared)),(2,(.ptr 0 0)),(7,(I (row.length:Int))),(10,(I s3))]∧H=[AObj.cells [(I b.1),(.lst (b.2.flatMap pr) b.2.length .shared)]]∧x19_l3 b row kl3_0 m s3=some v) FU ⟨s3,rfl,rfl,h⟩ ?_
 clear h hT
 rintro m T H ⟨s3,rfl,rfl,h⟩
 cases m
 ·exact none_ne h
 rename_i m
 rw [x19_l3.eq_2] at h
 conv=>whnf
 rcases bt (decide (s3<(row.length:Int))) with hb18 | hb18
 ·rw [hb18]
  conv=>whnf
  replace h:=it_t hb18 h
  obtain ⟨hb19,h⟩:=gd_some h
  refine ⟨hb19,?_⟩
  rw [dropS pr 2 pr_len row (w (s3-(1:Int))) hb19]
  conv=>whnf
  obtain ⟨r4,hb20,h⟩:=bd_some h
  refine ⟨(allc (pu_agg (allc rfl (allc (pu_flat (fun _=>(allc rfl (allc rfl rfl))) _ _ _) rfl))) (allc (pu_agg (allc rfl (allc rfl rfl))) rfl)),_,x70_ok hb20,acc0,?_⟩
  conv=>whnf
  obtain ⟨hb21,h⟩:=gd_some h
  refine ⟨hb21,?_⟩
  rw [dropS pr 2 pr_len row s3 hb21]
  conv=>whnf
  obtain ⟨r5,hb22,h⟩:=bd_some h
  refine ⟨(allc (pu_agg (allc rfl (allc (pu_flat (fun _=>(allc rfl (allc rfl rfl))) _ _ _) rfl))) (allc (pu_agg (allc rfl (allc rfl rfl))) rfl)),_,x57_ok hb22,accN rfl,?_⟩
  conv=>whnf
  rcases bt (decide (r4≠r5)) with hb23 | hb23
  ·rw [hb23]
   conv=>whnf
   replace h:=it_t hb23 h
   obtain rfl:=Option.some.inj h
   exact hR _ _ ⟨.inr rfl,_,rfl,_,frz_pure (pu_tup (allc rfl (allc rfl (allc rfl rfl)))),rfl⟩
  ·rw [hb23]
   conv=>whnf
   replace h:=it_f hb23 h
   exact ⟨m,Nat.lt_succ_self m,(w (s3+(1:Int))),rfl,rfl,h⟩
 ·rw [hb18]
  conv=>whnf
  replace h:=it_f hb18 h
  exact hkl3_0 _ _ _ _ _ _ _ _ _ _ _ _ _ _ _ _ _ _ _ _ _ _ _ _ _ _ _ _ _ _ _ _ _ _ _ _ _ _ _ _ _ _ _ _ _ _ _ _ _ _ _ _ _ _ _ _ _ _ _ _ _ _ _ _ _ _ _ _ _ _ _ _ _ _ _ _ _ _ _ _ _ _ _ _ _ _ _ _ _ _ _ _ _ _ _ _ _ _ _ h
theorem x19_ok {b:(Int×(List (Int×Int)))} {row:(List (Int×Int))} {v:(Int×Int×Int)} (h:x19 b row=some v):PO 19 [(.agg [(I b.1),(.lst (b.2.flatMap pr) b.2.length .shared)]),(.lst (row.flatMap pr) row.length .shared)] (.tuple [(I v.1),(I v.2.1),(I v.2.2)]):=by
 refine fn_pureW hmix lxx19 rfl (pu_tup (allc rfl (allc rfl (allc rfl rfl)))) fun Q hQ=>?_
 have hR:∀ T H,RetW [.tmp 4,.tmp 5,.tmp 6] (.tuple [(I v.1),(I v.2.1),(I v.2.2)]) .ret T H→Q .ret T H:=fun T H hh=>hQ _ T H hh
 unfold x19 at h
 unfold xrc19
 obtain ⟨c_1,g_1⟩:∃ c,xrc19_1=c:=⟨_,rfl⟩
 rw [g_1]
 obtain ⟨c_2,g_2⟩:∃ c,xrc19_2=c:=⟨_,rfl⟩
 rw [g_2]
 obtain ⟨c_3,g_3⟩:∃ c,xrc19_3=c:=⟨_,rfl⟩
 rw [g_3]
 conv=>whnf
 obtain ⟨r1,hb1,h⟩:=bd_some h
 refine ⟨(allc (pu_agg (allc rfl (allc (pu_flat (fun _=>(allc rfl (allc rfl rfl))) _ _ _) rfl))) rfl),_,x21_ok hb1,?_⟩
 conv=>whnf
 rcases bt (decide (r1≠(0:Int))) with hb2 | hb2
 ·rw [hb2]
  conv=>whnf
  replace h:=it_t hb2 h
  obtain ⟨r2,hb3,h⟩:=bd_some h
  refine ⟨(allc (pu_agg (allc rfl (allc (pu_flat (fun _=>(allc rfl (allc rfl rfl))) _ _ _) rfl))) rfl),_,x21_ok hb3,?_⟩
  conv=>whnf
  obtain rfl:=Option.some.inj h
  exact hR _ _ ⟨.inr rfl,_,rfl,_,frz_pure (pu_tup (allc rfl (allc rfl (allc rfl rfl)))),rfl⟩
 ·rw [hb2]
  conv=>whnf
  replace h:=it_f hb2 h
  rcases bt (decide ((row.length:Int)=(0:Int))) with hb4 | hb4
  ·rw [hb4]
   conv=>whnf
   replace h:=it_t hb4 h
   obtain rfl:=Option.some.inj h
   exact hR _ _ ⟨.inr rfl,_,rfl,_,frz_pure (pu_tup (allc rfl (allc rfl (allc rfl rfl)))),rfl⟩
  ·rw [hb4]
   conv=>whnf
   replace h:=it_f hb4 h
   subst g_1
   refine x19_l1_ok ?_ ?_ (by exact rfl) h
   ·exact fun T H hh=>hR T H hh
   ·intro u0 u4 u5 u6 u8 u9 u10 u11 u12 u13 u14 u15 u16 u17 u18 u19 u20 u21 u22 u23 u24 u25 u26 u27 u28 u29 u30 u31 u32 u33 u34 u35 u36 u37 u38 u39 u40 u41 u42 u43 u44 u45 u46 u47 u48 u49 u50 u51 u52 u53 u54 u55 u56 u57 u58 u59 u60 u61 u62 u63 u64 u65 u66 u67 u68 u69 u70 u71 u72 u73 u74 u75 u76 u77 u78 u79 u80 u81 u82 u83 u84 u85 u86 u87 u88 u89 u90 u91 u92 u93 u94 u95 u96 u97 u98 u99 u100 u101 u102 h
    conv=>whnf
    subst g_2
    refine x19_l2_ok ?_ ?_ (by exact rfl) h
    ·exact fun T H hh=>hR T H hh
    ·intro u0 u4 u5 u6 u8 u9 u10 u11 u12 u13 u14 u15 u16 u17 u18 u19 u20 u21 u22 u23 u24 u25 u26 u27 u28 u29 u30 u31 u32 u33 u34 u35 u36 u37 u38 u39 u40 u41 u42 u43 u44 u45 u46 u47 u48 u49 u50 u51 u52 u53 u54 u55 u56 u57 u58 u59 u60 u61 u62 u63 u64 u65 u66 u67 u68 u69 u70 u71 u72 u73 u74 u75 u76 u77 u78 u79 u80 u81 u82 u83 u84 u85 u86 u87 u88 u89 u90 u91 u92 u93 u94 u95 u96 u97 u98 u99 u100 u101 u102 h
     conv=>whnf
     subst g_3
     refine x19_l3_ok ?_ ?_ (by exact rfl) h
     ·exact fun T H hh=>hR T H hh
     ·intro u0 u4 u5 u6 u8 u9 u10 u11 u12 u13 u14 u15 u16 u17 u18 u19 u20 u21 u22 u23 u24 u25 u26 u27 u28 u29 u30 u31 u32 u33 u34 u35 u36 u37 u38 u39 u40 u41 u42 u43 u44 u45 u46 u47 u48 u49 u50 u51 u52 u53 u54 u55 u56 u57 u58 u59 u60 u61 u62 u63 u64 u65 u66 u67 u68 u69 u70 u71 u72 u73 u74 u75 u76 u77 u78 u79 u80 u81 u82 u83 u84 u85 u86 u87 u88 u89 u90 u91 u92 u93 u94 u95 u96 u97 u98 u99 u100 u101 u102 h
      conv=>whnf
      obtain ⟨hb24,h⟩:=gd_some h
      refine ⟨hb24,?_⟩
      rw [dropS pr 2 pr_len row (0:Int) hb24]
      conv=>whnf
      obtain ⟨r6,hb25,h⟩:=bd_some h
      refine ⟨(allc (pu_agg (allc rfl (allc (pu_flat (fun _=>(allc rfl (allc rfl rfl))) _ _ _) rfl))) (allc (pu_agg (allc rfl (allc rfl rfl))) rfl)),_,x57_ok hb25,acc0,?_⟩
      conv=>whnf
      obtain ⟨hb26,h⟩:=gd_some h
      refine ⟨hb26,?_⟩
      rw [dropS pr 2 pr_len row (w ((row.length:Int)-(1:Int))) hb26]
      conv=>whnf
      obtain ⟨r7,hb27,h⟩:=bd_some h
      refine ⟨(allc (pu_agg (allc rfl (allc (pu_flat (fun _=>(allc rfl (allc rfl rfl))) _ _ _) rfl))) (allc (pu_agg (allc rfl (allc rfl rfl))) rfl)),_,x70_ok hb27,accN rfl,?_⟩
      conv=>whnf
      obtain rfl:=Option.some.inj h
      exact hR _ _ ⟨.inr rfl,_,rfl,_,frz_pure (pu_tup (allc rfl (allc rfl (allc rfl rfl)))),rfl⟩

def x22 (b:(Int×(List (Int×Int)))) (row:(List (Int×Int))):Option Int :=
 (x18 b row).bind fun r1 =>
 if (decide (r1.2.2≠(0:Int)))=true then
  some r1.2.2
 else
  if (decide ((row.length:Int)<(b.2.length:Int)))=true then
   some (15:Int)
  else
   if (decide (r1.1≠r1.2.1))=true then
    some (27:Int)
   else
    some (0:Int)

def x23 (b:(Int×(List (Int×Int)))) (row:(List (Int×Int))):Option Int :=
 (x19 b row).bind fun r1 =>
 if (decide (r1.2.2≠(0:Int)))=true then
  some r1.2.2
 else
  if (decide ((row.length:Int)≠(b.2.length:Int)))=true then
   some (15:Int)
  else
   if (decide (r1.1≠r1.2.1))=true then
    some (27:Int)
   else
    some (0:Int)

def x3 (b:(Int×(List (Int×Int)))) (l:(List (Int×Int))):Option Bool :=
 (x16 b).bind fun r1 =>
 if r1=true then
  (x17).bind fun r2 =>
  some r2
 else
  if (decide ((14:Int)<(l.length:Int)))=true then
   (x17).bind fun r3 =>
   some r3
  else
   (x18 b l).bind fun r4 =>
   (x19 b l).bind fun r5 =>
   (x20 b).bind fun r6 =>
   (x21 b).bind fun r7 =>
   if (decide (r6=r7))=true then
    if (decide (r4.1=r5.1))=true then
     if (decide (r4.2.1=r5.2.1))=true then
      if (decide (r4.2.2=r5.2.2))=true then
       (x22 b l).bind fun r8 =>
       (x23 b l).bind fun r9 =>
       if (decide (r8=r9))=true then
        (x17).bind fun r10 =>
        some r10
       else
        some false
      else
       some false
     else
      some false
    else
     some false
   else
    some false
end Go.Proofs.YtfakoboiahbhaaaGreat.Ab


namespace Go.Proofs.YtfakoboiahbhaaaGreat.Ab
open Go
def offB (lo hi x:Int):Bool:=decide (x<lo) || decide (hi<x)
theorem offB_false {lo hi x:Int}:offB lo hi x=false↔lo≤x∧x≤hi:=by
 simp only [offB,Bool.or_eq_false_iff,decide_eq_false_iff_not];omega
theorem offB_true {lo hi x:Int}:offB lo hi x=true↔x<lo∨hi<x:=by
 simp only [offB,Bool.or_eq_true,decide_eq_true_eq]
def posOf {α:Type} (p:α→Bool):List α→Nat→Int
 | [],_ => -1
 | x::l,i=>if p x=true then (i:Int) else posOf p l (i+1)
theorem posOf_any {α:Type} (p:α→Bool):∀ (l:List α) (i:Nat),decide (0≤posOf p l i)=l.any p
 | [],_=>rfl
 | x::l,i=>by
   rw [posOf,List.any_cons]
   by_cases h:p x=true
   ·rw [if_pos h,h];simp
   ·rw [if_neg h,posOf_any p l (i+1)];simp [h]
theorem x93_eq (n lo hi:Int):x93 n lo hi=some (offB lo hi n):=by
 unfold x93 offB;by_cases h:n<lo <;> simp [h]
theorem x114_l1_eq {s:List Int} {f:Int→Option Bool} {p:Int→Bool} (hf:∀ x∈s,f x=some (p x)) (hs:s.length≤140737488355328):∀ (m i:Nat) (z:Int),z=i→i≤s.length→s.length-i<m→x114_l1 s f (fun _=>some (-1:Int)) m z=some (posOf p (s.drop i) i)
 | 0,i,_,_,_,h=>absurd h (by omega)
 | m+1,i,_,rfl,hi,hm=>by
   rw [x114_l1]
   by_cases h:i<s.length
   ·rw [iflt h,gdi h,ix_nat h,hf _ (List.getElem_mem h),Option.bind_some,List.drop_eq_getElem_cons h,posOf]
    by_cases hp:p s[i]=true
    ·rw [if_pos hp,if_pos hp]
    ·rw [if_neg hp,if_neg hp,w_succ i (by omega),x114_l1_eq hf hs m (i+1) _ rfl (by omega) (by omega)]
   ·rw [ifge h,List.drop_eq_nil_of_le (by omega)];rfl
theorem x94_l1_eq {s:List (Int×Int)} {f:Int×Int→Option Bool} {p:Int×Int→Bool} (hf:∀ x∈s,f x=some (p x)) (hs:s.length≤140737488355328):∀ (m i:Nat) (z:Int),z=i→i≤s.length→s.length-i<m→x94_l1 s f (fun _=>some (-1:Int)) m z=some (posOf p (s.drop i) i)
 | 0,i,_,_,_,h=>absurd h (by omega)
 | m+1,i,_,rfl,hi,hm=>by
   rw [x94_l1]
   by_cases h:i<s.length
   ·rw [iflt h,gdi h,ix_nat h,hf _ (List.getElem_mem h),Option.bind_some,List.drop_eq_getElem_cons h,posOf]
    by_cases hp:p s[i]=true
    ·rw [if_pos hp,if_pos hp]
    ·rw [if_neg hp,if_neg hp,w_succ i (by omega),x94_l1_eq hf hs m (i+1) _ rfl (by omega) (by omega)]
   ·rw [ifge h,List.drop_eq_nil_of_le (by omega)];rfl
theorem x95_l1_eq {s:List (Int×Int)} {f:Int×Int→Option Bool} {p:Int×Int→Bool} (hf:∀ x∈s,f x=some (p x)) (hs:s.length≤140737488355328):∀ (m i:Nat) (z:Int),z=i→i≤s.length→s.length-i<m→x95_l1 s f (fun _=>some (-1:Int)) m z=some (posOf p (s.drop i) i)
 | 0,i,_,_,_,h=>absurd h (by omega)
 | m+1,i,_,rfl,hi,hm=>by
   rw [x95_l1]
   by_cases h:i<s.length
   ·rw [iflt h,gdi h,ix_nat h,hf _ (List.getElem_mem h),Option.bind_some,List.drop_eq_getElem_cons h,posOf]
    by_cases hp:p s[i]=true
    ·rw [if_pos hp,if_pos hp]
    ·rw [if_neg hp,if_neg hp,w_succ i (by omega),x95_l1_eq hf hs m (i+1) _ rfl (by omega) (by omega)]
   ·rw [ifge h,List.drop_eq_nil_of_le (by omega)];rfl
theorem x92_eq {s:List Int} {f:Int→Option Bool} {p:Int→Bool} (hf:∀ x∈s,f x=some (p x)) (hs:s.length≤140737488355328):x92 s f=some (s.any p):=by
 have:=x114_l1_eq hf hs FU 0 0 rfl (Nat.zero_le _) (FU_lt (by omega))
 rw [List.drop_zero] at this
 rw [x92,x114,this,Option.bind_some,posOf_any]
theorem x67_eq {s:List (Int×Int)} {f:Int×Int→Option Bool} {p:Int×Int→Bool} (hf:∀ x∈s,f x=some (p x)) (hs:s.length≤140737488355328):x67 s f=some (s.any p):=by
 have:=x94_l1_eq hf hs FU 0 0 rfl (Nat.zero_le _) (FU_lt (by omega))
 rw [List.drop_zero] at this
 rw [x67,x94,this,Option.bind_some,posOf_any]
theorem x72_eq {s:List (Int×Int)} {f:Int×Int→Option Bool} {p:Int×Int→Bool} (hf:∀ x∈s,f x=some (p x)) (hs:s.length≤140737488355328):x72 s f=some (s.any p):=by
 have:=x95_l1_eq hf hs FU 0 0 rfl (Nat.zero_le _) (FU_lt (by omega))
 rw [List.drop_zero] at this
 rw [x72,x95,this,Option.bind_some,posOf_any]
theorem x66_eq (lo hi:Int) (l:List Int) (hl:l.length≤140737488355328):x66 lo hi l=some (!(l.any (offB lo hi))):=by
 rw [x66,x92_eq (p:=offB lo hi) (fun x _=>x93_eq x lo hi) hl,Option.bind_some]
def strayS (f:Int) (s:Int×Int):Bool:=offB 0 (f-1) s.1 || offB 0 (f-1) s.2
def bkErr (b:Bk):Int:=if b.1<1∨6<b.1∨(10:Int)<(b.2.length:Int) then 6 else if b.2.any (strayS b.1)=true then 3 else 0
structure Book (b:Bk):Prop where
 f1:1≤b.1
 f6:b.1≤6
 len:b.2.length≤10
 left:∀ s∈b.2,0≤s.1∧s.1<b.1
 right:∀ s∈b.2,0≤s.2∧s.2<b.1
theorem bkErr_zero {b:Bk}:bkErr b=0↔Book b:=by
 unfold bkErr
 constructor
 ·intro h
  split at h
  ·omega
  ·rename_i h1
   split at h
   ·omega
   ·rename_i h2
    have h2:b.2.any (strayS b.1)=false:=by simpa using h2
    rw [List.any_eq_false] at h2
    have h3:∀ s∈b.2,offB 0 (b.1-1) s.1=false∧offB 0 (b.1-1) s.2=false:=fun s hs=>by
     have:=h2 s hs;unfold strayS at this;simpa using this
    exact ⟨by omega,by omega,by omega,fun s hs=>by have:=offB_false.1 (h3 s hs).1;omega,fun s hs=>by have:=offB_false.1 (h3 s hs).2;omega⟩
 ·intro h
  obtain ⟨h1,h2,h3,h4,h5⟩:=h
  rw [if_neg (by omega),if_neg]
  rw [Bool.not_eq_true,List.any_eq_false]
  intro s hs
  have a:=h4 s hs;have c:=h5 s hs
  unfold strayS
  rw [offB_false.2 (by omega),offB_false.2 (by omega)];decide
theorem x20_eq (b:Bk) (hb:b.2.length≤1000):x20 b=some (bkErr b):=by
 rw [x20,x66_eq _ _ _ (by simp),Option.bind_some]
 unfold bkErr
 simp only [List.any_cons,List.any_nil,Bool.or_false]
 by_cases h:1≤b.1∧b.1≤6
 ·rw [offB_false.2 h,if_pos (by decide)]
  by_cases h2:(10:Int)<(b.2.length:Int)
  ·rw [if_pos (decide_eq_true h2),if_pos (by omega)]
  ·rw [if_neg (by simpa using h2),if_neg (by omega),x72_eq (p:=strayS b.1) (fun s _=>by
    rw [x71,w_id (by omega),x66_eq _ _ _ (by simp),Option.bind_some]
    simp [strayS]) (by omega),Option.bind_some]
   cases b.2.any (strayS b.1) <;> rfl
 ·have:offB 1 6 b.1=true:=by rw [offB_true];omega
  rw [this,if_neg (by decide),if_pos (by omega)]
theorem x21_l1_eq {b:Bk} (hb:b.2.length≤1000) (hf:1≤b.1):∀ (m i:Nat) (z:Int),z=i→i≤b.2.length→b.2.length-i<m→x21_l1 b (fun _=>some (0:Int)) m z=some (if (b.2.drop i).any (strayS b.1)=true then 3 else 0)
 | 0,i,_,_,_,h=>absurd h (by omega)
 | m+1,i,_,rfl,hi,hm=>by
   rw [x21_l1]
   by_cases h:i<b.2.length
   ·rw [iflt h,gdi h,ix_nat h,List.drop_eq_getElem_cons h,List.any_cons]
    have e:strayS b.1 b.2[i]=true↔b.2[i].1<0∨b.1≤b.2[i].1∨b.2[i].2<0∨b.1≤b.2[i].2:=by
     unfold strayS;rw [Bool.or_eq_true,offB_true,offB_true];omega
    by_cases hs:strayS b.1 b.2[i]=true
    ·have h':=e.1 hs
     rw [hs,Bool.true_or,if_pos rfl]
     by_cases a1:b.2[i].1<0
     ·rw [if_pos (decide_eq_true a1)]
     rw [if_neg (by simpa using a1)]
     by_cases a2:b.1≤b.2[i].1
     ·rw [if_pos (decide_eq_true a2)]
     rw [if_neg (by simpa using a2)]
     by_cases a3:b.2[i].2<0
     ·rw [if_pos (decide_eq_true a3)]
     rw [if_neg (by simpa using a3),if_pos (decide_eq_true (by omega))]
    ·have h':=(not_congr e).1 hs
     have hs':strayS b.1 b.2[i]=false:=by simpa using hs
     rw [hs',Bool.false_or,if_neg (by simp;omega),if_neg (by simp;omega),if_neg (by simp;omega),if_neg (by simp;omega),w_succ i (by omega),x21_l1_eq hb hf m (i+1) _ rfl (by omega) (by omega)]
   ·rw [ifge h,List.drop_eq_nil_of_le (by omega)];rfl
theorem x21_eq (b:Bk) (hb:b.2.length≤1000):x21 b=some (bkErr b):=by
 rw [x21];unfold bkErr
 by_cases h1:b.1<1
 ·rw [if_pos (decide_eq_true h1),if_pos (.inl h1)]
 rw [if_neg (by simpa using h1)]
 by_cases h2:6<b.1
 ·rw [if_pos (decide_eq_true h2),if_pos (.inr (.inl h2))]
 rw [if_neg (by simpa using h2)]
 by_cases h3:(10:Int)<(b.2.length:Int)
 ·rw [if_pos (decide_eq_true h3),if_pos (.inr (.inr h3))]
 rw [if_neg (by simpa using h3),if_neg (by omega),x21_l1_eq hb (by omega) FU 0 0 rfl (Nat.zero_le _) (FU_lt (by omega)),List.drop_zero]
abbrev Row:=List (Int×Int)
def strayP (b:Bk) (p:Int×Int):Bool:=offB 0 ((b.2.length:Int)-1) p.1 || offB 0 1 p.2
theorem strayP_false {b:Bk} {p:Int×Int}:strayP b p=false↔0≤p.1∧p.1<(b.2.length:Int)∧0≤p.2∧p.2≤1:=by
 unfold strayP;rw [Bool.or_eq_false_iff,offB_false,offB_false];omega
def dupGo:Row→Row→Bool
 | _,[]=>false
 | pre,p::r=>if (pre.any fun q=>decide (q.1=p.1))=true then true else dupGo (pre++[p]) r
def runGo (b:Bk):Int→Row→Option Int
 | a,[]=>some a
 | a,p::r=>if beg b p=a then runGo b (fin b p) r else none
def checkRow (b:Bk) (row:Row):Int×Int×Int :=
 if bkErr b≠0 then (0,0,bkErr b) else match row with
 | []=>(0,0,6)
 | p::r=>if (p::r).any (strayP b)=true then (0,0,3) else if dupGo [] (p::r)=true then (0,0,11) else match runGo b (beg b p) (p::r) with
   | none=>(0,0,27)
   | some a=>(beg b p,a,0)
theorem x65_eq {b:Bk} (hb:b.2.length≤1000) (p:Int×Int):x65 p b=some (strayP b p):=by
 rw [x65,w_id (by omega),x66_eq _ _ _ (by simp),Option.bind_some]
 unfold strayP
 simp only [List.any_cons,List.any_nil,Bool.or_false]
 cases offB 0 ((b.2.length:Int)-1) p.1 with
 | true=>rfl
 | false=>rw [if_pos (by decide),x66_eq _ _ _ (by simp),Option.bind_some];simp
theorem any_snoc {α:Type} (f:α→Bool) (l:List α) (x:α):(l++[x]).any f=(l.any f || f x):=by simp
theorem take_snoc {α:Type} {l:List α} {i:Nat} (h:i<l.length):l.take (i+1)=l.take i++[l[i]]:=by
 rw [List.take_add_one,List.getElem?_eq_getElem h];rfl
theorem ix_set_self {t:List Int} {c:Nat} {x:Int} (h:c<t.length):ix (t.set c x) (c:Int)=x:=by unfold ix;simp [List.getD_eq_getElem?_getD,h]
theorem ix_set_ne {t:List Int} {c j:Nat} {x:Int} (h:j≠c):ix (t.set c x) (j:Int)=ix t (j:Int):=by unfold ix;simp [List.getD_eq_getElem?_getD,List.getElem?_set_ne (Ne.symm h)]
theorem ix_zero {n:Nat} (j:Int):ix (List.replicate n (0:Int)) j=0:=by
 unfold ix;rw [List.getD_eq_getElem?_getD,List.getElem?_replicate];split <;> rfl
theorem x18_l2_eq {row:Row} {k:Unit→Option (Int×Int×Int)} (hr:row.length≤1000) (hin:∀ p∈row,0≤p.1∧p.1<10):∀ (m i:Nat) (z:Int) (t:List Int),z=i→i≤row.length→row.length-i<m→t.length=10 →
  (∀ j:Nat,j<10→(0<ix t (j:Int)↔((row.take i).any fun q=>decide (q.1=(j:Int)))=true))→x18_l2 row k m z t=if dupGo (row.take i) (row.drop i)=true then some (0,0,11) else k ()
 | 0,i,_,_,_,_,h,_,_=>absurd h (by omega)
 | m+1,i,_,t,rfl,hi,hm,ht,hT=>by
   rw [x18_l2]
   by_cases h:i<row.length
   ·have hp:=hin _ (List.getElem_mem h)
    obtain ⟨c,hc⟩:∃ c:Nat,row[i].1=(c:Int):=⟨row[i].1.toNat,by omega⟩
    rw [iflt h,gdi h,ix_nat h,gd_pos ⟨hp.1,hp.2,ht.symm⟩,List.drop_eq_getElem_cons h,dupGo,hc]
    by_cases hx:0<ix t (c:Int)
    ·rw [if_pos (decide_eq_true hx),if_pos ((hT c (by omega)).1 hx),if_pos rfl]
    ·rw [if_neg (by simpa using hx),if_neg (fun e=>hx ((hT c (by omega)).2 e)),gd_pos ⟨by omega,by omega,ht.symm⟩,w_succ i (by omega),
      x18_l2_eq hr hin m (i+1) _ _ rfl (by omega) (by omega) (by simpa using ht) (fun j hj=>?_),take_snoc h]
     rw [take_snoc h,any_snoc,hc]
     by_cases hjc:j=c
     ·subst hjc
      rw [Int.toNat_natCast,ix_set_self (by omega)];simp
     ·rw [Int.toNat_natCast,ix_set_ne hjc,hT j hj]
      simp [show ¬ (c:Int)=(j:Int) by omega]
   ·rw [ifge h,List.drop_eq_nil_of_le (by omega)];simp [dupGo]
theorem x18_l3_eq {b:Bk} {row:Row} {k:Int→Option (Int×Int×Int)} (hr:row.length≤1000) (hin:∀ p∈row,0≤p.1∧p.1<(b.2.length:Int)):∀ (m i:Nat) (z a:Int),z=i→i≤row.length→row.length-i<m →
  x18_l3 row b k m a z=match runGo b a (row.drop i) with | none=>some (0,0,27) | some a'=>k a'
 | 0,i,_,_,_,_,h=>absurd h (by omega)
 | m+1,i,_,a,rfl,hi,hm=>by
   rw [x18_l3]
   by_cases h:i<row.length
   ·rw [iflt h,gdi h,ix_nat h,x68_eq (hin _ (List.getElem_mem h)),Option.bind_some,List.drop_eq_getElem_cons h,runGo]
    by_cases hb:beg b row[i]=a
    ·rw [if_pos hb,if_neg (by simp [hb]),w_succ i (by omega),x18_l3_eq hr hin m (i+1) _ _ rfl (by omega) (by omega)]
    ·rw [if_neg hb,if_pos (decide_eq_true hb)]
   ·rw [ifge h,List.drop_eq_nil_of_le (by omega)];rfl
theorem x18_eq (b:Bk) (row:Row) (hb:b.2.length≤1000) (hr:row.length≤1000):x18 b row=some (checkRow b row):=by
 rw [x18,x64,x20_eq b hb,Option.bind_some]
 unfold checkRow
 by_cases h0:bkErr b≠0
 ·rw [if_pos (decide_eq_true h0),Option.bind_some]
  dsimp only
  rw [if_pos (decide_eq_true h0),if_pos h0]
 have hB:=bkErr_zero.1 (Decidable.not_not.1 h0)
 rw [if_neg (by simpa using h0),Option.bind_some,if_neg h0]
 dsimp only
 rw [if_neg (by decide)]
 cases row with
 | nil=>rfl
 | cons p r =>
   rw [if_neg (by simp;omega),x67_eq (p:=strayP b) (fun q _=>x65_eq hb q) (by omega),Option.bind_some]
   dsimp only
   by_cases h1:(p::r).any (strayP b)=true
   ·rw [if_pos h1,if_pos h1]
   rw [if_neg h1,if_neg h1,gd_pos (by simp)]
   have h1':(p::r).any (strayP b)=false:=by simpa using h1
   rw [List.any_eq_false] at h1'
   have hin:∀ q∈p::r,0≤q.1∧q.1<(b.2.length:Int):=fun q hq=>by
    have:=strayP_false.1 (by simpa using h1' q hq);exact ⟨this.1,this.2.1⟩
   have hlen:=hB.len
   rw [x18_l2_eq hr (fun q hq=>by have:=hin q hq;omega) FU 0 0 _ rfl (Nat.zero_le _) (FU_lt (by omega)) (by simp) (fun j hj=>by rw [ix_zero];simp),List.take_zero,List.drop_zero]
   by_cases h2:dupGo [] (p::r)=true
   ·rw [if_pos h2,if_pos h2]
   rw [if_neg h2,if_neg h2,gd_pos (by simp),show ix (p::r) (0:Int)=p from rfl,x68_eq (hin p (by simp)),Option.bind_some,x18_l3_eq hr hin FU 0 0 _ rfl (Nat.zero_le _) (FU_lt (by omega)),List.drop_zero]
   cases runGo b (beg b p) (p::r) <;> rfl
theorem x69_l1_eq {row:Row} {s:Int} (hr:row.length≤1000):∀ (m i:Nat) (z:Int),z=i→i≤row.length→row.length-i<m→x69_l1 row s (fun _=>some false) m z=some ((row.drop i).any fun q=>decide (q.1=s))
 | 0,i,_,_,_,h=>absurd h (by omega)
 | m+1,i,_,rfl,hi,hm=>by
   rw [x69_l1]
   by_cases h:i<row.length
   ·rw [iflt h,gdi h,ix_nat h,List.drop_eq_getElem_cons h,List.any_cons]
    by_cases hp:row[i].1=s
    ·rw [if_pos (decide_eq_true hp)];simp [hp]
    ·rw [if_neg (by simpa using hp),w_succ i (by omega),x69_l1_eq hr m (i+1) _ rfl (by omega) (by omega)];simp [hp]
   ·rw [ifge h,List.drop_eq_nil_of_le (by omega)];rfl
theorem x69_eq (row:Row) (s:Int) (hr:row.length≤1000):x69 row s=some (row.any fun q=>decide (q.1=s)):=by
 rw [x69,x69_l1_eq hr FU 0 0 rfl (Nat.zero_le _) (FU_lt (by omega)),List.drop_zero]
theorem x57_eq {b:Bk} {p:Int×Int} (h:strayP b p=false):x57 b p=some (beg b p):=by
 have h:=strayP_false.1 h
 rw [x57];unfold beg
 by_cases h1:p.2=1
 ·rw [if_pos (decide_eq_true h1),if_pos (by omega),gd_pos ⟨by omega,by omega⟩]
 ·rw [if_neg (by simpa using h1),if_neg (by omega),gd_pos ⟨by omega,by omega⟩]
theorem x70_eq {b:Bk} {p:Int×Int} (h:strayP b p=false):x70 b p=some (fin b p):=by
 have h:=strayP_false.1 h
 rw [x70];unfold fin
 by_cases h1:p.2=1
 ·rw [if_pos (decide_eq_true h1),if_pos (by omega),gd_pos ⟨by omega,by omega⟩]
 ·rw [if_neg (by simpa using h1),if_neg (by omega),gd_pos ⟨by omega,by omega⟩]
theorem x19_l1_eq {b:Bk} {row:Row} {k:Unit→Option (Int×Int×Int)} (hr:row.length≤1000):∀ (m i:Nat) (z:Int),z=i→i≤row.length→row.length-i<m →
  x19_l1 b row k m z=if (row.drop i).any (strayP b)=true then some (0,0,3) else k ()
 | 0,i,_,_,_,h=>absurd h (by omega)
 | m+1,i,_,rfl,hi,hm=>by
   rw [x19_l1]
   by_cases h:i<row.length
   ·rw [iflt h,gdi h,ix_nat h,List.drop_eq_getElem_cons h,List.any_cons]
    have e:strayP b row[i]=true↔row[i].1<0∨(b.2.length:Int)≤row[i].1∨row[i].2<0∨1<row[i].2:=by
     unfold strayP;rw [Bool.or_eq_true,offB_true,offB_true];omega
    by_cases hs:strayP b row[i]=true
    ·have h':=e.1 hs
     rw [hs,Bool.true_or,if_pos rfl]
     by_cases a1:row[i].1<0
     ·rw [if_pos (decide_eq_true a1)]
     rw [if_neg (by simpa using a1),gdi h]
     by_cases a2:(b.2.length:Int)≤row[i].1
     ·rw [if_pos (decide_eq_true a2)]
     rw [if_neg (by simpa using a2),gdi h]
     by_cases a3:row[i].2<0
     ·rw [if_pos (decide_eq_true a3)]
     rw [if_neg (by simpa using a3),gdi h,if_pos (decide_eq_true (by omega))]
    ·have h':=(not_congr e).1 hs
     have hs':strayP b row[i]=false:=by simpa using hs
     rw [hs',Bool.false_or,if_neg (by simp;omega),gdi h,if_neg (by simp;omega),gdi h,if_neg (by simp;omega),gdi h,if_neg (by simp;omega),w_succ i (by omega),x19_l1_eq hr m (i+1) _ rfl (by omega) (by omega)]
   ·rw [ifge h,List.drop_eq_nil_of_le (by omega)];rfl
theorem x19_l2_eq {row:Row} {k:Unit→Option (Int×Int×Int)} (hr:row.length≤1000):∀ (m i:Nat) (z:Int),z=i→i≤row.length→row.length-i<m →
  x19_l2 row k m z=if dupGo (row.take i) (row.drop i)=true then some (0,0,11) else k ()
 | 0,i,_,_,_,h=>absurd h (by omega)
 | m+1,i,_,rfl,hi,hm=>by
   rw [x19_l2]
   by_cases h:i<row.length
   ·rw [iflt h,gd_pos ⟨by omega,by omega⟩,gdi h,ix_nat h,Int.toNat_natCast,x69_eq _ _ (by simp;omega),Option.bind_some,List.drop_eq_getElem_cons h,dupGo]
    by_cases hx:((row.take i).any fun q=>decide (q.1=row[i].1))=true
    ·rw [if_pos hx,if_pos hx,if_pos rfl]
    ·rw [if_neg hx,if_neg hx,w_succ i (by omega),x19_l2_eq hr m (i+1) _ rfl (by omega) (by omega),take_snoc h]
   ·rw [ifge h,List.drop_eq_nil_of_le (by omega)];simp [dupGo]
theorem x19_l3_eq {b:Bk} {row:Row} {k:Unit→Option (Int×Int×Int)} (hr:row.length≤1000) (hin:∀ p∈row,strayP b p=false):∀ (m i:Nat) (z:Int),z=((i+1:Nat):Int)→(hi:i<row.length)→row.length-i<m →
  x19_l3 b row k m z=match runGo b (fin b row[i]) (row.drop (i+1)) with | none=>some (0,0,27) | some _=>k ()
 | 0,i,_,_,_,h=>absurd h (by omega)
 | m+1,i,_,rfl,hi,hm=>by
   rw [x19_l3]
   by_cases h:i+1<row.length
   ·rw [iflt h,show w (((i+1:Nat):Int)-1)=((i:Nat):Int) by rw [w_id (by omega)];omega,gdi hi,ix_nat hi,x70_eq (hin _ (List.getElem_mem hi)),Option.bind_some,gdi h,ix_nat h,x57_eq (hin _ (List.getElem_mem h)),Option.bind_some,List.drop_eq_getElem_cons h,runGo]
    by_cases hb:beg b row[i+1]=fin b row[i]
    ·rw [if_pos hb,if_neg (by simp [hb]),w_succ (i+1) (by omega),x19_l3_eq hr hin m (i+1) _ rfl h (by omega)]
    ·rw [if_neg hb,if_pos (decide_eq_true (Ne.symm hb))]
   ·rw [ifge h,List.drop_eq_nil_of_le (by omega)];rfl
theorem runGo_last {b:Bk}:∀ (l:Row) (a a':Int) (h:l≠[]),runGo b a l=some a'→a'=fin b (l.getLast h)
 | [],_,_,h,_=>absurd rfl h
 | [p],a,a',_,h=>by
   rw [runGo] at h
   split at h
   ·rw [runGo] at h;cases h;rfl
   ·cases h
 | p::q::r,a,a',_,h=>by
   rw [runGo] at h
   split at h
   ·rw [List.getLast_cons (by simp)];exact runGo_last (q::r) _ a' (by simp) h
   ·cases h
theorem x19_eq (b:Bk) (row:Row) (hb:b.2.length≤1000) (hr:row.length≤1000):x19 b row=some (checkRow b row):=by
 rw [x19,x21_eq b hb,Option.bind_some]
 unfold checkRow
 by_cases h0:bkErr b≠0
 ·rw [if_pos (decide_eq_true h0),Option.bind_some,if_pos h0]
 rw [if_neg (by simpa using h0),if_neg h0]
 cases row with
 | nil=>rfl
 | cons p r =>
   rw [if_neg (by simp;omega),x19_l1_eq hr FU 0 0 rfl (Nat.zero_le _) (FU_lt (by omega)),List.drop_zero]
   dsimp only
   by_cases h1:(p::r).any (strayP b)=true
   ·rw [if_pos h1,if_pos h1]
   rw [if_neg h1,if_neg h1]
   have h1':(p::r).any (strayP b)=false:=by simpa using h1
   rw [List.any_eq_false] at h1'
   have hin:∀ q∈p::r,strayP b q=false:=fun q hq=>by simpa using h1' q hq
   rw [x19_l2_eq hr FU 0 0 rfl (Nat.zero_le _) (FU_lt (by omega)),List.take_zero,List.drop_zero]
   by_cases h2:dupGo [] (p::r)=true
   ·rw [if_pos h2,if_pos h2]
   rw [if_neg h2,if_neg h2,x19_l3_eq hr hin FU 0 1 rfl (by simp) (FU_lt (by omega))]
   rw [show runGo b (beg b p) (p::r)=runGo b (fin b p) r by rw [runGo,if_pos rfl]]
   show (match runGo b (fin b p) r with | none=>_ | some _=>_)=_
   cases hg:runGo b (fin b p) r with
   | none=>rfl
   | some a =>
     have hl:(r.length+1:Nat)=(p::r).length:=rfl
     dsimp only
     rw [gd_pos (by simp),show ix (p::r) (0:Int)=p from rfl,x57_eq (hin p (by simp)),Option.bind_some,
      show w (((p::r).length:Int)-1)=((r.length:Nat):Int) by rw [w_id (by omega)];omega,gdi (by simp),ix_nat (by simp),x70_eq (hin _ (List.getElem_mem _)),Option.bind_some]
     have:=runGo_last (p::r) (beg b p) a (by simp) (by rw [runGo,if_pos rfl];exact hg)
     rw [this,List.getLast_eq_getElem]
     rfl
theorem sub_lenN:∀ (a b:List Nat),a.Nodup→(∀ x∈a,x∈b)→a.length≤b.length
 | [],_,_,_=>Nat.zero_le _
 | x::a,b,hn,h=>by
   obtain ⟨h1,h2⟩:=List.nodup_cons.1 hn
   have hx:=h x (by simp)
   have:=sub_lenN a (b.erase x) h2 fun y hy=>by
    have hne:y≠x:=fun e=>h1 (e ▸ hy)
    exact (List.mem_erase_of_ne hne).2 (h y (by simp [hy]))
   rw [List.length_erase_of_mem hx] at this
   have:=List.length_pos_of_mem hx
   simp only [List.length_cons];omega
theorem nodup_bound {l:List Int} {n:Nat} (h:l.Nodup) (hb:∀ x∈l,0≤x∧x<(n:Int)):l.length≤n:=by
 have h1:(l.map Int.toNat).Nodup:=by
  rw [List.Nodup,List.pairwise_map]
  refine h.imp_of_mem fun {a c} ha hc hne e=>hne ?_
  have:=hb a ha;have:=hb c hc;omega
 have h2:∀ x∈l.map Int.toNat,x∈List.range n:=fun x hx=>by
  obtain ⟨y,hy,rfl⟩:=List.mem_map.1 hx
  have:=hb y hy
  exact List.mem_range.2 (by omega)
 have:=sub_lenN _ _ h1 h2
 simpa using this
end Go.Proofs.YtfakoboiahbhaaaGreat.Ab


namespace Go.Proofs.YtfakoboiahbhaaaGreat.Ab
open Go
set_option maxRecDepth 20000
set_option maxHeartbeats 4000000
noncomputable def xrc89:RC :=
 .seq (.reg false [I_ 2 [.tk 0] .box,I_ 3 [.tk 1] .box,I_ 4 [.cv .junk] .mv]) (.seq (.reg false [I_ 5 [.tv 2,.tv 3] (.mkF 113 0 2),I_ 4 [.tk 5] .mv]) .ret)
theorem lxx89:linkF Tryz.prog ann89 89=some (xrc89,6,[.tmp 4]):=by kernel_rfl
def x89 (t:(Int×(List (Int×Int)))) (figure:Int):Option Unit :=
 some ()
theorem x89_ok {t:(Int×(List (Int×Int)))} {figure:Int} {v:Unit} (h:x89 t figure=some v):PO 89 [(.lptr [(I t.1),(.lst (t.2.flatMap pr) t.2.length .shared)]),(I figure)] (.func 113 [] [(.lptr [(.lptr [(I t.1),(.lst (t.2.flatMap pr) t.2.length .shared)])]),(.lptr [(I figure)])]):=by
 refine fn_pureW hmix lxx89 rfl (pu_fn rfl (allc (pu_lptr (allc (pu_lptr (allc rfl (allc (pu_flat (fun _=>(allc rfl (allc rfl rfl))) _ _ _) rfl))) rfl)) (allc (pu_lptr (allc rfl rfl)) rfl))) fun Q hQ=>?_
 have hR:∀ T H,RetW [.tmp 4] (.func 113 [] [(.lptr [(.lptr [(I t.1),(.lst (t.2.flatMap pr) t.2.length .shared)])]),(.lptr [(I figure)])]) .ret T H→Q .ret T H:=fun T H hh=>hQ _ T H hh
 unfold x89 at h
 unfold xrc89
 skip
 conv=>whnf
 exact hR _ _ ⟨.inr rfl,_,rfl,_,(frz_fn mapO_nil' (mapO_cons' (frz_ptr (l:=[(.lptr [(I t.1),(.lst (t.2.flatMap pr) t.2.length .shared)])]) (by first | with_reducible exact get_concat _ _ | exact get_concat _ _ | exact ga (get_concat _ _) | rfl | (simp [List.getElem?_append,AV.settle];done)) (allc (pu_lptr (allc rfl (allc (pu_flat (fun _=>(allc rfl (allc rfl rfl))) _ _ _) rfl))) rfl)) (mapO_cons' (frz_ptr (l:=[(I figure)]) (by first | with_reducible exact get_concat _ _ | exact get_concat _ _ | exact ga (get_concat _ _) | rfl | (simp [List.getElem?_append,AV.settle];done)) (allc rfl rfl)) mapO_nil'))),rfl⟩

noncomputable def xrc81_1:RC :=
 .loop (some [o_,i_,o_,i_,o_,i_,i_,i_,o_,o_,o_,o_,o_,o_,i_,o_,o_,o_,o_,o_,o_,o_,o_,o_,o_,o_,o_,o_,o_,o_,o_,o_,o_,o_,o_,o_,o_,o_,o_,o_,o_,o_,o_,o_,o_,o_,o_,o_,o_,o_,o_,o_,o_,o_,o_,o_,o_,o_,o_,o_,o_,o_,o_])
 (.seq (.reg false [I_ 15 [.sl 14,.cv (.int .i64 6)] (.bin .lss)]) (.seq (.cond (.sl 15) .skip (.exit 0)) (.seq (.block 1 (.seq (.reg false [I_ 16 [.sl 14] .mv,I_ 8 [.tk 16] .mv]) (.reg false [I_ 17 [.tk 8] .mv,I_ 18 [.sl 7,
 .tv 17] (.iaA 6 1),⟨none,[.tk 18,.cv (.int .i64 (-1))],none,none,.st 1⟩]))) (.reg false [I_ 19 [.tv 14,.cv (.int .i64 1)] (.bin .add),I_ 14 [.tk 19] .mv]))))
noncomputable def xrc81_2:RC :=
 .rng (.sl 34) [35] (rngA Tryz.prog 81 0) (rngB Tryz.prog 81 0)
noncomputable def xrc81_3:RC :=
 .loop (some [o_,o_,o_,i_,o_,i_,i_,i_,o_,i_,o_,o_,o_,o_,o_,o_,o_,o_,o_,o_,o_,o_,o_,o_,o_,o_,o_,o_,o_,o_,o_,o_,o_,o_,o_,o_,o_,o_,o_,o_,o_,o_,o_,o_,o_,o_,o_,o_,o_,o_,o_,o_,o_,o_,o_,o_,o_,o_,o_,o_,o_,o_,o_])
 (.seq (.seq (.reg false [I_ 24 [.sl 9] (.ld .one),I_ 25 [.tk 24] .lenS,I_ 26 [.tv 25,.cv (.int .i64 0)] (.bin .gtr)]) (.cond (.sl 26) .skip (.exit 2))) (.block 3 (.seq (.reg false [I_ 27 [.sl 9] (.ld .one),I_ 28 [.tv 27,
 .cv (.int .i64 0)] (.ia 1),I_ 29 [.tv 28] (.ld .one),I_ 10 [] (.alloc [.int .i64 0]),⟨none,[.sl 10,.tk 29],none,none,.st 1⟩]) (.seq (.reg false [I_ 30 [.sl 9] .take,I_ 31 [.tk 30,.cv (.int .i64 1)] (.slS 1 true false
 false),⟨none,[.sl 9,.tk 31],none,none,.st 1⟩]) (.seq (.reg false [I_ 32 [.sl 3] (.ld .one),I_ 33 [.sl 10] (.ld .one),I_ 34 [.cv (.func 89 [] []),.sl 32,.sl 33] (.call 3)]) (.block 4 xrc81_2))))))
noncomputable def xrc81:RC :=
 .seq (.reg false [I_ 3 [.tk 0] .box,I_ 5 [.tk 2] .box,I_ 6 [] (.alloc [.int .i64 0,.int .i64 0,.int .i64 0,.int .i64 0,.int .i64 0,.int .i64 0])]) (.seq (.reg false [I_ 7 [] (.alloc [.int .i64 0,.int .i64 0,.int .i64 0,
 .int .i64 0,.int .i64 0,.int .i64 0])]) (.seq (.seq (.reg false [I_ 14 [.cv (.int .i64 0)] .mv]) (.block 0 xrc81_1)) (.seq (.reg false [I_ 20 [.sl 1] .mv,I_ 21 [.sl 7,.tv 20] (.iaA 6 1),⟨none,[.tk 21,.cv (.int .i64 0)],
 none,none,.st 1⟩]) (.seq (.reg false [I_ 22 [.tk 1] .mv,I_ 23 [.tv 22] (.buildS 1 1 [.int .i64 0] [0]),I_ 9 [] (.alloc [.lst [] 0 .full]),⟨none,[.sl 9,.tk 23],none,none,.st 1⟩]) (.seq (.block 2 xrc81_3) (.seq (.reg
 false [I_ 62 [.tv 7] (.ld (.arr 6)),⟨none,[.sl 6,.tk 62],none,none,.st 6⟩]) .ret))))))
noncomputable def xrc81_A0:RC :=
 .reg false [I_ 11 [] (.alloc [.int .i64 0,.int .i64 0]),⟨none,[.sl 11,.tk 35],none,none,.st 2⟩]
theorem lxx81_A0:linkC Tryz.prog ann81 (rngA Tryz.prog 81 0) 0=some xrc81_A0:=by kernel_rfl
noncomputable def xrc81_B0:RC :=
 .block 5 (.seq (.reg false [I_ 37 [.tv 3] (.ld .one),I_ 38 [.sl 11] (.ld (.str 2)),I_ 39 [.cv (.func 68 [] []),.sl 37,.sl 38] (.call 3),I_ 36 [.tk 39] .mv,I_ 40 [.sl 36] (.ext 0),I_ 41 [.tv 36] (.ext 1),I_ 12 [.tk 40]
 .mv,I_ 13 [.tk 41] .mv]) (.seq (.reg false [I_ 42 [.tv 11] (.fa 0),I_ 43 [.tv 42] (.ld .one),I_ 44 [.tv 5] (.ld .one),I_ 45 [.tv 43,.tv 44] (.bin .neq),I_ 46 [.tk 45] .mv,⟨some 47,[.sl 13],some (46,true),none,.mv⟩,
 ⟨some 48,[.sl 7,.tv 47],some (46,true),none,.iaA 6 1⟩,⟨some 49,[.tv 48],some (46,true),none,.ld .one⟩,⟨some 50,[.tv 49,.cv (.int .i64 0)],some (46,true),none,.bin .lss⟩,I_ 51 [.tv 46,.tv 50,.cv (.bool
 false)] .pick]) (.cond (.sl 51) (.seq (.reg false [I_ 52 [.sl 13] .mv,I_ 53 [.tv 10] (.ld .one),I_ 54 [.sl 7,.tv 53] (.iaA 6 1),I_ 55 [.tv 54] (.ld .one),I_ 56 [.tv 55,.cv (.int .i64 1)] (.bin .add),I_ 57 [.tv 7,.tv 52]
 (.iaA 6 1),⟨none,[.tk 57,.tk 56],none,none,.st 1⟩]) (.reg false [I_ 58 [.sl 9] .take,I_ 59 [.tk 13] .mv,I_ 60 [.tv 59] (.buildS 1 1 [.int .i64 0] [0]),I_ 61 [.tk 58,.tk 60] (.app 1 8),⟨none,[.tk 9,.tk 61],none,
 none,.st 1⟩])) .skip)))
theorem lxx81_B0:linkC Tryz.prog ann81 (rngB Tryz.prog 81 0) 0=some xrc81_B0:=by kernel_rfl
theorem lxx81:linkF Tryz.prog ann81 81=some (xrc81,63,[.cell 6 (.arr 6)]):=by kernel_rfl
def x81_l1 (kl1_0:(List Int)→Option (List Int)):Nat→Int→(List Int)→Option (List Int)
 | 0,_,_=>none
 | m+1,s1,s2 =>
   if (decide (s1<(6:Int)))=true then
    gd (0≤s1∧s1<(6:Int)∧6=s2.length) <|
    x81_l1 kl1_0 m (w (s1+(1:Int))) (s2.set s1.toNat (-1:Int))
   else
    kl1_0 s2
def x81_r1 (t:(Int×(List (Int×Int)))) (without:Int) (s4:(List Int)) (st_:(List Int)×(List Int)) (e1:(Int×Int)):Option ((List Int)×(List Int)) :=
 match st_ with
 | (t1,t2) =>
   (x68 t e1).bind fun r2 =>
   if (decide (e1.1≠without))=true then
    gd (0≤r2.2∧r2.2<(6:Int)∧6=t2.length) <|
    if (decide ((ix t2 r2.2)<(0:Int)))=true then
     gd (0≤(ix s4 (0:Int))∧(ix s4 (0:Int))<(6:Int)∧6=t2.length) <|
     gd (0≤r2.2∧r2.2<(6:Int)∧6=t2.length) <|
     gd ((t1.length+1)*8≤140737488355328) <|
     some ((t1++[r2.2]),(t2.set r2.2.toNat (w ((ix t2 (ix s4 (0:Int)))+(1:Int)))))
    else
     some (t1,t2)
   else
    some (t1,t2)
def x81_l2 (t:(Int×(List (Int×Int)))) (without:Int) (kl2_0:(List Int)→Option (List Int)):Nat→(List Int)→(List Int)→Option (List Int)
 | 0,_,_=>none
 | m+1,s3,s4 =>
   if (decide ((0:Int)<(s4.length:Int)))=true then
    gd (0≤(0:Int)∧(0:Int)<(s4.length:Int)) <|
    gd (0≤(1:Int)∧(1:Int)≤(s4.length:Int)) <|
    (x89 t (ix s4 (0:Int))).bind fun r1 =>
    (s113 t (ix s4 (0:Int))).bind fun l1 =>
    (foldO (x81_r1 t without s4) l1 ((s4.drop (1:Int).toNat),s3)).bind fun r3 =>
    x81_l2 t without kl2_0 m r3.2 r3.1
   else
    kl2_0 s3
def x81 (t:(Int×(List (Int×Int)))) (to:Int) (without:Int):Option (List Int) :=
 x81_l1 (fun z1 =>
   gd (0≤to∧to<(6:Int)∧6=z1.length) <|
   x81_l2 t without (fun z2 =>
     gd (z2.length=6) <|
     gd (z2.length=6∧(List.replicate 6 (0:Int)).length=6) <|
     gd (z2.length=6) <|
     some z2) FU (z1.set to.toNat (0:Int)) [to]) FU (0:Int) (List.replicate 6 (0:Int))
theorem x81_l1_ok {kl1_0:(List Int)→Option (List Int)} {s1:Int} {s2:(List Int)} {t:(Int×(List (Int×Int)))} {to:Int} {without:Int} {v:(List Int)} {Q:Ex→List AV→List AObj→Prop}   (hkl1_0:∀ (z1:(List Int)) (u0:AV) (u2:AV) (u8:AV) (u9:AV) (u10:AV) (u11:AV) (u12:AV) (u13:AV) (u14:AV) (u15:AV) (u16:AV) (u17:AV) (u18:AV) (u19:AV) (u20:AV) (u21:AV) (u22:AV) (u23:AV) (u24:AV) (u25:AV) (u26:AV) (u27:AV) (u28:AV) (u29:AV) (u30:AV) (u31:AV) (u32:AV) (u33:AV) (u34:AV) (u35:AV) (u36:AV) (u37:AV) (u38:AV) (u39:AV) (u40:AV) (u41:AV) (u42:AV) (u43:AV) (u44:AV) (u45:AV) (u46:AV) (u47:AV) (u48:AV) (u49:AV) (u50:AV) (u51:AV) (u52:AV) (u53:AV) (u54:AV) (u55:AV) (u56:AV) (u57:AV) (u58:AV) (u59:AV) (u60:AV) (u61:AV) (u62:AV),kl1_0 z1=some v→Q (.exit 0) [u0,(I to),u2,(.ptr 0 0),J,(.ptr 1 0),(.ptr 2 0),(.ptr 3 0),u8,u9,u10,u11,u12,u13,u14,u15,u16,u17,u18,u19,u20,u21,u22,u23,u24,u25,u26,u27,u28,u29,u30,u31,u32,u33,u34,u35,u36,u37,u38,u39,u40,u41,u42,u43,u44,u45,u46,u47,u48,u49,u50,u51,u52,u53,u54,u55,u56,u57,u58,u59,u60,u61,u62] [AObj.cells [(.lptr [(I t.1),(.lst (t.2.flatMap pr) t.2.length .shared)])],AObj.cells [(I without)],AObj.cells ((List.replicate 6 (0:Int)).map I),AObj.cells (z1.map I)]) {T:List AV} (hT:zipKeep [o_,i_,o_,i_,o_,i_,i_,i_,o_,o_,o_,o_,o_,o_,i_,o_,o_,o_,o_,o_,o_,o_,o_,o_,o_,o_,o_,o_,o_,o_,o_,o_,o_,o_,o_,o_,o_,o_,o_,o_,o_,o_,o_,o_,o_,o_,o_,o_,o_,o_,o_,o_,o_,o_,o_,o_,o_,o_,o_,o_,o_,o_,o_] T=slots 63 [(1,(I to)),(3,(.ptr 0 0)),(5,(.ptr 1 0)),(6,(.ptr 2 0)),(7,(.ptr 3 0)),(14,(I s1))]) (h:x81_l1 kl1_0 FU s1 s2=some v) :
  wpR Tryz.prog ann81 81 0 none xrc81_1 T [AObj.cells [(.lptr [(I t.1),(.lst (t.2.flatMap pr) t.2.length .shared)])],AObj.cells [(I without)],AObj.cells ((List.replicate 6 (0:Int)).map I),AObj.cells (s2.map I)] Q:=by
 unfold xrc81_1
 skip
 refine wp_loop hT ?_
 refine .intro (fun m T H=>∃ (s1:Int) (s2:(List Int)),T=slots 63 [(1,(I to)),(3,(.ptr 0 0)),(5,(.ptr 1 0)),(6,(.ptr 2 0)),(7,(.ptr 3 0)),(14,(I s1))]∧H=[AObj.cells [(.lptr [(I t.1),(.lst (t.2.flatMap pr) t.2.length .shared)])],AObj.cells [(I without)],AObj.cells ((List.replicate 6 (0:Int)).map I),AObj.cells (s2.map I)]∧x81_l1 kl1_0 m s1 s2=some v) FU ⟨s1,s2,rfl,rfl,h⟩ ?_
 clear h hT
 rintro m T H ⟨s1,s2,rfl,rfl,h⟩
 cases m
 ·exact none_ne h
 rename_i m
 rw [x81_l1.eq_2] at h
 conv=>whnf
 rcases bt (decide (s1<(6:Int))) with hb1 | hb1
 ·rw [hb1]
  conv=>whnf
  replace h:=it_t hb1 h
  obtain ⟨hb2,h⟩:=gd_some h
  refine ⟨⟨hb2.1,hb2.2.1⟩,?_⟩
  replace hb2:0≤s1∧s1<(s2.length:Int):=⟨hb2.1,by have:=hb2.2;omega⟩
  conv=>whnf
  refine updD I s2 s1 (-1:Int) hb2 ?_
  conv=>whnf
  exact ⟨m,Nat.lt_succ_self m,(w (s1+(1:Int))),(s2.set s1.toNat (-1:Int)),rfl,rfl,h⟩
 ·rw [hb1]
  conv=>whnf
  replace h:=it_f hb1 h
  exact hkl1_0 _ _ _ _ _ _ _ _ _ _ _ _ _ _ _ _ _ _ _ _ _ _ _ _ _ _ _ _ _ _ _ _ _ _ _ _ _ _ _ _ _ _ _ _ _ _ _ _ _ _ _ _ _ _ _ _ _ _ h
theorem x81_r1_ok {t:(Int×(List (Int×Int)))} {without:Int} {s4:(List Int)} {s3:(List Int)} {t1:(List Int)} {t2:(List Int)} {e1:(Int×Int)} {u0:AV} {u1:AV} {u2:AV} {u4:AV} {u6:AV} {u8:AV} {u11:AV} {u12:AV} {u13:AV} {u14:AV} {u15:AV} {u16:AV} {u17:AV} {u18:AV} {u19:AV} {u20:AV} {u21:AV} {u22:AV} {u23:AV} {u24:AV} {u25:AV} {u26:AV} {u27:AV} {u28:AV} {u29:AV} {u30:AV} {u31:AV} {u32:AV} {u33:AV} {u34:AV} {u35:AV} {u36:AV} {u37:AV} {u38:AV} {u39:AV} {u40:AV} {u41:AV} {u42:AV} {u43:AV} {u44:AV} {u45:AV} {u46:AV} {u47:AV} {u48:AV} {u49:AV} {u50:AV} {u51:AV} {u52:AV} {u53:AV} {u54:AV} {u55:AV} {u56:AV} {u57:AV} {u58:AV} {u59:AV} {u60:AV} {u61:AV} {u62:AV} {o3:AObj} {Y81_1:List AObj} {v_:(List Int)×(List Int)} (h:x81_r1 t without s4 (t1,t2) e1=some v_) (Y:List AObj) :
  ∃ Y',Sem Tryz.prog (.yield (((AObj.cells [(.lptr [(I t.1),(.lst (t.2.flatMap pr) t.2.length .shared)])]::AObj.cells [(I without)]::o3::AObj.cells (t2.map I)::AObj.cells [(.lst (t1.map I) t1.length (.own 1))]::Y81_1)++[AObj.cells [(I (ix s4 (0:Int)))]])).length) [(.agg [(I e1.1),(I e1.2)])] ((((AObj.cells [(.lptr [(I t.1),(.lst (t.2.flatMap pr) t.2.length .shared)])]::AObj.cells [(I without)]::o3::AObj.cells (t2.map I)::AObj.cells [(.lst (t1.map I) t1.length (.own 1))]::Y81_1)++[AObj.cells [(I (ix s4 (0:Int)))]])++[AObj.loop .ready none 81 [u0,u1,u2,(AV.ptr 0 0),u4,(AV.ptr 1 0),u6,(AV.ptr 3 0),u8,(AV.ptr 4 0),(AV.ptr (AObj.cells [(.lptr [(I t.1),(.lst (t.2.flatMap pr) t.2.length .shared)])]::AObj.cells [(I without)]::o3::AObj.cells (s3.map I)::AObj.cells [(.lst ((s4.drop (1:Int).toNat).map I) (s4.drop (1:Int).toNat).length (.own 1))]::Y81_1).length 0),u11,u12,u13,u14,u15,u16,u17,u18,u19,u20,u21,u22,u23,u24,u25,u26,u27,u28,u29,u30,u31,u32,u33,u34,u35,u36,u37,u38,u39,u40,u41,u42,u43,u44,u45,u46,u47,u48,u49,u50,u51,u52,u53,u54,u55,u56,u57,u58,u59,u60,u61,u62] [35] (rngA Tryz.prog 81 0) (rngB Tryz.prog 81 0) ann81])++Y) 0 (.bool true) ((((AObj.cells [(.lptr [(I t.1),(.lst (t.2.flatMap pr) t.2.length .shared)])]::AObj.cells [(I without)]::o3::AObj.cells (v_.2.map I)::AObj.cells [(.lst (v_.1.map I) v_.1.length (.own 1))]::Y81_1)++[AObj.cells [(I (ix s4 (0:Int)))]])++[AObj.loop .ready none 81 [u0,u1,u2,(AV.ptr 0 0),u4,(AV.ptr 1 0),u6,(AV.ptr 3 0),u8,(AV.ptr 4 0),(AV.ptr (AObj.cells [(.lptr [(I t.1),(.lst (t.2.flatMap pr) t.2.length .shared)])]::AObj.cells [(I without)]::o3::AObj.cells (s3.map I)::AObj.cells [(.lst ((s4.drop (1:Int).toNat).map I) (s4.drop (1:Int).toNat).length (.own 1))]::Y81_1).length 0),u11,u12,u13,u14,u15,u16,u17,u18,u19,u20,u21,u22,u23,u24,u25,u26,u27,u28,u29,u30,u31,u32,u33,u34,u35,u36,u37,u38,u39,u40,u41,u42,u43,u44,u45,u46,u47,u48,u49,u50,u51,u52,u53,u54,u55,u56,u57,u58,u59,u60,u61,u62] [35] (rngA Tryz.prog 81 0) (rngB Tryz.prog 81 0) ann81])++Y'):=by
 unfold x81_r1 at h
 refine ⟨Y++[.dead],sem_round hmix lxx81_A0 lxx81_B0 (get_mid _ _ _) rfl (low0 (by simp)) ?_⟩
 unfold xrc81_A0
 conv=>whnf
 refine nthK_of (x:=AObj.cells [(I (0:Int)),(I (0:Int))]) (by first | with_reducible exact get_concat _ _ | exact get_concat _ _ | exact ga (get_concat _ _) | rfl | (simp [List.getElem?_append,AV.settle];done)) ?_
 conv=>whnf
 rw [set_concat]
 refine ⟨rfl,get_midY _ _ _ _,?_⟩
 rw [set_midY]
 unfold xrc81_B0
 conv=>whnf
 refine nthK_of (x:=AObj.cells [(I e1.1),(I e1.2)]) (by first | with_reducible exact get_concat _ _ | exact get_concat _ _ | exact ga (get_concat _ _) | rfl | (simp [List.getElem?_append,AV.settle];done)) ?_
 conv=>whnf
 obtain ⟨r2,hb8,h⟩:=bd_some h
 refine ⟨(allc (pu_lptr (allc rfl (allc (pu_flat (fun _=>(allc rfl (allc rfl rfl))) _ _ _) rfl))) (allc (pu_agg (allc rfl (allc rfl rfl))) rfl)),_,x68_ok hb8,?_⟩
 conv=>whnf
 refine nthK_of (x:=AObj.cells [(I e1.1),(I e1.2)]) (by first | with_reducible exact get_concat _ _ | exact get_concat _ _ | exact ga (get_concat _ _) | rfl | (simp [List.getElem?_append,AV.settle];done)) ?_
 conv=>whnf
 rcases bt (decide (e1.1≠without)) with hb9 | hb9
 ·rw [hb9]
  conv=>whnf
  replace h:=it_t hb9 h
  obtain ⟨hb10,h⟩:=gd_some h
  refine ⟨⟨hb10.1,hb10.2.1⟩,?_⟩
  replace hb10:0≤r2.2∧r2.2<(t2.length:Int):=⟨hb10.1,by have:=hb10.2;omega⟩
  conv=>whnf
  refine rdD I t2 r2.2 hb10 ?_
  conv=>whnf
  rcases bt (decide ((ix t2 r2.2)<(0:Int))) with hb11 | hb11
  ·rw [hb11]
   conv=>whnf
   replace h:=it_t hb11 h
   refine nthK_of (x:=AObj.cells [(I (ix s4 (0:Int)))]) (by first | with_reducible exact get_concat _ _ | exact get_concat _ _ | exact ga (get_concat _ _) | rfl | (simp [List.getElem?_append,AV.settle];done)) ?_
   conv=>whnf
   obtain ⟨hb12,h⟩:=gd_some h
   refine ⟨⟨hb12.1,hb12.2.1⟩,?_⟩
   replace hb12:0≤(ix s4 (0:Int))∧(ix s4 (0:Int))<(t2.length:Int):=⟨hb12.1,by have:=hb12.2;omega⟩
   conv=>whnf
   refine rdD I t2 (ix s4 (0:Int)) hb12 ?_
   conv=>whnf
   obtain ⟨hb13,h⟩:=gd_some h
   refine ⟨⟨hb13.1,hb13.2.1⟩,?_⟩
   replace hb13:0≤r2.2∧r2.2<(t2.length:Int):=⟨hb13.1,by have:=hb13.2;omega⟩
   conv=>whnf
   refine updD I t2 r2.2 (w ((ix t2 (ix s4 (0:Int)))+(1:Int))) hb13 ?_
   conv=>whnf
   obtain ⟨hb14,h⟩:=gd_some h
   refine ⟨by first | rfl | simp,by have:=hb14;omega,rfl,hb14,?_⟩
   erw [apnd1 I t1 r2.2]
   conv=>whnf
   obtain rfl:=Option.some.inj h
   show _∧(((((AObj.cells [(.lptr [(I t.1),(.lst (t.2.flatMap pr) t.2.length .shared)])]::AObj.cells [(I without)]::o3::AObj.cells ((t2.set r2.2.toNat (w ((ix t2 (ix s4 (0:Int)))+(1:Int)))).map I)::AObj.cells [(.lst ((t1++[r2.2]).map I) (t1++[r2.2]).length (.own 1))]::Y81_1)++[AObj.cells [(I (ix s4 (0:Int)))]])++[AObj.loop .busy none 81 [u0,u1,u2,(AV.ptr 0 0),u4,(AV.ptr 1 0),u6,(AV.ptr 3 0),u8,(AV.ptr 4 0),(AV.ptr (AObj.cells [(.lptr [(I t.1),(.lst (t.2.flatMap pr) t.2.length .shared)])]::AObj.cells [(I without)]::o3::AObj.cells (s3.map I)::AObj.cells [(.lst ((s4.drop (1:Int).toNat).map I) (s4.drop (1:Int).toNat).length (.own 1))]::Y81_1).length 0),u11,u12,u13,u14,u15,u16,u17,u18,u19,u20,u21,u22,u23,u24,u25,u26,u27,u28,u29,u30,u31,u32,u33,u34,u35,u36,u37,u38,u39,u40,u41,u42,u43,u44,u45,u46,u47,u48,u49,u50,u51,u52,u53,u54,u55,u56,u57,u58,u59,u60,u61,u62] [35] (rngA Tryz.prog 81 0) (rngB Tryz.prog 81 0) ann81])++Y)++[_])[(((AObj.cells [(.lptr [(I t.1),(.lst (t.2.flatMap pr) t.2.length .shared)])]::AObj.cells [(I without)]::o3::AObj.cells ((t2.set r2.2.toNat (w ((ix t2 (ix s4 (0:Int)))+(1:Int)))).map I)::AObj.cells [(.lst ((t1++[r2.2]).map I) (t1++[r2.2]).length (.own 1))]::Y81_1)++[AObj.cells [(I (ix s4 (0:Int)))]])).length]?=_∧Fgt ((((((AObj.cells [(.lptr [(I t.1),(.lst (t.2.flatMap pr) t.2.length .shared)])]::AObj.cells [(I without)]::o3::AObj.cells ((t2.set r2.2.toNat (w ((ix t2 (ix s4 (0:Int)))+(1:Int)))).map I)::AObj.cells [(.lst ((t1++[r2.2]).map I) (t1++[r2.2]).length (.own 1))]::Y81_1)++[AObj.cells [(I (ix s4 (0:Int)))]])++[AObj.loop .busy none 81 [u0,u1,u2,(AV.ptr 0 0),u4,(AV.ptr 1 0),u6,(AV.ptr 3 0),u8,(AV.ptr 4 0),(AV.ptr (AObj.cells [(.lptr [(I t.1),(.lst (t.2.flatMap pr) t.2.length .shared)])]::AObj.cells [(I without)]::o3::AObj.cells (s3.map I)::AObj.cells [(.lst ((s4.drop (1:Int).toNat).map I) (s4.drop (1:Int).toNat).length (.own 1))]::Y81_1).length 0),u11,u12,u13,u14,u15,u16,u17,u18,u19,u20,u21,u22,u23,u24,u25,u26,u27,u28,u29,u30,u31,u32,u33,u34,u35,u36,u37,u38,u39,u40,u41,u42,u43,u44,u45,u46,u47,u48,u49,u50,u51,u52,u53,u54,u55,u56,u57,u58,u59,u60,u61,u62] [35] (rngA Tryz.prog 81 0) (rngB Tryz.prog 81 0) ann81])++Y)++[_]).set (((AObj.cells [(.lptr [(I t.1),(.lst (t.2.flatMap pr) t.2.length .shared)])]::AObj.cells [(I without)]::o3::AObj.cells ((t2.set r2.2.toNat (w ((ix t2 (ix s4 (0:Int)))+(1:Int)))).map I)::AObj.cells [(.lst ((t1++[r2.2]).map I) (t1++[r2.2]).length (.own 1))]::Y81_1)++[AObj.cells [(I (ix s4 (0:Int)))]])).length _) _
   exact ⟨rfl,get_midY _ _ _ _,by rw [set_midY];exact fgt_midY _ _ _ _⟩
  ·rw [hb11]
   conv=>whnf
   replace h:=it_f hb11 h
   obtain rfl:=Option.some.inj h
   show _∧(((((AObj.cells [(.lptr [(I t.1),(.lst (t.2.flatMap pr) t.2.length .shared)])]::AObj.cells [(I without)]::o3::AObj.cells (t2.map I)::AObj.cells [(.lst (t1.map I) t1.length (.own 1))]::Y81_1)++[AObj.cells [(I (ix s4 (0:Int)))]])++[AObj.loop .busy none 81 [u0,u1,u2,(AV.ptr 0 0),u4,(AV.ptr 1 0),u6,(AV.ptr 3 0),u8,(AV.ptr 4 0),(AV.ptr (AObj.cells [(.lptr [(I t.1),(.lst (t.2.flatMap pr) t.2.length .shared)])]::AObj.cells [(I without)]::o3::AObj.cells (s3.map I)::AObj.cells [(.lst ((s4.drop (1:Int).toNat).map I) (s4.drop (1:Int).toNat).length (.own 1))]::Y81_1).length 0),u11,u12,u13,u14,u15,u16,u17,u18,u19,u20,u21,u22,u23,u24,u25,u26,u27,u28,u29,u30,u31,u32,u33,u34,u35,u36,u37,u38,u39,u40,u41,u42,u43,u44,u45,u46,u47,u48,u49,u50,u51,u52,u53,u54,u55,u56,u57,u58,u59,u60,u61,u62] [35] (rngA Tryz.prog 81 0) (rngB Tryz.prog 81 0) ann81])++Y)++[_])[(((AObj.cells [(.lptr [(I t.1),(.lst (t.2.flatMap pr) t.2.length .shared)])]::AObj.cells [(I without)]::o3::AObj.cells (t2.map I)::AObj.cells [(.lst (t1.map I) t1.length (.own 1))]::Y81_1)++[AObj.cells [(I (ix s4 (0:Int)))]])).length]?=_∧Fgt ((((((AObj.cells [(.lptr [(I t.1),(.lst (t.2.flatMap pr) t.2.length .shared)])]::AObj.cells [(I without)]::o3::AObj.cells (t2.map I)::AObj.cells [(.lst (t1.map I) t1.length (.own 1))]::Y81_1)++[AObj.cells [(I (ix s4 (0:Int)))]])++[AObj.loop .busy none 81 [u0,u1,u2,(AV.ptr 0 0),u4,(AV.ptr 1 0),u6,(AV.ptr 3 0),u8,(AV.ptr 4 0),(AV.ptr (AObj.cells [(.lptr [(I t.1),(.lst (t.2.flatMap pr) t.2.length .shared)])]::AObj.cells [(I without)]::o3::AObj.cells (s3.map I)::AObj.cells [(.lst ((s4.drop (1:Int).toNat).map I) (s4.drop (1:Int).toNat).length (.own 1))]::Y81_1).length 0),u11,u12,u13,u14,u15,u16,u17,u18,u19,u20,u21,u22,u23,u24,u25,u26,u27,u28,u29,u30,u31,u32,u33,u34,u35,u36,u37,u38,u39,u40,u41,u42,u43,u44,u45,u46,u47,u48,u49,u50,u51,u52,u53,u54,u55,u56,u57,u58,u59,u60,u61,u62] [35] (rngA Tryz.prog 81 0) (rngB Tryz.prog 81 0) ann81])++Y)++[_]).set (((AObj.cells [(.lptr [(I t.1),(.lst (t.2.flatMap pr) t.2.length .shared)])]::AObj.cells [(I without)]::o3::AObj.cells (t2.map I)::AObj.cells [(.lst (t1.map I) t1.length (.own 1))]::Y81_1)++[AObj.cells [(I (ix s4 (0:Int)))]])).length _) _
   exact ⟨rfl,get_midY _ _ _ _,by rw [set_midY];exact fgt_midY _ _ _ _⟩
 ·rw [hb9]
  conv=>whnf
  replace h:=it_f hb9 h
  obtain rfl:=Option.some.inj h
  show _∧(((((AObj.cells [(.lptr [(I t.1),(.lst (t.2.flatMap pr) t.2.length .shared)])]::AObj.cells [(I without)]::o3::AObj.cells (t2.map I)::AObj.cells [(.lst (t1.map I) t1.length (.own 1))]::Y81_1)++[AObj.cells [(I (ix s4 (0:Int)))]])++[AObj.loop .busy none 81 [u0,u1,u2,(AV.ptr 0 0),u4,(AV.ptr 1 0),u6,(AV.ptr 3 0),u8,(AV.ptr 4 0),(AV.ptr (AObj.cells [(.lptr [(I t.1),(.lst (t.2.flatMap pr) t.2.length .shared)])]::AObj.cells [(I without)]::o3::AObj.cells (s3.map I)::AObj.cells [(.lst ((s4.drop (1:Int).toNat).map I) (s4.drop (1:Int).toNat).length (.own 1))]::Y81_1).length 0),u11,u12,u13,u14,u15,u16,u17,u18,u19,u20,u21,u22,u23,u24,u25,u26,u27,u28,u29,u30,u31,u32,u33,u34,u35,u36,u37,u38,u39,u40,u41,u42,u43,u44,u45,u46,u47,u48,u49,u50,u51,u52,u53,u54,u55,u56,u57,u58,u59,u60,u61,u62] [35] (rngA Tryz.prog 81 0) (rngB Tryz.prog 81 0) ann81])++Y)++[_])[(((AObj.cells [(.lptr [(I t.1),(.lst (t.2.flatMap pr) t.2.length .shared)])]::AObj.cells [(I without)]::o3::AObj.cells (t2.map I)::AObj.cells [(.lst (t1.map I) t1.length (.own 1))]::Y81_1)++[AObj.cells [(I (ix s4 (0:Int)))]])).length]?=_∧Fgt ((((((AObj.cells [(.lptr [(I t.1),(.lst (t.2.flatMap pr) t.2.length .shared)])]::AObj.cells [(I without)]::o3::AObj.cells (t2.map I)::AObj.cells [(.lst (t1.map I) t1.length (.own 1))]::Y81_1)++[AObj.cells [(I (ix s4 (0:Int)))]])++[AObj.loop .busy none 81 [u0,u1,u2,(AV.ptr 0 0),u4,(AV.ptr 1 0),u6,(AV.ptr 3 0),u8,(AV.ptr 4 0),(AV.ptr (AObj.cells [(.lptr [(I t.1),(.lst (t.2.flatMap pr) t.2.length .shared)])]::AObj.cells [(I without)]::o3::AObj.cells (s3.map I)::AObj.cells [(.lst ((s4.drop (1:Int).toNat).map I) (s4.drop (1:Int).toNat).length (.own 1))]::Y81_1).length 0),u11,u12,u13,u14,u15,u16,u17,u18,u19,u20,u21,u22,u23,u24,u25,u26,u27,u28,u29,u30,u31,u32,u33,u34,u35,u36,u37,u38,u39,u40,u41,u42,u43,u44,u45,u46,u47,u48,u49,u50,u51,u52,u53,u54,u55,u56,u57,u58,u59,u60,u61,u62] [35] (rngA Tryz.prog 81 0) (rngB Tryz.prog 81 0) ann81])++Y)++[_]).set (((AObj.cells [(.lptr [(I t.1),(.lst (t.2.flatMap pr) t.2.length .shared)])]::AObj.cells [(I without)]::o3::AObj.cells (t2.map I)::AObj.cells [(.lst (t1.map I) t1.length (.own 1))]::Y81_1)++[AObj.cells [(I (ix s4 (0:Int)))]])).length _) _
  exact ⟨rfl,get_midY _ _ _ _,by rw [set_midY];exact fgt_midY _ _ _ _⟩
theorem x81_l2_ok {t:(Int×(List (Int×Int)))} {without:Int} {kl2_0:(List Int)→Option (List Int)} {s3:(List Int)} {s4:(List Int)} {v:(List Int)} {Q:Ex→List AV→List AObj→Prop}   (hkl2_0:∀ (z2:(List Int)) (u0:AV) (u1:AV) (u2:AV) (u3:AV) (u5:AV) (u8:AV) (u9:AV) (u10:AV) (u11:AV) (u12:AV) (u13:AV) (u14:AV) (u15:AV) (u16:AV) (u17:AV) (u18:AV) (u19:AV) (u20:AV) (u21:AV) (u22:AV) (u23:AV) (u24:AV) (u25:AV) (u26:AV) (u27:AV) (u28:AV) (u29:AV) (u30:AV) (u31:AV) (u32:AV) (u33:AV) (u34:AV) (u35:AV) (u36:AV) (u37:AV) (u38:AV) (u39:AV) (u40:AV) (u41:AV) (u42:AV) (u43:AV) (u44:AV) (u45:AV) (u46:AV) (u47:AV) (u48:AV) (u49:AV) (u50:AV) (u51:AV) (u52:AV) (u53:AV) (u54:AV) (u55:AV) (u56:AV) (u57:AV) (u58:AV) (u59:AV) (u60:AV) (u61:AV) (u62:AV) (o1:AObj) (o2:AObj) (o5:AObj) (Yq:List AObj),kl2_0 z2=some v→Q (.exit 2) [u0,u1,u2,u3,J,u5,(.ptr 2 0),(.ptr 3 0),u8,u9,u10,u11,u12,u13,u14,u15,u16,u17,u18,u19,u20,u21,u22,u23,u24,u25,u26,u27,u28,u29,u30,u31,u32,u33,u34,u35,u36,u37,u38,u39,u40,u41,u42,u43,u44,u45,u46,u47,u48,u49,u50,u51,u52,u53,u54,u55,u56,u57,u58,u59,u60,u61,u62] (o1::o2::AObj.cells ((List.replicate 6 (0:Int)).map I)::AObj.cells (z2.map I)::o5::Yq)) {T:List AV} (hT:zipKeep [o_,o_,o_,i_,o_,i_,i_,i_,o_,i_,o_,o_,o_,o_,o_,o_,o_,o_,o_,o_,o_,o_,o_,o_,o_,o_,o_,o_,o_,o_,o_,o_,o_,o_,o_,o_,o_,o_,o_,o_,o_,o_,o_,o_,o_,o_,o_,o_,o_,o_,o_,o_,o_,o_,o_,o_,o_,o_,o_,o_,o_,o_,o_] T=slots 63 [(3,(.ptr 0 0)),(5,(.ptr 1 0)),(6,(.ptr 2 0)),(7,(.ptr 3 0)),(9,(.ptr 4 0))]) (h:x81_l2 t without kl2_0 FU s3 s4=some v) :
  wpR Tryz.prog ann81 81 0 none xrc81_3 T [AObj.cells [(.lptr [(I t.1),(.lst (t.2.flatMap pr) t.2.length .shared)])],AObj.cells [(I without)],AObj.cells ((List.replicate 6 (0:Int)).map I),AObj.cells (s3.map I),AObj.cells [(.lst (s4.map I) s4.length (.own 1))]] Q:=by
 unfold xrc81_3
 obtain ⟨c_2,g_2⟩:∃ c,xrc81_2=c:=⟨_,rfl⟩
 rw [g_2]
 refine wp_loop hT ?_
 refine .intro (fun m T H=>∃ (s3:(List Int)) (s4:(List Int)) (Y81_1:List AObj),T=slots 63 [(3,(.ptr 0 0)),(5,(.ptr 1 0)),(6,(.ptr 2 0)),(7,(.ptr 3 0)),(9,(.ptr 4 0))]∧H=(AObj.cells [(.lptr [(I t.1),(.lst (t.2.flatMap pr) t.2.length .shared)])]::AObj.cells [(I without)]::AObj.cells ((List.replicate 6 (0:Int)).map I)::AObj.cells (s3.map I)::AObj.cells [(.lst (s4.map I) s4.length (.own 1))]::Y81_1)∧x81_l2 t without kl2_0 m s3 s4=some v) FU ⟨s3,s4,[],rfl,rfl,h⟩ ?_
 clear h hT
 rintro m T H ⟨s3,s4,Y81_1,rfl,rfl,h⟩
 cases m
 ·exact none_ne h
 rename_i m
 rw [x81_l2.eq_2] at h
 conv=>whnf
 rcases bt (decide ((0:Int)<(s4.length:Int))) with hb4 | hb4
 ·rw [hb4]
  conv=>whnf
  replace h:=it_t hb4 h
  obtain ⟨hb5,h⟩:=gd_some h
  refine ⟨hb5,?_⟩
  rw [drop1 I s4 (0:Int) hb5]
  conv=>whnf
  refine nthK_of (x:=AObj.cells [(I (0:Int))]) (by first | with_reducible exact get_concat _ _ | exact get_concat _ _ | exact ga (get_concat _ _) | rfl | (simp [List.getElem?_append,AV.settle];done)) ?_
  conv=>whnf
  rw [set_concat]
  obtain ⟨hb6,h⟩:=gd_some h
  refine ⟨⟨rfl,hb6⟩,?_⟩
  erw [slLoO I s4 (1:Int) hb6]
  conv=>whnf
  refine nthK_of (x:=AObj.cells [(I (ix s4 (0:Int)))]) (by first | with_reducible exact get_concat _ _ | exact get_concat _ _ | exact ga (get_concat _ _) | rfl | (simp [List.getElem?_append,AV.settle];done)) ?_
  conv=>whnf
  obtain ⟨r1,hb7,h⟩:=bd_some h
  refine ⟨(allc (pu_lptr (allc rfl (allc (pu_flat (fun _=>(allc rfl (allc rfl rfl))) _ _ _) rfl))) (allc rfl rfl)),_,x89_ok hb7,?_⟩
  conv=>whnf
  obtain ⟨l1,hb15,h⟩:=bd_some h
  obtain ⟨r3,hb16,h⟩:=bd_some h
  obtain ⟨F_,hF0,hFn,hF⟩:=foldO_states hb16
  subst g_2
  unfold xrc81_2
  refine rng_wp (f:=fun (e1:(Int×Int))=>(.agg [(I e1.1),(I e1.2)])) (s113_ok hb15) (fun i=>((AObj.cells [(.lptr [(I t.1),(.lst (t.2.flatMap pr) t.2.length .shared)])]::AObj.cells [(I without)]::AObj.cells ((List.replicate 6 (0:Int)).map I)::AObj.cells (((F_ i).2).map I)::AObj.cells [(.lst (((F_ i).1).map I) ((F_ i).1).length (.own 1))]::Y81_1)++[AObj.cells [(I (ix s4 (0:Int)))]])) (by exact rfl) (by show ((AObj.cells [(.lptr [(I t.1),(.lst (t.2.flatMap pr) t.2.length .shared)])]::AObj.cells [(I without)]::AObj.cells ((List.replicate 6 (0:Int)).map I)::AObj.cells (((F_ 0).2).map I)::AObj.cells [(.lst (((F_ 0).1).map I) ((F_ 0).1).length (.own 1))]::Y81_1)++[AObj.cells [(I (ix s4 (0:Int)))]])=_;first | (rw [hF0];done) | (rw [hF0];rfl)) (fun _=>rfl) ?_ (rl:=none) (by exact rfl) (Hn:=((AObj.cells [(.lptr [(I t.1),(.lst (t.2.flatMap pr) t.2.length .shared)])]::AObj.cells [(I without)]::AObj.cells ((List.replicate 6 (0:Int)).map I)::AObj.cells (r3.2.map I)::AObj.cells [(.lst (r3.1.map I) r3.1.length (.own 1))]::Y81_1)++[AObj.cells [(I (ix s4 (0:Int)))]])) (by show ((AObj.cells [(.lptr [(I t.1),(.lst (t.2.flatMap pr) t.2.length .shared)])]::AObj.cells [(I without)]::AObj.cells ((List.replicate 6 (0:Int)).map I)::AObj.cells (((F_ l1.length).2).map I)::AObj.cells [(.lst (((F_ l1.length).1).map I) ((F_ l1.length).1).length (.own 1))]::Y81_1)++[AObj.cells [(I (ix s4 (0:Int)))]])=_;first | (rw [hFn];done) | (rw [hFn];rfl)) (fun Yr7=>?_)
  ·intro i hi Y
   exact x81_r1_ok (s3:=s3) (hF i hi) Y
  conv=>whnf
  exact ⟨m,Nat.lt_succ_self m,r3.2,r3.1,_,rfl,rfl,h⟩
 ·rw [hb4]
  conv=>whnf
  replace h:=it_f hb4 h
  exact hkl2_0 _ _ _ _ _ _ _ _ _ _ _ _ _ _ _ _ _ _ _ _ _ _ _ _ _ _ _ _ _ _ _ _ _ _ _ _ _ _ _ _ _ _ _ _ _ _ _ _ _ _ _ _ _ _ _ _ _ _ _ _ _ _ _ _ _ h
theorem x81_ok {t:(Int×(List (Int×Int)))} {to:Int} {without:Int} {v:(List Int)} (h:x81 t to without=some v):PO 81 [(.lptr [(I t.1),(.lst (t.2.flatMap pr) t.2.length .shared)]),(I to),(I without)] (.agg ((v.map I))):=by
 refine fn_pureW hmix lxx81 rfl (pu_agg (pu_run (fun _=>rfl) _)) fun Q hQ=>?_
 have hR:∀ T H,RetW [.cell 6 (.arr 6)] (.agg ((v.map I))) .ret T H→Q .ret T H:=fun T H hh=>hQ _ T H hh
 unfold x81 at h
 unfold xrc81
 obtain ⟨c_1,g_1⟩:∃ c,xrc81_1=c:=⟨_,rfl⟩
 rw [g_1]
 obtain ⟨c_3,g_3⟩:∃ c,xrc81_3=c:=⟨_,rfl⟩
 rw [g_3]
 conv=>whnf
 subst g_1
 refine x81_l1_ok ?_ (by exact rfl) h
 intro z1 u0 u2 u8 u9 u10 u11 u12 u13 u14 u15 u16 u17 u18 u19 u20 u21 u22 u23 u24 u25 u26 u27 u28 u29 u30 u31 u32 u33 u34 u35 u36 u37 u38 u39 u40 u41 u42 u43 u44 u45 u46 u47 u48 u49 u50 u51 u52 u53 u54 u55 u56 u57 u58 u59 u60 u61 u62 h
 conv=>whnf
 obtain ⟨hb3,h⟩:=gd_some h
 refine ⟨⟨hb3.1,hb3.2.1⟩,?_⟩
 replace hb3:0≤to∧to<(z1.length:Int):=⟨hb3.1,by have:=hb3.2;omega⟩
 conv=>whnf
 refine updD I z1 to (0:Int) hb3 ?_
 conv=>whnf
 subst g_3
 refine x81_l2_ok ?_ (by exact rfl) h
 intro z2 u0 u1 u2 u3 u5 u8 u9 u10 u11 u12 u13 u14 u15 u16 u17 u18 u19 u20 u21 u22 u23 u24 u25 u26 u27 u28 u29 u30 u31 u32 u33 u34 u35 u36 u37 u38 u39 u40 u41 u42 u43 u44 u45 u46 u47 u48 u49 u50 u51 u52 u53 u54 u55 u56 u57 u58 u59 u60 u61 u62 o1 o2 o5 Yq h
 conv=>whnf
 obtain ⟨hb17,h⟩:=gd_some h
 refine ⟨by simp [hb17],?_⟩
 rw [ldArrE I z2 (fun _=>rfl) hb17]
 conv=>whnf
 obtain ⟨hb18,h⟩:=gd_some h
 try rw [show List.map AV.dim0 (List.map I z2)=List.map I z2 from by rw [List.map_map];rfl]
 first | (refine stArr I z2 (n:=6) (l:=(List.replicate 6 (0:Int))) (Nat.zero_le _) (fun _=>rfl) (by first | with_reducible exact get_concat _ _ | exact get_concat _ _ | exact ga (get_concat _ _) | rfl | (simp [List.getElem?_append,AV.settle];done)) hb18.1 hb18.2 (by decide) ?_) | (rw [show Nat.beq (List.map I z2).length 6=true from by rw [List.length_map,hb18.1] <;> exact Nat.beq_refl _];refine updsArr I (List.replicate 6 (0:Int)) z2 (fun _=>rfl) (by rw [hb18.1,hb18.2]) ?_)
 conv=>whnf
 obtain ⟨hb19,h⟩:=gd_some h
 obtain rfl:=Option.some.inj h
 exact hR _ _ ⟨.inr rfl,_,readArr (l:=z2) (by rfl) (by first | with_reducible exact get_concat _ _ | exact get_concat _ _ | exact ga (get_concat _ _) | rfl | (simp [List.getElem?_append,AV.settle];done)) hb19,_,frz_pure (pu_agg (pu_run (fun _=>rfl) _)),(by show AV.agg (List.map AV.dim0 (List.map _ _))=_;rw [List.map_map];rfl)⟩
end Go.Proofs.YtfakoboiahbhaaaGreat.Ab


namespace Go.Proofs.YtfakoboiahbhaaaGreat.Ab
open Go
def Ed (b:Bk) (wo f g:Int):Prop:=∃ p∈places b f,p.1≠wo∧fin b p=g
def Wk (b:Bk) (wo:Int):Nat→Int→Int→Prop
 | 0,a,g=>a=g
 | n+1,a,g=>∃ f,Wk b wo n a f∧Ed b wo f g
def stepF (b:Bk) (wo f:Int) (s:List Int×List Int) (p:Int×Int):List Int×List Int :=
 if p.1≠wo∧ix s.2 (fin b p)<0 then (s.1++[fin b p],s.2.set (fin b p).toNat (ix s.2 f+1)) else s
theorem plc_range {n r:Nat} (h:r<2*n):0≤(plc r).1∧(plc r).1<(n:Int)∧0≤(plc r).2∧(plc r).2≤1:=by
 unfold plc;simp only;omega
theorem places_in {b:Bk} {f:Int} {p:Int×Int} (h:p∈places b f):0≤p.1∧p.1<(b.2.length:Int)∧0≤p.2∧p.2≤1∧beg b p=f:=by
 unfold places at h
 obtain ⟨r,hr,rfl⟩:=List.mem_map.1 h
 obtain ⟨h1,h2⟩:=List.mem_filter.1 hr
 have:=plc_range (List.mem_range.1 h1)
 exact ⟨this.1,this.2.1,this.2.2.1,this.2.2.2,by simpa [begs] using h2⟩
theorem ix_mem' {l:List (Int×Int)} {i:Int} (h:0≤i∧i<(l.length:Int)):ix l i∈l:=by
 obtain ⟨k,rfl⟩:∃ k:Nat,i=(k:Int):=⟨i.toNat,by omega⟩
 rw [ix_nat (by omega)];exact List.getElem_mem _
theorem fin_in {b:Bk} (hB:Book b) {f:Int} {p:Int×Int} (h:p∈places b f):0≤fin b p∧fin b p<b.1:=by
 have h:=places_in h
 have hm:=ix_mem' (l:=b.2) ⟨h.1,h.2.1⟩
 unfold fin
 split
 ·exact hB.left _ hm
 ·exact hB.right _ hm
def freeN (D:List Int):Nat:=D.countP fun x=>decide (x<0)
theorem freeN_set:∀ (D:List Int) (j:Nat) (x:Int) (h:j<D.length),D[j]<0→0≤x→freeN (D.set j x)+1=freeN D
 | a::D,0,x,_,h1,h2=>by
   have h1:a<0:=h1
   simp [freeN,List.countP_cons,h1,show ¬ x<0 by omega]
 | a::D,j+1,x,h,h1,h2=>by
   have:=freeN_set D j x (by simpa using h) h1 h2
   simp only [freeN,List.set_cons_succ,List.countP_cons] at this ⊢;omega
theorem x81_r1_eq {b:Bk} (hB:Book b) {wo f:Int} {Q0:List Int} (hf:ix Q0 (0:Int)=f∧0≤f∧f<b.1) {s:List Int×List Int} {p:Int×Int} (hp:p∈places b f) (hl:s.2.length=6) (hr:s.1.length+freeN s.2≤1000) (hd:-1≤ix s.2 f∧ix s.2 f≤100) :
  x81_r1 b wo Q0 s p=some (stepF b wo f s p):=by
 obtain ⟨t1,t2⟩:=s
 have hpl:=places_in hp
 have hfi:=fin_in hB hp
 have h6:=hB.f6
 simp only at hl hr hd
 rw [x81_r1]
 simp only [x68_eq ⟨hpl.1,hpl.2.1⟩,Option.bind_some,hf.1]
 unfold stepF
 by_cases h1:p.1≠wo
 ·rw [if_pos (decide_eq_true h1),gd_pos ⟨by omega,by omega,hl.symm⟩]
  by_cases h2:ix t2 (fin b p)<0
  ·rw [if_pos (decide_eq_true h2),gd_pos ⟨by omega,by omega,hl.symm⟩,gd_pos ⟨by omega,by omega,hl.symm⟩,gd_pos (by omega),w_id (by omega),if_pos ⟨h1,h2⟩]
  ·rw [if_neg (by simpa using h2),if_neg (by simp [h2])]
 ·rw [if_neg (by simpa using h1),if_neg (by simp [h1])]
structure FI (b:Bk) (wo f:Int) (Q0 D0:List Int) (dn:List (Int×Int)) (s:List Int×List Int):Prop where
 len:s.2.length=6
 cnt:s.1.length+freeN s.2=Q0.length+freeN D0
 old:∀ g:Nat,g<6→0≤ix D0 (g:Int)→ix s.2 (g:Int)=ix D0 (g:Int)
 new:∀ g:Nat,g<6→ix D0 (g:Int)<0→ix s.2 (g:Int)=ix D0 (g:Int)∨(ix s.2 (g:Int)=ix D0 f+1∧Ed b wo f (g:Int)∧(g:Int)∈s.1)
 qq:∃ N,s.1=Q0++N∧∀ g∈N,0≤g∧g<b.1∧ix s.2 g=ix D0 f+1
 dn:∀ p∈dn,p.1≠wo→0≤ix s.2 (fin b p)
theorem FI.step {b:Bk} (hB:Book b) {wo f:Int} {Q0 D0:List Int} (hf:0≤f∧f<b.1) (hd:0≤ix D0 f) {dn:List (Int×Int)} {s:List Int×List Int} (h:FI b wo f Q0 D0 dn s) {p:Int×Int} (hp:p∈places b f):FI b wo f Q0 D0 (dn++[p]) (stepF b wo f s p):=by
 obtain ⟨Q,D⟩:=s
 obtain ⟨h1,h2,h3,h4,⟨N,h5,h6⟩,h7⟩:=h
 simp only at h1 h2 h3 h4 h5 h6 h7
 have hfi:=fin_in hB hp
 have hB6:=hB.f6
 obtain ⟨a,ha⟩:∃ a:Nat,fin b p=(a:Int):=⟨(fin b p).toNat,by omega⟩
 obtain ⟨c,hc⟩:∃ c:Nat,f=(c:Int):=⟨f.toNat,by omega⟩
 have hDf:ix D f=ix D0 f:=by rw [hc];exact h3 c (by omega) (by rw [←hc];exact hd)
 unfold stepF
 by_cases hx:p.1≠wo∧ix D (fin b p)<0
 ·rw [if_pos hx,ha,Int.toNat_natCast,hDf]
  have hxa:ix D (a:Int)<0:=by rw [←ha];exact hx.2
  have hD0:ix D0 (a:Int)<0:=by
   refine Classical.byContradiction fun hh=>?_
   have:=h3 a (by omega) (by omega);omega
  have hDa:D[a]'(by omega)<0:=by rw [ix_nat (by omega)] at hxa;exact hxa
  have hself:ix (D.set a (ix D0 f+1)) (a:Int)=ix D0 f+1:=ix_set_self (by omega)
  refine ⟨by simpa using h1,?_,fun g hg hg0=>?_,fun g hg hg0=>?_,⟨N++[(a:Int)],by simp [h5],fun g hg=>?_⟩,fun q hq hqw=>?_⟩
  ·have:=freeN_set D a (ix D0 f+1) (by omega) hDa (by omega)
   simp only [List.length_append,List.length_singleton];omega
  ·have hne:g≠a:=fun e=>by subst e;omega
   simp only;rw [ix_set_ne hne];exact h3 g hg hg0
  ·by_cases hga:g=a
   ·subst hga;exact .inr ⟨hself,⟨p,hp,hx.1,ha⟩,by simp⟩
   ·simp only;rw [ix_set_ne hga]
    rcases h4 g hg hg0 with e | ⟨e,e2,e3⟩
    ·exact .inl e
    ·exact .inr ⟨e,e2,by simp [e3]⟩
  ·rcases List.mem_append.1 hg with hg | hg
   ·obtain ⟨k1,k2,k3⟩:=h6 g hg
    obtain ⟨g',rfl⟩:∃ g':Nat,g=(g':Int):=⟨g.toNat,by omega⟩
    refine ⟨k1,k2,?_⟩
    by_cases hga:g'=a
    ·subst hga;exact hself
    ·simp only;rw [ix_set_ne hga];exact k3
   ·simp only [List.mem_singleton] at hg
    subst hg
    exact ⟨by omega,by omega,hself⟩
  ·have key:0≤ix D (fin b q)∨fin b q=(a:Int):=by
    rcases List.mem_append.1 hq with hq | hq
    ·exact .inl (h7 q hq hqw)
    ·simp only [List.mem_singleton] at hq;subst hq;exact .inr ha
   rcases key with key | key
   ·rcases Classical.em (fin b q=(a:Int)) with e | e
    ·simp only;rw [e,hself];omega
    ·have:ix (D.set a (ix D0 f+1)) (fin b q)=ix D (fin b q):=by
      unfold ix
      rcases Int.lt_or_le (fin b q) 0 with hn | hn
      ·have e0:(fin b q).toNat=0:=by omega
       rw [e0]
       rw [List.getD_eq_getElem?_getD]
       by_cases ha0:a=0
       ·subst ha0
        exfalso
        have k:=key
        unfold ix at k
        rw [e0,List.getD_eq_getElem?_getD] at k
        rw [ix_nat (by omega)] at hxa
        rw [List.getElem?_eq_getElem (by omega)] at k
        simp at k;omega
       ·rw [List.getElem?_set_ne ha0];rfl
      ·rw [List.getD_eq_getElem?_getD,List.getElem?_set_ne (by omega)];rfl
     simp only;rw [this];exact key
   ·simp only;rw [key,hself];omega
 ·rw [if_neg hx]
  refine ⟨h1,h2,h3,h4,⟨N,h5,h6⟩,fun q hq hqw=>?_⟩
  rcases List.mem_append.1 hq with hq | hq
  ·exact h7 q hq hqw
  ·simp only [List.mem_singleton] at hq;subst hq
   have:¬ ix D (fin b q)<0:=fun e=>hx ⟨hqw,e⟩
   simp only;omega
theorem fold_FI {b:Bk} (hB:Book b) {wo f:Int} {Q0 D0:List Int} (hf:0≤f∧f<b.1) (hd:0≤ix D0 f) (hd5:ix D0 f≤50) {Qh:List Int} (hq:ix Qh (0:Int)=f) (hroom:Q0.length+freeN D0≤100):∀ (l dn:List (Int×Int)) (s:List Int×List Int),(∀ p∈l,p∈places b f)→FI b wo f Q0 D0 dn s →
  ∃ s',foldO (x81_r1 b wo Qh) l s=some s'∧FI b wo f Q0 D0 (dn++l) s'
 | [],dn,s,_,h=>⟨s,rfl,by simpa using h⟩
 | p::l,dn,s,hl,h=>by
   have hp:=hl p (by simp)
   have hB6:=hB.f6
   obtain ⟨c,hc⟩:∃ c:Nat,f=(c:Int):=⟨f.toNat,by omega⟩
   have hDf:ix s.2 f=ix D0 f:=by rw [hc];exact h.old c (by omega) (by rw [←hc];exact hd)
   obtain ⟨s',e1,e2⟩:=fold_FI hB hf hd hd5 hq hroom l (dn++[p]) _ (fun q hq=>hl q (by simp [hq])) (h.step hB hf hd hp)
   have hc2:=h.cnt
   refine ⟨s',?_,by simpa using e2⟩
   rw [foldO,x81_r1_eq hB ⟨hq,hf⟩ hp h.len (by omega) (by omega),Option.bind_some]
   exact e1
structure Sta (b:Bk) (wo to:Int) (Q D:List Int):Prop where
 len:D.length=6
 q:∀ f∈Q,0≤f∧f<b.1∧0≤ix D f
 room:Q.length+freeN D≤6
 small:∀ g:Nat,g<6→0≤ix D (g:Int)→ix D (g:Int)+freeN D≤5
 walk:∀ g:Nat,g<6→0≤ix D (g:Int)→Wk b wo (ix D (g:Int)).toNat to (g:Int)
 sort:Q.Pairwise fun x y=>ix D x≤ix D y
 top:∀ f r,Q=f::r→∀ g:Nat,g<6→ix D (g:Int)≤ix D f+1
 proc:∀ g:Nat,g<6→0≤ix D (g:Int)→(g:Int) ∉ Q→∀ h,Ed b wo (g:Int) h→0≤ix D h∧ix D h≤ix D (g:Int)+1
 zero:0≤to∧to<6∧ix D to=0
theorem Ed.in {b:Bk} (hB:Book b) {wo f g:Int} (h:Ed b wo f g):0≤g∧g<b.1:=by
 obtain ⟨p,h1,_,rfl⟩:=h;exact fin_in hB h1
theorem Sta.next {b:Bk} (hB:Book b) {wo to f:Int} {r D:List Int} (h:Sta b wo to (f::r) D) {s:List Int×List Int} (hs:FI b wo f r D (places b f) s):Sta b wo to s.1 s.2:=by
 obtain ⟨Q',D'⟩:=s
 obtain ⟨k1,k2,k3,k4,⟨N,k5,k6⟩,k7⟩:=hs
 simp only at k1 k2 k3 k4 k5 k6 k7
 subst k5
 have hB6:=hB.f6
 have hfq:=h.q f (by simp)
 obtain ⟨c,hc⟩:∃ c:Nat,f=(c:Int):=⟨f.toNat,by omega⟩
 have hnn:∀ g:Int,0≤g→g<6→∃ n:Nat,g=(n:Int)∧n<6:=fun g h1 h2=>⟨g.toNat,by omega,by omega⟩
 have hold:∀ g:Int,0≤g→g<6→0≤ix D g→ix D' g=ix D g:=fun g h1 h2 h3=>by
  obtain ⟨n,rfl,hn⟩:=hnn g h1 h2;exact k3 n hn h3
 have hle:∀ g:Nat,g<6→ix D' (g:Int)≤ix D f+1:=fun g hg=>by
  rcases Int.lt_or_le (ix D (g:Int)) 0 with h0 | h0
  ·rcases k4 g hg h0 with e | e
   ·omega
   ·omega
  ·rw [k3 g hg h0];exact h.top f r rfl g hg
 have hr:∀ x∈r,0≤x∧x<b.1∧0≤ix D x∧ix D' x=ix D x:=fun x hx=>by
  have:=h.q x (by simp [hx]);exact ⟨this.1,this.2.1,this.2.2,hold x this.1 (by omega) this.2.2⟩
 have hsort:=List.pairwise_cons.1 h.sort
 have hroom:=h.room
 simp only [List.length_cons] at hroom
 refine ⟨k1,fun g hg=>?_,by simp only;omega,fun g hg h0=>?_,fun g hg h0=>?_,?_,fun f' r' he g hg=>?_,fun g hg h0 hnq h' he=>?_,⟨h.zero.1,h.zero.2.1,by simp only;rw [hold to h.zero.1 h.zero.2.1 (by have:=h.zero.2.2;omega)];exact h.zero.2.2⟩⟩
 ·rcases List.mem_append.1 hg with hg | hg
  ·have:=hr g hg;exact ⟨this.1,this.2.1,by simp only;omega⟩
  ·have:=k6 g hg;exact ⟨this.1,this.2.1,by simp only;omega⟩
 ·have hfs:=h.small c (by omega) (by rw [←hc];omega)
  rw [←hc] at hfs
  simp only [List.length_append] at k2
  rcases Int.lt_or_le (ix D (g:Int)) 0 with h1 | h1
  ·rcases k4 g hg h1 with e | e
   ·simp only at h0;omega
   ·have hN:1≤N.length:=by
     rcases List.mem_append.1 e.2.2 with e3 | e3
     ·have:=(hr _ e3).2.2.1;omega
     ·exact List.length_pos_of_mem e3
    simp only;omega
  ·have:=h.small g hg h1
   simp only;rw [k3 g hg h1];omega
 ·rcases Int.lt_or_le (ix D (g:Int)) 0 with h1 | h1
  ·rcases k4 g hg h1 with e | ⟨e,e2,_⟩
   ·simp only at h0;omega
   ·simp only;rw [e,show (ix D f+1).toNat=(ix D f).toNat+1 by omega]
    exact ⟨f,by have:=h.walk c (by omega) (by rw [←hc];omega);rw [hc];rw [←hc] at this ⊢;exact this,e2⟩
  ·simp only;rw [k3 g hg h1];exact h.walk g hg h1
 ·simp only
  rw [List.pairwise_append]
  refine ⟨hsort.2.imp_of_mem fun {x y} hx hy hxy=>by rw [(hr x hx).2.2.2,(hr y hy).2.2.2];exact hxy,?_,fun x hx y hy=>?_⟩
  ·exact List.Pairwise.imp_of_mem (R:=fun _ _=>True) (fun {x y} hx hy _=>by rw [(k6 x hx).2.2,(k6 y hy).2.2];omega) (List.pairwise_of_forall fun _ _=>trivial)
  ·obtain ⟨n,rfl,hn⟩:=hnn x (hr x hx).1 (by have:=(hr x hx).2.1;omega)
   rw [(k6 y hy).2.2];exact hle n hn
 ·simp only at he ⊢
  have hf':ix D f≤ix D' f':=by
   have hm:f'∈r++N:=by rw [he];simp
   rcases List.mem_append.1 hm with hm | hm
   ·rw [(hr f' hm).2.2.2];exact hsort.1 f' hm
   ·rw [(k6 f' hm).2.2];omega
  have:=hle g hg;omega
 ·simp only at h0 hnq ⊢
  have hh:=Ed.in hB he
  rcases Classical.em ((g:Int)=f) with e | e
  ·rw [e] at he ⊢
   obtain ⟨n,rfl,hn⟩:=hnn h' hh.1 (by omega)
   rw [hold f hfq.1 (by omega) hfq.2.2]
   obtain ⟨p,p1,p2,p3⟩:=he
   exact ⟨by rw [←p3];exact k7 p p1 p2,hle n hn⟩
  ·rcases Int.lt_or_le (ix D (g:Int)) 0 with h1 | h1
   ·rcases k4 g hg h1 with e2 | ⟨_,_,e3⟩
    ·omega
    ·exact absurd e3 hnq
   ·have:=h.proc g hg h1 (fun hm=>by
     rcases List.mem_cons.1 hm with e2 | e2
     ·exact e e2
     ·exact hnq (List.mem_append_left _ e2)) h' he
    rw [k3 g hg h1,hold h' hh.1 (by omega) this.1]
    exact this
theorem x81_l2_eq {b:Bk} (hB:Book b) {wo to:Int} {k:List Int→Option (List Int)}:∀ (m:Nat) (Q D:List Int),Sta b wo to Q D→Q.length+freeN D<m→∃ D',Sta b wo to [] D'∧x81_l2 b wo k m D Q=k D'
 | 0,_,_,_,h=>absurd h (by omega)
 | m+1,Q,D,hS,hm=>by
   rw [x81_l2]
   have hB6:=hB.f6
   have hl:=hB.len
   cases Q with
   | nil=>rw [if_neg (by simp)];exact ⟨D,hS,rfl⟩
   | cons f r =>
     have hf:=hS.q f (by simp)
     obtain ⟨c,hc⟩:∃ c:Nat,f=(c:Int):=⟨f.toNat,by omega⟩
     have hsm:=hS.small c (by omega) (by rw [←hc];omega)
     rw [←hc] at hsm
     have hroom:=hS.room
     simp only [List.length_cons] at hroom hm
     obtain ⟨s',e1,e2⟩:=fold_FI hB ⟨hf.1,hf.2.1⟩ hf.2.2 (by omega) (Qh:=f::r) rfl (by omega) (Q0:=r) (D0:=D) (wo:=wo) (places b f) [] (r,D) (fun p h=>h) ⟨hS.len,rfl,fun _ _ _=>rfl,fun _ _ _=>.inl rfl,⟨[],by simp,by simp⟩,by simp⟩
     rw [List.nil_append] at e2
     have hc2:=e2.cnt
     obtain ⟨D',d1,d2⟩:=x81_l2_eq hB m s'.1 s'.2 (Sta.next hB hS e2) (by omega)
     refine ⟨D',d1,?_⟩
     rw [if_pos (decide_eq_true (by simp)),gd_pos (by simp),gd_pos ⟨by omega,by simp only [List.length_cons];omega⟩,show ix (f::r) (0:Int)=f from rfl,x89,Option.bind_some,s113,if_pos (by omega),Option.bind_some]
     show ((foldO (x81_r1 b wo (f::r)) (places b f) (r,D)).bind _)=_
     rw [e1,Option.bind_some]
     exact d2
structure FarD (b:Bk) (wo to:Int) (D:List Int):Prop where
 len:D.length=6
 walk:∀ g:Nat,g<6→0≤ix D (g:Int)→Wk b wo (ix D (g:Int)).toNat to (g:Int)
 least:∀ (n:Nat) (g:Int),Wk b wo n to g→0≤g∧g<6∧0≤ix D g∧ix D g≤n
 small:∀ g:Nat,g<6→ix D (g:Int)≤5
theorem Sta.far {b:Bk} (hB:Book b) {wo to:Int} {D:List Int} (h:Sta b wo to [] D):FarD b wo to D:=by
 have hB6:=hB.f6
 refine ⟨h.len,h.walk,fun n=>?_,fun g hg=>?_⟩
 ·induction n with
  | zero =>
    intro g hg
    have hg:to=g:=hg
    subst hg
    have:=h.zero;exact ⟨this.1,this.2.1,by omega,by omega⟩
  | succ n ih =>
    rintro g ⟨f,h1,h2⟩
    obtain ⟨i1,i2,i3,i4⟩:=ih f h1
    obtain ⟨c,rfl⟩:∃ c:Nat,f=(c:Int):=⟨f.toNat,by omega⟩
    have hp:=h.proc c (by omega) i3 (by simp) g h2
    have hi:=Ed.in hB h2
    exact ⟨hi.1,by omega,hp.1,by omega⟩
 ·rcases Int.lt_or_le (ix D (g:Int)) 0 with h1 | h1
  ·omega
  ·have:=h.small g hg h1;omega
theorem x81_l1_eq {k:List Int→Option (List Int)}:∀ (m i:Nat) (z:Int) (D:List Int),z=i→i≤6→6-i<m→D.length=6→(∀ j:Nat,j<i→ix D (j:Int)=-1)→x81_l1 k m z D=k (List.replicate 6 (-1))
 | 0,i,_,_,_,_,h,_,_=>absurd h (by omega)
 | m+1,i,_,D,rfl,hi,hm,hl,hD=>by
   rw [x81_l1]
   by_cases h:i<6
   ·rw [if_pos (decide_eq_true (by omega)),gd_pos ⟨by omega,by omega,hl.symm⟩,w_succ i (by omega),Int.toNat_natCast]
    refine x81_l1_eq m (i+1) _ _ rfl (by omega) (by omega) (by simpa using hl) fun j hj=>?_
    by_cases hji:j=i
    ·subst hji;exact ix_set_self (by omega)
    ·rw [ix_set_ne hji];exact hD j (by omega)
   ·rw [if_neg (by simp;omega)]
    congr 1
    refine List.ext_getElem (by simp [hl]) fun j h1 h2=>?_
    have:=hD j (by omega)
    rw [ix_nat h1] at this
    rw [this,List.getElem_replicate]
theorem x81_eq {b:Bk} (hB:Book b) {wo to:Int} (ht:0≤to∧to<b.1):∃ D,x81 b to wo=some D∧FarD b wo to D:=by
 have hB6:=hB.f6
 obtain ⟨c,hc⟩:∃ c:Nat,to=(c:Int):=⟨to.toNat,by omega⟩
 subst hc
 have hself:ix ((List.replicate 6 (-1:Int)).set c 0) (c:Int)=0:=ix_set_self (by simp;omega)
 have hoth:∀ g:Nat,g<6→g≠c→ix ((List.replicate 6 (-1:Int)).set c 0) (g:Int)=-1:=fun g hg hne=>by
  rw [ix_set_ne hne,ix_nat (by rw [List.length_replicate];omega),List.getElem_replicate]
 have hfree:freeN ((List.replicate 6 (-1:Int)).set c 0)=5:=by
  have:=freeN_set (List.replicate 6 (-1:Int)) c 0 (by rw [List.length_replicate];omega) (by rw [List.getElem_replicate];omega) (by omega)
  have e:freeN (List.replicate 6 (-1:Int))=6:=by decide
  omega
 have hS:Sta b wo (c:Int) [(c:Int)] ((List.replicate 6 (-1:Int)).set c 0):=by
  refine ⟨by simp,fun f hf=>?_,by rw [hfree];simp,fun g hg h0=>?_,fun g hg h0=>?_,by simp,fun f r he g hg=>?_,fun g hg h0 hn h he=>?_,⟨by omega,by omega,hself⟩⟩
  ·simp only [List.mem_singleton] at hf;subst hf;exact ⟨ht.1,ht.2,by rw [hself];omega⟩
  ·by_cases e:g=c
   ·subst e;rw [hself,hfree];omega
   ·rw [hoth g hg e] at h0;omega
  ·by_cases e:g=c
   ·subst e;rw [hself];exact rfl
   ·rw [hoth g hg e] at h0;omega
  ·simp only [List.cons.injEq] at he
   obtain ⟨rfl,_⟩:=he
   rw [hself]
   by_cases e:g=c
   ·subst e;rw [hself];omega
   ·rw [hoth g hg e];omega
  ·by_cases e:g=c
   ·subst e;simp at hn
   ·rw [hoth g hg e] at h0;omega
 obtain ⟨D,d1,d2⟩:=x81_l2_eq hB (k:=fun z2 =>
         gd (z2.length=6) <|
         gd (z2.length=6∧(List.replicate 6 (0:Int)).length=6) <|
         gd (z2.length=6) <|
         some z2) FU _ _ hS (FU_lt (by rw [hfree];simp))
 refine ⟨D,?_,Sta.far hB d1⟩
 rw [x81,x81_l1_eq FU 0 0 _ rfl (by omega) (FU_lt (by omega)) (by simp) (fun j hj=>absurd hj (by omega)),gd_pos ⟨by omega,by omega,by simp⟩,Int.toNat_natCast,d2]
 have:=d1.len
 rw [gd_pos this,gd_pos ⟨this,by simp⟩,gd_pos this]
end Go.Proofs.YtfakoboiahbhaaaGreat.Ab
