
import Derived.Test.YtfakoboiahbhaaaGreatJn4
import Derived.KernelRfl
import Derived.Test.YtfakoboiahbhaaaGreatJn5
import Derived.Test.YtfakoboiahbhaaaGreatJn6
set_option linter.unusedSimpArgs false
set_option linter.unusedVariables false
set_option linter.unusedSectionVars false

namespace Go.Proofs.YtfakoboiahbhaaaGreat.Ab
open Go
def k1:Ent:=.pure 18 [.agg [.int .i64 4,.lst [.int .i64 0,.int .i64 1,.int .i64 1,.int .i64 2,.int .i64 2,.int .i64 0,.int .i64 2,.int .i64 3] 4 .shared],.lst [.int .i64 1,.int .i64 1,.int .i64 0,.int .i64 1,.int .i64 2,.int .i64 1,.int .i64 3,.int .i64 0] 4 .shared] (.tuple [.int .i64 2,.int .i64 3,.int .i64 0])
def k2:Ent:=.pure 22 [.agg [.int .i64 4,.lst [.int .i64 0,.int .i64 1,.int .i64 1,.int .i64 2,.int .i64 2,.int .i64 0,.int .i64 2,.int .i64 3] 4 .shared],.lst [.int .i64 1,.int .i64 1,.int .i64 0,.int .i64 1,.int .i64 2,.int .i64 1,.int .i64 3,.int .i64 0] 4 .shared] (.int .i64 27)
def k3:Ent:=.pure 27 [.agg [.int .i64 5,.lst [.int .i64 0,.int .i64 1,.int .i64 2,.int .i64 3,.int .i64 4,.int .i64 4] 3 .shared]] (.tuple [.lst [.int .i64 0,.int .i64 1,.int .i64 2,.int .i64 3] 4 .full,.int .i64 0])
def k4:Ent:=.pure 29 [.agg [.int .i64 4,.lst [.int .i64 0,.int .i64 1,.int .i64 1,.int .i64 2,.int .i64 2,.int .i64 0,.int .i64 2,.int .i64 3] 4 .shared]] (.tuple [.lst [.lst [.int .i64 0,.int .i64 1,.int .i64 2,.int .i64 3] 4 .shared] 1 .shared,.int .i64 0])
def k5:Ent:=.pure 35 [.agg [.int .i64 4,.lst [.int .i64 0,.int .i64 1,.int .i64 1,.int .i64 2,.int .i64 2,.int .i64 0,.int .i64 2,.int .i64 3] 4 .shared]] (.tuple [.int .i64 1,.int .i64 0])
def k6:Ent:=.pure 35 [.agg [.int .i64 2,.lst [.int .i64 0,.int .i64 1,.int .i64 1,.int .i64 0] 2 .shared]] (.tuple [.int .i64 1,.int .i64 0])
end Go.Proofs.YtfakoboiahbhaaaGreat.Ab


namespace Go.Proofs.YtfakoboiahbhaaaGreat.Ab
open Go
def worksL:List Ent:=[w1,w2,w3,w4,w5,w6,w7,w8,w9,w10,w11,w12,w13,w14,w15,w16,w17,w18,w19,w20,w21,w22,w23]
theorem worksL_ok:∀ e∈worksL,entOk Go.Proofs.Tryz.prog e:=by
 simp only [worksL,List.forall_mem_cons]
 exact ⟨w1_ok,w2_ok,w3_ok,w4_ok,w5_ok,w6_ok,w7_ok,w8_ok,w9_ok,w10_ok,w11_ok,w12_ok,w13_ok,w14_ok,w15_ok,w16_ok,w17_ok,w18_ok,w19_ok,w20_ok,w21_ok,w22_ok,w23_ok,by simp⟩
abbrev WK:Prop:=PO 17 [] (B true)
theorem works_ok:WK:=runC_ok worksL_ok (by kernel_rfl)
end Go.Proofs.YtfakoboiahbhaaaGreat.Ab


namespace Go.Proofs.YtfakoboiahbhaaaGreat.Ab
open Go
def x17:Option Bool:=some true
theorem x17_ok {v:Bool} (h:x17=some v):PO 17 [] (B v):=by
 obtain rfl:=Option.some.inj h
 exact works_ok
end Go.Proofs.YtfakoboiahbhaaaGreat.Ab


namespace Go.Proofs.YtfakoboiahbhaaaGreat.Ab
open Go
set_option maxRecDepth 20000
set_option maxHeartbeats 4000000
noncomputable def xrc16:RC :=
 .seq (.reg false [I_ 1 [.tk 0] .box,I_ 2 [.cv (.bool false)] .mv]) (.seq (.reg false [I_ 3 [.tv 1] (.fa 1),I_ 4 [.tv 3] (.ld .one),I_ 5 [.tk 4] .lenS,I_ 6 [.tv 5,.cv (.int .i64 14)] (.bin .gtr),I_ 2 [.tk 6] .mv]) .ret)
theorem lxx16:linkF Tryz.prog ann16 16=some (xrc16,7,[.tmp 2]):=by kernel_rfl
def x16 (b:(Int×(List (Int×Int)))):Option Bool :=
 some (decide ((14:Int)<(b.2.length:Int)))
theorem x16_ok {b:(Int×(List (Int×Int)))} {v:Bool} (h:x16 b=some v):PO 16 [(.agg [(I b.1),(.lst (b.2.flatMap pr) b.2.length .shared)])] (B v):=by
 refine fn_pureW hmix lxx16 rfl rfl fun Q hQ=>?_
 have hR:∀ T H,RetW [.tmp 2] (B v) .ret T H→Q .ret T H:=fun T H hh=>hQ _ T H hh
 unfold x16 at h
 unfold xrc16
 skip
 conv=>whnf
 obtain rfl:=Option.some.inj h
 exact hR _ _ ⟨.inr rfl,_,rfl,_,frz_pure rfl,rfl⟩

noncomputable def xrc114_1:RC :=
 .loop (some [i_,i_,o_,o_,o_,o_,o_,i_,i_,o_,o_,o_,o_,o_,o_,o_,o_,o_,o_]) (.seq (.reg false [I_ 9 [.sl 8,.sl 7] (.bin .lss)]) (.seq (.cond (.sl 9) .skip (.exit
 0)) (.seq (.block 1 (.seq (.reg false [I_ 10 [.sl 8] .mv,I_ 5 [.tk 10] .mv]) (.seq (.reg false [I_ 11 [.sl 1] .mv,I_ 12 [.sl 0] .mv,I_ 13 [.sl 5] .mv,I_ 14 [.tv 12,.tv 13] (.ia 1),I_ 15 [.tv 14] (.ld .one),I_ 16 [.sl 11,
 .sl 15] (.call 6)]) (.cond (.sl 16) (.seq (.reg false [I_ 17 [.tk 5] .mv,I_ 4 [.tk 17] .mv]) .ret) .skip)))) (.reg false [I_ 18 [.tv 8,.cv (.int .i64 1)] (.bin .add),I_ 8 [.tk 18] .mv]))))
noncomputable def xrc114:RC :=
 .seq (.reg false [I_ 4 [.cv (.int .i64 0)] .mv]) (.seq (.seq (.reg false [I_ 6 [.sl 0] .mv,I_ 7 [.tk 6] .lenS,I_ 8 [.cv (.int .i64 0)] .mv]) (.block 0 xrc114_1)) (.seq (.reg false [I_ 4 [.cv (.int .i64 (-1))] .mv]) .ret))
theorem lxx114:linkF Tryz.prog ann114 114=some (xrc114,19,[.tmp 4]):=by kernel_rfl
def x114_l1 (s:(List Int)) (f:(Int→Option Bool)) (kl1_0:Unit→Option Int):Nat→Int→Option Int
 | 0,_=>none
 | m+1,s1 =>
   if (decide (s1<(s.length:Int)))=true then
    gd (0≤s1∧s1<(s.length:Int)) <|
    (f (ix s s1)).bind fun r1 =>
    if r1=true then
     some s1
    else
     x114_l1 s f kl1_0 m (w (s1+(1:Int)))
   else
    kl1_0 ()
def x114 (s:(List Int)) (f:(Int→Option Bool)):Option Int :=
 x114_l1 s f (fun _ =>
   some (-1:Int)) FU (0:Int)
theorem x114_l1_ok {s:(List Int)} {f:(Int→Option Bool)} {kl1_0:Unit→Option Int} {s1:Int} {kf_f:FuncId} {cs_f:List AV} (hc_f:Boxes cs_f) (hk_f:∀ (y0:Int) (r:Bool),f y0=some r→PO kf_f ((I y0)::cs_f) (B r)) {v:Int} {Q:Ex→List AV→List AObj→Prop}   (hR:∀ T H,RetW [.tmp 4] (I v) .ret T H→Q .ret T H) (hkl1_0:∀ (u0:AV) (u1:AV) (u4:AV) (u5:AV) (u6:AV) (u7:AV) (u8:AV) (u9:AV) (u10:AV) (u11:AV) (u12:AV) (u13:AV) (u14:AV) (u15:AV) (u16:AV) (u17:AV) (u18:AV),kl1_0 ()=some v→Q (.exit 0) [u0,u1,J,J,u4,u5,u6,u7,u8,u9,u10,u11,u12,u13,u14,u15,u16,u17,u18] []) {T:List AV} (hT:zipKeep [i_,i_,o_,o_,o_,o_,o_,i_,i_,o_,o_,o_,o_,o_,o_,o_,o_,o_,o_] T=slots 19 [(0,(.lst (s.map I) s.length .shared)),(1,(.func kf_f [] cs_f)),(7,(I (s.length:Int))),(8,(I s1))]) (h:x114_l1 s f kl1_0 FU s1=some v) :
  wpR Tryz.prog ann114 114 0 none xrc114_1 T [] Q:=by
 unfold xrc114_1
 skip
 refine wp_loop hT ?_
 refine .intro (fun m T H=>∃ (s1:Int),T=slots 19 [(0,(.lst (s.map I) s.length .shared)),(1,(.func kf_f [] cs_f)),(7,(I (s.length:Int))),(8,(I s1))]∧H=[]∧x114_l1 s f kl1_0 m s1=some v) FU ⟨s1,rfl,rfl,h⟩ ?_
 clear h hT
 rintro m T H ⟨s1,rfl,rfl,h⟩
 cases m
 ·exact none_ne h
 rename_i m
 rw [x114_l1.eq_2] at h
 conv=>whnf
 rcases bt (decide (s1<(s.length:Int))) with hb1 | hb1
 ·rw [hb1]
  conv=>whnf
  replace h:=it_t hb1 h
  obtain ⟨hb2,h⟩:=gd_some h
  refine ⟨hb2,?_⟩
  rw [drop1 I s s1 hb2]
  conv=>whnf
  obtain ⟨r1,hb3,h⟩:=bd_some h
  refine ⟨_,_,call6 (bs:=((I (ix s s1))::cs_f)) (by simp only [List.map_cons,hc_f.shz,hc_f.dim];rfl) (by simp only [List.map_cons,hc_f.shz];exact (allc rfl hc_f.all8)) (hk_f _ _ hb3) rfl,?_⟩
  conv=>whnf
  cases r1
  ·conv=>whnf
   replace h:=it_f rfl h
   exact ⟨m,Nat.lt_succ_self m,(w (s1+(1:Int))),rfl,rfl,h⟩
  ·conv=>whnf
   replace h:=it_t rfl h
   obtain rfl:=Option.some.inj h
   exact hR _ _ ⟨.inr rfl,_,rfl,_,frz_pure rfl,rfl⟩
 ·rw [hb1]
  conv=>whnf
  replace h:=it_f hb1 h
  exact hkl1_0 _ _ _ _ _ _ _ _ _ _ _ _ _ _ _ _ _ h
theorem x114_ok {s:(List Int)} {f:(Int→Option Bool)} {kf_f:FuncId} {cs_f:List AV} (hc_f:Boxes cs_f) (hk_f:∀ (y0:Int) (r:Bool),f y0=some r→PO kf_f ((I y0)::cs_f) (B r)) {v:Int} (h:x114 s f=some v):PO 114 [(.lst (s.map I) s.length .shared),(.func kf_f [] cs_f)] (I v):=by
 refine fn_pureW hmix lxx114 rfl rfl fun Q hQ=>?_
 have hR:∀ T H,RetW [.tmp 4] (I v) .ret T H→Q .ret T H:=fun T H hh=>hQ _ T H hh
 unfold x114 at h
 unfold xrc114
 obtain ⟨c_1,g_1⟩:∃ c,xrc114_1=c:=⟨_,rfl⟩
 rw [g_1]
 conv=>whnf
 subst g_1
 refine x114_l1_ok hc_f hk_f ?_ ?_ (by exact rfl) h
 ·exact fun T H hh=>hR T H hh
 ·intro u0 u1 u4 u5 u6 u7 u8 u9 u10 u11 u12 u13 u14 u15 u16 u17 u18 h
  conv=>whnf
  obtain rfl:=Option.some.inj h
  exact hR _ _ ⟨.inr rfl,_,rfl,_,frz_pure rfl,rfl⟩

noncomputable def xrc92:RC :=
 .seq (.reg false [I_ 4 [.cv (.bool false)] .mv]) (.seq (.reg false [I_ 5 [.tk 0] .mv,I_ 6 [.tk 1] .mv,I_ 7 [.cv (.func 114 [] []),.sl 5,.sl 6] (.call 6),I_ 8 [.tv 7,.cv (.int .i64 0)] (.bin .geq),I_ 4 [.tk 8] .mv]) .ret)
theorem lxx92:linkF Tryz.prog ann92 92=some (xrc92,9,[.tmp 4]):=by kernel_rfl
def x92 (s:(List Int)) (f:(Int→Option Bool)):Option Bool :=
 (x114 s f).bind fun r1 =>
 some (decide ((0:Int)≤r1))
theorem x92_ok {s:(List Int)} {f:(Int→Option Bool)} {kf_f:FuncId} {cs_f:List AV} (hc_f:Boxes cs_f) (hk_f:∀ (y0:Int) (r:Bool),f y0=some r→PO kf_f ((I y0)::cs_f) (B r)) {v:Bool} (h:x92 s f=some v):PO 92 [(.lst (s.map I) s.length .shared),(.func kf_f [] cs_f)] (B v):=by
 refine fn_pureW hmix lxx92 rfl rfl fun Q hQ=>?_
 have hR:∀ T H,RetW [.tmp 4] (B v) .ret T H→Q .ret T H:=fun T H hh=>hQ _ T H hh
 unfold x92 at h
 unfold xrc92
 skip
 conv=>whnf
 obtain ⟨r1,hb1,h⟩:=bd_some h
 refine ⟨_,_,call6' (cs:=[(.lst (s.map I) s.length .shared),(.func kf_f [] cs_f)]) (bs:=[(.lst (s.map I) s.length .shared),(.func kf_f [] cs_f)]) (map_cons' rfl (map_cons' (hc_f.fn _ _) map_nil')) (by rfl) (by exact (allc (pu_map (fun _=>rfl) _ _ _) (allc (hc_f.pfn _) rfl))) (x114_ok hc_f hk_f hb1) rfl,?_⟩
 conv=>whnf
 obtain rfl:=Option.some.inj h
 exact hR _ _ ⟨.inr rfl,_,rfl,_,frz_pure rfl,rfl⟩

noncomputable def xrc93:RC :=
 .seq (.reg false [I_ 4 [.cv (.bool false)] .mv]) (.seq (.reg false [I_ 5 [.sl 0] .mv,I_ 6 [.tv 1] (.ld .one),I_ 7 [.tv 5,.tv 6] (.bin .lss),I_ 8 [.tk 7] .mv,⟨some 9,[.tk 0],some (8,false),none,.mv⟩,⟨some 10,[.tv 2],
 some (8,false),none,.ld .one⟩,⟨some 11,[.tv 9,.tv 10],some (8,false),none,.bin .gtr⟩,I_ 12 [.tv 8,.cv (.bool true),.tv 11] .pick,I_ 4 [.tk 12] .mv]) .ret)
theorem lxx93:linkF Tryz.prog ann93 93=some (xrc93,13,[.tmp 4]):=by kernel_rfl
def x93 (n:Int) (c0:Int) (c1:Int):Option Bool :=
 if (decide (n<c0))=true then
  some true
 else
  some (decide (c1<n))
theorem x93_ok {n:Int} {c0:Int} {c1:Int} {v:Bool} (h:x93 n c0 c1=some v):PO 93 [(I n),(.lptr [(I c0)]),(.lptr [(I c1)])] (B v):=by
 refine fn_pureW hmix lxx93 rfl rfl fun Q hQ=>?_
 have hR:∀ T H,RetW [.tmp 4] (B v) .ret T H→Q .ret T H:=fun T H hh=>hQ _ T H hh
 unfold x93 at h
 unfold xrc93
 skip
 conv=>whnf
 rcases bt (decide (n<c0)) with hb1 | hb1
 ·rw [hb1]
  conv=>whnf
  replace h:=it_t hb1 h
  obtain rfl:=Option.some.inj h
  exact hR _ _ ⟨.inr rfl,_,rfl,_,frz_pure rfl,rfl⟩
 ·rw [hb1]
  conv=>whnf
  replace h:=it_f hb1 h
  obtain rfl:=Option.some.inj h
  exact hR _ _ ⟨.inr rfl,_,rfl,_,frz_pure rfl,rfl⟩

noncomputable def xrc66:RC :=
 .seq (.reg false [I_ 3 [.tk 0] .box,I_ 4 [.tk 1] .box,I_ 6 [.cv (.bool false)] .mv]) (.seq (.reg false [I_ 7 [.tk 2] .mv,I_ 8 [.tv 3,.tv 4] (.mkF 93 0 2),I_ 9 [.cv (.func 92 [] []),.sl 7,.sl 8] (.call 6),I_ 10 [.tv 9]
 (.un .not),I_ 6 [.tk 10] .mv]) .ret)
theorem lxx66:linkF Tryz.prog ann66 66=some (xrc66,11,[.tmp 6]):=by kernel_rfl
def x66 (lo:Int) (hi:Int) (l:(List Int)):Option Bool :=
 (x92 l (fun y0=>x93 y0 lo hi)).bind fun r1 =>
 some (!r1)
theorem x66_ok {lo:Int} {hi:Int} {l:(List Int)} {v:Bool} (h:x66 lo hi l=some v):PO 66 [(I lo),(I hi),(.lst (l.map I) l.length .shared)] (B v):=by
 refine fn_pureW hmix lxx66 rfl rfl fun Q hQ=>?_
 have hR:∀ T H,RetW [.tmp 6] (B v) .ret T H→Q .ret T H:=fun T H hh=>hQ _ T H hh
 unfold x66 at h
 unfold xrc66
 skip
 conv=>whnf
 obtain ⟨r1,hb1,h⟩:=bd_some h
 refine ⟨_,_,call6' (cs:=[(.lst (l.map I) l.length .shared),(.func 93 [] [(.lptr [(I lo)]),(.lptr [(I hi)])])]) (bs:=[(.lst (l.map I) l.length .shared),(.func 93 [] [(.lptr [(I lo)]),(.lptr [(I hi)])])]) (map_cons' rfl (map_cons' (shz_func map_nil' (map_cons' (shz0_ptr' (cs:=[(I lo)]) (by first | with_reducible exact get_concat _ _ | exact get_concat _ _ | exact ga (get_concat _ _) | rfl | (simp [List.getElem?_append,AV.settle];done)) rfl) (map_cons' (shz0_ptr' (cs:=[(I hi)]) (by first | with_reducible exact get_concat _ _ | exact get_concat _ _ | exact ga (get_concat _ _) | rfl | (simp [List.getElem?_append,AV.settle];done)) rfl) map_nil'))) map_nil')) (by rfl) (by exact (allc (pu_map (fun _=>rfl) _ _ _) (allc (pu_fn rfl (allc (pu_lptr (allc rfl rfl)) (allc (pu_lptr (allc rfl rfl)) rfl))) rfl))) (x92_ok ⟨(allc (pu_lptr (allc rfl rfl)) (allc (pu_lptr (allc rfl rfl)) rfl)),by simp⟩ (fun _ _ hy=>x93_ok hy) hb1) rfl,?_⟩
 conv=>whnf
 obtain rfl:=Option.some.inj h
 exact hR _ _ ⟨.inr rfl,_,rfl,_,frz_pure rfl,rfl⟩

noncomputable def xrc71:RC :=
 .seq (.reg false [I_ 2 [.tk 0] .box,I_ 3 [.cv (.bool false)] .mv]) (.seq (.reg false [I_ 4 [.tv 1] (.fa 0),I_ 5 [.tv 4] (.ld .one),I_ 6 [.tv 5,.cv (.int .i64 1)] (.bin .sub),I_ 7 [.sl 2] (.fa 0),I_ 8 [.tv 7] (.ld .one),I_
 9 [.tv 2] (.fa 1),I_ 10 [.tv 9] (.ld .one),I_ 11 [.tv 8,.tv 10] (.buildS 2 1 [.int .i64 0] [0,1]),I_ 12 [.cv (.func 66 [] []),.cv (.int .i64 0),.sl 6,.sl 11] (.call 3),I_ 13 [.tv 12] (.un .not),I_ 3 [.tk 13] .mv])
 .ret)
theorem lxx71:linkF Tryz.prog ann71 71=some (xrc71,14,[.tmp 3]):=by kernel_rfl
def x71 (s:(Int×Int)) (c0:(Int×(List (Int×Int)))):Option Bool :=
 (x66 (0:Int) (w (c0.1-(1:Int))) [s.1,s.2]).bind fun r1 =>
 some (!r1)
theorem x71_ok {s:(Int×Int)} {c0:(Int×(List (Int×Int)))} {v:Bool} (h:x71 s c0=some v):PO 71 [(.agg [(I s.1),(I s.2)]),(.lptr [(I c0.1),(.lst (c0.2.flatMap pr) c0.2.length .shared)])] (B v):=by
 refine fn_pureW hmix lxx71 rfl rfl fun Q hQ=>?_
 have hR:∀ T H,RetW [.tmp 3] (B v) .ret T H→Q .ret T H:=fun T H hh=>hQ _ T H hh
 unfold x71 at h
 unfold xrc71
 skip
 conv=>whnf
 obtain ⟨r1,hb1,h⟩:=bd_some h
 refine ⟨(allc rfl (allc rfl (allc rfl rfl))),_,x66_ok hb1,?_⟩
 conv=>whnf
 obtain rfl:=Option.some.inj h
 exact hR _ _ ⟨.inr rfl,_,rfl,_,frz_pure rfl,rfl⟩

noncomputable def xrc95_1:RC :=
 .loop (some [i_,i_,o_,o_,o_,o_,o_,i_,i_,o_,o_,o_,o_,o_,o_,o_,o_,o_,o_]) (.seq (.reg false [I_ 9 [.sl 8,.sl 7] (.bin .lss)]) (.seq (.cond (.sl 9) .skip (.exit
 0)) (.seq (.block 1 (.seq (.reg false [I_ 10 [.sl 8] .mv,I_ 5 [.tk 10] .mv]) (.seq (.reg false [I_ 11 [.sl 1] .mv,I_ 12 [.sl 0] .mv,I_ 13 [.sl 5] .mv,I_ 14 [.tv 12,.tv 13] (.ia 2),I_ 15 [.tv 14] (.ld (.str 2)),I_ 16 [.sl
 11,.sl 15] (.call 6)]) (.cond (.sl 16) (.seq (.reg false [I_ 17 [.tk 5] .mv,I_ 4 [.tk 17] .mv]) .ret) .skip)))) (.reg false [I_ 18 [.tv 8,.cv (.int .i64 1)] (.bin .add),I_ 8 [.tk 18] .mv]))))
noncomputable def xrc95:RC :=
 .seq (.reg false [I_ 4 [.cv (.int .i64 0)] .mv]) (.seq (.seq (.reg false [I_ 6 [.sl 0] .mv,I_ 7 [.tk 6] .lenS,I_ 8 [.cv (.int .i64 0)] .mv]) (.block 0 xrc95_1)) (.seq (.reg false [I_ 4 [.cv (.int .i64 (-1))] .mv]) .ret))
theorem lxx95:linkF Tryz.prog ann95 95=some (xrc95,19,[.tmp 4]):=by kernel_rfl
def x95_l1 (s:(List (Int×Int))) (f:((Int×Int)→Option Bool)) (kl1_0:Unit→Option Int):Nat→Int→Option Int
 | 0,_=>none
 | m+1,s1 =>
   if (decide (s1<(s.length:Int)))=true then
    gd (0≤s1∧s1<(s.length:Int)) <|
    (f (ix s s1)).bind fun r1 =>
    if r1=true then
     some s1
    else
     x95_l1 s f kl1_0 m (w (s1+(1:Int)))
   else
    kl1_0 ()
def x95 (s:(List (Int×Int))) (f:((Int×Int)→Option Bool)):Option Int :=
 x95_l1 s f (fun _ =>
   some (-1:Int)) FU (0:Int)
theorem x95_l1_ok {s:(List (Int×Int))} {f:((Int×Int)→Option Bool)} {kl1_0:Unit→Option Int} {s1:Int} {kf_f:FuncId} {cs_f:List AV} (hc_f:Boxes cs_f) (hk_f:∀ (y0:(Int×Int)) (r:Bool),f y0=some r→PO kf_f ((.agg [(I y0.1),(I y0.2)])::cs_f) (B r)) {v:Int} {Q:Ex→List AV→List AObj→Prop}   (hR:∀ T H,RetW [.tmp 4] (I v) .ret T H→Q .ret T H) (hkl1_0:∀ (u0:AV) (u1:AV) (u4:AV) (u5:AV) (u6:AV) (u7:AV) (u8:AV) (u9:AV) (u10:AV) (u11:AV) (u12:AV) (u13:AV) (u14:AV) (u15:AV) (u16:AV) (u17:AV) (u18:AV),kl1_0 ()=some v→Q (.exit 0) [u0,u1,J,J,u4,u5,u6,u7,u8,u9,u10,u11,u12,u13,u14,u15,u16,u17,u18] []) {T:List AV} (hT:zipKeep [i_,i_,o_,o_,o_,o_,o_,i_,i_,o_,o_,o_,o_,o_,o_,o_,o_,o_,o_] T=slots 19 [(0,(.lst (s.flatMap pr) s.length .shared)),(1,(.func kf_f [] cs_f)),(7,(I (s.length:Int))),(8,(I s1))]) (h:x95_l1 s f kl1_0 FU s1=some v) :
  wpR Tryz.prog ann95 95 0 none xrc95_1 T [] Q:=by
 unfold xrc95_1
 skip
 refine wp_loop hT ?_
 refine .intro (fun m T H=>∃ (s1:Int),T=slots 19 [(0,(.lst (s.flatMap pr) s.length .shared)),(1,(.func kf_f [] cs_f)),(7,(I (s.length:Int))),(8,(I s1))]∧H=[]∧x95_l1 s f kl1_0 m s1=some v) FU ⟨s1,rfl,rfl,h⟩ ?_
 clear h hT
 rintro m T H ⟨s1,rfl,rfl,h⟩
 cases m
 ·exact none_ne h
 rename_i m
 rw [x95_l1.eq_2] at h
 conv=>whnf
 rcases bt (decide (s1<(s.length:Int))) with hb1 | hb1
 ·rw [hb1]
  conv=>whnf
  replace h:=it_t hb1 h
  obtain ⟨hb2,h⟩:=gd_some h
  refine ⟨hb2,?_⟩
  rw [dropS pr 2 pr_len s s1 hb2]
  conv=>whnf
  obtain ⟨r1,hb3,h⟩:=bd_some h
  refine ⟨_,_,call6 (bs:=((.agg [(I (ix s s1).1),(I (ix s s1).2)])::cs_f)) (by simp only [List.map_cons,hc_f.shz,hc_f.dim];rfl) (by simp only [List.map_cons,hc_f.shz];exact (allc (pu_agg (allc rfl (allc rfl rfl))) hc_f.all8)) (hk_f _ _ hb3) rfl,?_⟩
  conv=>whnf
  cases r1
  ·conv=>whnf
   replace h:=it_f rfl h
   exact ⟨m,Nat.lt_succ_self m,(w (s1+(1:Int))),rfl,rfl,h⟩
  ·conv=>whnf
   replace h:=it_t rfl h
   obtain rfl:=Option.some.inj h
   exact hR _ _ ⟨.inr rfl,_,rfl,_,frz_pure rfl,rfl⟩
 ·rw [hb1]
  conv=>whnf
  replace h:=it_f hb1 h
  exact hkl1_0 _ _ _ _ _ _ _ _ _ _ _ _ _ _ _ _ _ h
theorem x95_ok {s:(List (Int×Int))} {f:((Int×Int)→Option Bool)} {kf_f:FuncId} {cs_f:List AV} (hc_f:Boxes cs_f) (hk_f:∀ (y0:(Int×Int)) (r:Bool),f y0=some r→PO kf_f ((.agg [(I y0.1),(I y0.2)])::cs_f) (B r)) {v:Int} (h:x95 s f=some v):PO 95 [(.lst (s.flatMap pr) s.length .shared),(.func kf_f [] cs_f)] (I v):=by
 refine fn_pureW hmix lxx95 rfl rfl fun Q hQ=>?_
 have hR:∀ T H,RetW [.tmp 4] (I v) .ret T H→Q .ret T H:=fun T H hh=>hQ _ T H hh
 unfold x95 at h
 unfold xrc95
 obtain ⟨c_1,g_1⟩:∃ c,xrc95_1=c:=⟨_,rfl⟩
 rw [g_1]
 conv=>whnf
 subst g_1
 refine x95_l1_ok hc_f hk_f ?_ ?_ (by exact rfl) h
 ·exact fun T H hh=>hR T H hh
 ·intro u0 u1 u4 u5 u6 u7 u8 u9 u10 u11 u12 u13 u14 u15 u16 u17 u18 h
  conv=>whnf
  obtain rfl:=Option.some.inj h
  exact hR _ _ ⟨.inr rfl,_,rfl,_,frz_pure rfl,rfl⟩

noncomputable def xrc72:RC :=
 .seq (.reg false [I_ 4 [.cv (.bool false)] .mv]) (.seq (.reg false [I_ 5 [.tk 0] .mv,I_ 6 [.tk 1] .mv,I_ 7 [.cv (.func 95 [] []),.sl 5,.sl 6] (.call 6),I_ 8 [.tv 7,.cv (.int .i64 0)] (.bin .geq),I_ 4 [.tk 8] .mv]) .ret)
theorem lxx72:linkF Tryz.prog ann72 72=some (xrc72,9,[.tmp 4]):=by kernel_rfl
def x72 (s:(List (Int×Int))) (f:((Int×Int)→Option Bool)):Option Bool :=
 (x95 s f).bind fun r1 =>
 some (decide ((0:Int)≤r1))
theorem x72_ok {s:(List (Int×Int))} {f:((Int×Int)→Option Bool)} {kf_f:FuncId} {cs_f:List AV} (hc_f:Boxes cs_f) (hk_f:∀ (y0:(Int×Int)) (r:Bool),f y0=some r→PO kf_f ((.agg [(I y0.1),(I y0.2)])::cs_f) (B r)) {v:Bool} (h:x72 s f=some v):PO 72 [(.lst (s.flatMap pr) s.length .shared),(.func kf_f [] cs_f)] (B v):=by
 refine fn_pureW hmix lxx72 rfl rfl fun Q hQ=>?_
 have hR:∀ T H,RetW [.tmp 4] (B v) .ret T H→Q .ret T H:=fun T H hh=>hQ _ T H hh
 unfold x72 at h
 unfold xrc72
 skip
 conv=>whnf
 obtain ⟨r1,hb1,h⟩:=bd_some h
 refine ⟨_,_,call6' (cs:=[(.lst (s.flatMap pr) s.length .shared),(.func kf_f [] cs_f)]) (bs:=[(.lst (s.flatMap pr) s.length .shared),(.func kf_f [] cs_f)]) (map_cons' rfl (map_cons' (hc_f.fn _ _) map_nil')) (by rfl) (by exact (allc (pu_flat (fun _=>(allc rfl (allc rfl rfl))) _ _ _) (allc (hc_f.pfn _) rfl))) (x95_ok hc_f hk_f hb1) rfl,?_⟩
 conv=>whnf
 obtain rfl:=Option.some.inj h
 exact hR _ _ ⟨.inr rfl,_,rfl,_,frz_pure rfl,rfl⟩

noncomputable def xrc20:RC :=
 .seq (.reg false [I_ 1 [.tk 0] .box,I_ 2 [.cv (.int .i64 0)] .mv]) (.seq (.reg false [I_ 4 [.sl 1] (.mkF 71 0 1),I_ 3 [.tk 4] .mv]) (.seq (.block 0 (.seq (.reg false [I_ 6 [.sl 1] (.fa 0),I_ 7 [.tv 6] (.ld .one),I_ 8 [.tv 7]
 (.buildS 1 1 [.int .i64 0] [0]),I_ 9 [.cv (.func 66 [] []),.cv (.int .i64 1),.cv (.int .i64 6),.sl 8] (.call 3),I_ 10 [.tv 9] (.un .not),I_ 11 [.tk 10] .mv,⟨some 12,[.sl 1],some (11,false),none,.fa 1⟩,⟨some 13,
 [.tv 12],some (11,false),none,.ld .one⟩,⟨some 14,[.tk 13],some (11,false),none,.lenS⟩,⟨some 15,[.tv 14,.cv (.int .i64 10)],some (11,false),none,.bin .gtr⟩,I_ 16 [.tv 11,.cv (.bool true),.tv 15] .pick,I_ 5
 [.tk 16] .mv]) (.cond (.sl 5) (.seq (.reg false [I_ 2 [.cv (.int .i64 6)] .mv]) .ret) (.seq (.reg false [I_ 18 [.tv 1] (.fa 1),I_ 19 [.tv 18] (.ld .one),I_ 20 [.tk 3] .mv,I_ 21 [.cv (.func 72 [] []),.sl 19,.sl 20] (.call
 6),I_ 17 [.tk 21] .mv]) (.cond (.sl 17) (.seq (.reg false [I_ 2 [.cv (.int .i64 3)] .mv]) .ret) .skip))))) (.seq (.reg false [I_ 2 [.cv (.int .i64 0)] .mv]) .ret)))
theorem lxx20:linkF Tryz.prog ann20 20=some (xrc20,22,[.tmp 2]):=by kernel_rfl
def x20 (b:(Int×(List (Int×Int)))):Option Int :=
 (x66 (1:Int) (6:Int) [b.1]).bind fun r1 =>
 if r1=true then
  if (decide ((10:Int)<(b.2.length:Int)))=true then
   some (6:Int)
  else
   (x72 b.2 (fun y0=>x71 y0 b)).bind fun r2 =>
   if r2=true then
    some (3:Int)
   else
    some (0:Int)
 else
  some (6:Int)
theorem x20_ok {b:(Int×(List (Int×Int)))} {v:Int} (h:x20 b=some v):PO 20 [(.agg [(I b.1),(.lst (b.2.flatMap pr) b.2.length .shared)])] (I v):=by
 refine fn_pureW hmix lxx20 rfl rfl fun Q hQ=>?_
 have hR:∀ T H,RetW [.tmp 2] (I v) .ret T H→Q .ret T H:=fun T H hh=>hQ _ T H hh
 unfold x20 at h
 unfold xrc20
 skip
 conv=>whnf
 obtain ⟨r1,hb1,h⟩:=bd_some h
 refine ⟨(allc rfl (allc rfl (allc rfl rfl))),_,x66_ok hb1,?_⟩
 conv=>whnf
 cases r1
 ·conv=>whnf
  replace h:=it_f rfl h
  obtain rfl:=Option.some.inj h
  exact hR _ _ ⟨.inr rfl,_,rfl,_,frz_pure rfl,rfl⟩
 ·conv=>whnf
  replace h:=it_t rfl h
  rcases bt (decide ((10:Int)<(b.2.length:Int))) with hb2 | hb2
  ·rw [hb2]
   conv=>whnf
   replace h:=it_t hb2 h
   obtain rfl:=Option.some.inj h
   exact hR _ _ ⟨.inr rfl,_,rfl,_,frz_pure rfl,rfl⟩
  ·rw [hb2]
   conv=>whnf
   replace h:=it_f hb2 h
   obtain ⟨r2,hb3,h⟩:=bd_some h
   refine ⟨_,_,call6' (cs:=[(.lst (b.2.flatMap pr) b.2.length .shared),(.func 71 [] [(.lptr [(I b.1),(.lst (b.2.flatMap pr) b.2.length .shared)])])]) (bs:=[(.lst (b.2.flatMap pr) b.2.length .shared),(.func 71 [] [(.lptr [(I b.1),(.lst (b.2.flatMap pr) b.2.length .shared)])])]) (map_cons' rfl (map_cons' (shz_func map_nil' (map_cons' (shz0_ptr' (cs:=[(I b.1),(.lst (b.2.flatMap pr) b.2.length .shared)]) (by first | with_reducible exact get_concat _ _ | exact get_concat _ _ | exact ga (get_concat _ _) | rfl | (simp [List.getElem?_append,AV.settle];done)) rfl) map_nil')) map_nil')) (by rfl) (by exact (allc (pu_flat (fun _=>(allc rfl (allc rfl rfl))) _ _ _) (allc (pu_fn rfl (allc (pu_lptr (allc rfl (allc (pu_flat (fun _=>(allc rfl (allc rfl rfl))) _ _ _) rfl))) rfl)) rfl))) (x72_ok ⟨(allc (pu_lptr (allc rfl (allc (pu_flat (fun _=>(allc rfl (allc rfl rfl))) _ _ _) rfl))) rfl),by simp⟩ (fun _ _ hy=>x71_ok hy) hb3) rfl,?_⟩
   conv=>whnf
   cases r2
   ·conv=>whnf
    replace h:=it_f rfl h
    obtain rfl:=Option.some.inj h
    exact hR _ _ ⟨.inr rfl,_,rfl,_,frz_pure rfl,rfl⟩
   ·conv=>whnf
    replace h:=it_t rfl h
    obtain rfl:=Option.some.inj h
    exact hR _ _ ⟨.inr rfl,_,rfl,_,frz_pure rfl,rfl⟩

def E_table (x:(Int×(List (Int×Int)))):List AV:=[(I x.1),(.lst (x.2.flatMap pr) x.2.length .shared)]
noncomputable def xrc64:RC :=
 .seq (.reg false [I_ 1 [.tk 0] .box,I_ 2 [.cv .nilp] .mv,I_ 3 [.cv (.int .i64 0)] .mv]) (.seq (.seq (.reg false [I_ 5 [.sl 1] (.ld (.str 2)),I_ 6 [.cv (.func 20 [] []),.sl 5] (.call 3),I_ 4 [.tk 6] .mv]) (.seq (.reg false
 [I_ 7 [.sl 4] .mv,I_ 8 [.tv 7,.cv (.int .i64 0)] (.bin .neq)]) (.cond (.sl 8) (.seq (.reg false [I_ 9 [.tk 4] .mv,I_ 2 [.cv .nilp] .mv,I_ 3 [.tk 9] .mv]) .ret) .skip))) (.seq (.reg false [I_ 10 [.tv 1] (.ld (.str 2)),I_ 11
 [.tv 10] (.build [.int .i64 0,.lst [] 0 .full] [(0,2)]),I_ 12 [.tk 11] .boxF,I_ 2 [.tk 12] .mv,I_ 3 [.cv (.int .i64 0)] .mv]) .ret))
theorem lxx64:linkF Tryz.prog ann64 64=some (xrc64,13,[.tmp 2,.tmp 3]):=by kernel_rfl
def x64 (b:(Int×(List (Int×Int)))):Option ((Option (Int×(List (Int×Int))))×Int) :=
 (x20 b).bind fun r1 =>
 if (decide (r1≠(0:Int)))=true then
  some (none,r1)
 else
  some ((some b),(0:Int))
theorem x64_ok {b:(Int×(List (Int×Int)))} {v:((Option (Int×(List (Int×Int))))×Int)} (h:x64 b=some v):PO 64 [(.agg [(I b.1),(.lst (b.2.flatMap pr) b.2.length .shared)])] (.tuple [(optP E_table v.1),(I v.2)]):=by
 refine fn_pureW hmix lxx64 rfl (pu_tup (allc (pu_opt (fun _=>(allc rfl (allc (pu_flat (fun _=>(allc rfl (allc rfl rfl))) _ _ _) rfl))) _) (allc rfl rfl))) fun Q hQ=>?_
 have hR:∀ T H,RetW [.tmp 2,.tmp 3] (.tuple [(optP E_table v.1),(I v.2)]) .ret T H→Q .ret T H:=fun T H hh=>hQ _ T H hh
 unfold x64 at h
 unfold xrc64
 skip
 conv=>whnf
 obtain ⟨r1,hb1,h⟩:=bd_some h
 refine ⟨(allc (pu_agg (allc rfl (allc (pu_flat (fun _=>(allc rfl (allc rfl rfl))) _ _ _) rfl))) rfl),_,x20_ok hb1,?_⟩
 conv=>whnf
 rcases bt (decide (r1≠(0:Int))) with hb2 | hb2
 ·rw [hb2]
  conv=>whnf
  replace h:=it_t hb2 h
  obtain rfl:=Option.some.inj h
  exact hR _ _ ⟨.inr rfl,_,rfl,_,frz_pure (pu_tup (allc rfl (allc rfl rfl))),rfl⟩
 ·rw [hb2]
  conv=>whnf
  replace h:=it_f hb2 h
  refine ⟨rfl,?_⟩
  conv=>whnf
  obtain rfl:=Option.some.inj h
  exact hR _ _ ⟨.inr rfl,_,rfl,_,frz_pure (pu_tup (allc (pu_lptr (allc rfl (allc (pu_flat (fun _=>(allc rfl (allc rfl rfl))) _ _ _) rfl))) (allc rfl rfl))),rfl⟩

def x65 (p:(Int×Int)) (c0:(Int×(List (Int×Int)))):Option Bool :=
 (x66 (0:Int) (w ((c0.2.length:Int)-(1:Int))) [p.1]).bind fun r1 =>
 if r1=true then
  (x66 (0:Int) (1:Int) [p.2]).bind fun r2 =>
  some (!r2)
 else
  some true

def x94_l1 (s:(List (Int×Int))) (f:((Int×Int)→Option Bool)) (kl1_0:Unit→Option Int):Nat→Int→Option Int
 | 0,_=>none
 | m+1,s1 =>
   if (decide (s1<(s.length:Int)))=true then
    gd (0≤s1∧s1<(s.length:Int)) <|
    (f (ix s s1)).bind fun r1 =>
    if r1=true then
     some s1
    else
     x94_l1 s f kl1_0 m (w (s1+(1:Int)))
   else
    kl1_0 ()
def x94 (s:(List (Int×Int))) (f:((Int×Int)→Option Bool)):Option Int :=
 x94_l1 s f (fun _ =>
   some (-1:Int)) FU (0:Int)

def x67 (s:(List (Int×Int))) (f:((Int×Int)→Option Bool)):Option Bool :=
 (x94 s f).bind fun r1 =>
 some (decide ((0:Int)≤r1))

def x18_l1 (row:(List (Int×Int))) (kl1_0:Unit→Option (Int×Int×Int)):Nat→Int→(List Int)→Option (Int×Int×Int)
 | 0,_,_=>none
 | m+1,s1,s2 =>
   if (decide (s1<(row.length:Int)))=true then
    gd (0≤s1∧s1<(row.length:Int)) <|
    gd (0≤(ix row s1).1∧(ix row s1).1<(10:Int)∧10=s2.length) <|
    if (decide ((0:Int)<(ix s2 ((ix row s1).1))))=true then
     some ((0:Int),(0:Int),(11:Int))
    else
     gd (0≤(ix row s1).1∧(ix row s1).1<(10:Int)∧10=s2.length) <|
     x18_l1 row kl1_0 m (w (s1+(1:Int))) (s2.set ((ix row s1).1).toNat (1:Int))
   else
    kl1_0 ()
def x18_l2 (row:(List (Int×Int))) (kl2_0:Unit→Option (Int×Int×Int)):Nat→Int→(List Int)→Option (Int×Int×Int)
 | 0,_,_=>none
 | m+1,s3,s4 =>
   if (decide (s3<(row.length:Int)))=true then
    gd (0≤s3∧s3<(row.length:Int)) <|
    gd (0≤(ix row s3).1∧(ix row s3).1<(10:Int)∧10=s4.length) <|
    if (decide ((0:Int)<(ix s4 ((ix row s3).1))))=true then
     some ((0:Int),(0:Int),(11:Int))
    else
     gd (0≤(ix row s3).1∧(ix row s3).1<(10:Int)∧10=s4.length) <|
     x18_l2 row kl2_0 m (w (s3+(1:Int))) (s4.set ((ix row s3).1).toNat (1:Int))
   else
    kl2_0 ()
def x18_l3 (row:(List (Int×Int))) (p1:(Int×(List (Int×Int)))) (kl3_0:Int→Option (Int×Int×Int)):Nat→Int→Int→Option (Int×Int×Int)
 | 0,_,_=>none
 | m+1,s5,s6 =>
   if (decide (s6<(row.length:Int)))=true then
    gd (0≤s6∧s6<(row.length:Int)) <|
    (x68 p1 (ix row s6)).bind fun r5 =>
    if (decide (r5.1≠s5))=true then
     some ((0:Int),(0:Int),(27:Int))
    else
     x18_l3 row p1 kl3_0 m r5.2 (w (s6+(1:Int)))
   else
    kl3_0 s5
def x18 (b:(Int×(List (Int×Int)))) (row:(List (Int×Int))):Option (Int×Int×Int) :=
 (x64 b).bind fun r1 =>
 match r1 with
 | (none,q1) =>
   if (decide (q1≠(0:Int)))=true then
    some ((0:Int),(0:Int),q1)
   else
    if (decide ((row.length:Int)=(0:Int)))=true then
     some ((0:Int),(0:Int),(6:Int))
    else
     (x67 row (fun y0=>x65 y0 b)).bind fun r2 =>
     if r2=true then
      some ((0:Int),(0:Int),(3:Int))
     else
      gd ((List.replicate 10 (0:Int)).length=10) <|
      x18_l1 row (fun _ =>
        gd (0≤(0:Int)∧(0:Int)<(row.length:Int)) <|
        none) FU (0:Int) (List.replicate 10 (0:Int))
 | (some p1,q1) =>
   if (decide (q1≠(0:Int)))=true then
    some ((0:Int),(0:Int),q1)
   else
    if (decide ((row.length:Int)=(0:Int)))=true then
     some ((0:Int),(0:Int),(6:Int))
    else
     (x67 row (fun y0=>x65 y0 b)).bind fun r3 =>
     if r3=true then
      some ((0:Int),(0:Int),(3:Int))
     else
      gd ((List.replicate 10 (0:Int)).length=10) <|
      x18_l2 row (fun _ =>
        gd (0≤(0:Int)∧(0:Int)<(row.length:Int)) <|
        (x68 p1 (ix row (0:Int))).bind fun r4 =>
        x18_l3 row p1 (fun z1 =>
          some (r4.1,z1,(0:Int))) FU r4.1 (0:Int)) FU (0:Int) (List.replicate 10 (0:Int))

noncomputable def xrc21_1:RC :=
 .loop (some [o_,i_,o_,i_,o_,o_,o_,o_,o_,o_,o_,o_,o_,o_,o_,o_,o_,o_,o_,o_,o_,o_,o_,o_,o_,o_,o_,o_,o_,o_,o_,o_,o_,o_,o_,o_,o_,o_,o_,o_,o_,o_,o_,o_,o_,o_,o_,o_,o_,o_,o_,o_,o_]) (.seq (.seq (.reg false [I_ 19 [.sl 3] .mv,I_ 20 [.sl 1] (.fa 1),I_ 21
 [.tv 20] (.ld .one),I_ 22 [.tk 21] .lenS,I_ 23 [.tv 19,.tv 22] (.bin .lss)]) (.cond (.sl 23) .skip (.exit 0))) (.seq (.block 1 (.seq (.reg false [I_ 26 [.sl 1] (.fa 1),I_ 27 [.tv 26] (.ld .one),I_ 28 [.sl 3] .mv,I_ 29
 [.tv 27,.tv 28] (.ia 2),I_ 30 [.tv 29] (.ld (.str 2)),I_ 4 [] (.alloc [.int .i64 0,.int .i64 0]),⟨none,[.sl 4,.tk 30],none,none,.st 2⟩]) (.seq (.reg false [I_ 31 [.sl 4] (.fa 0),I_ 32 [.tv 31] (.ld .one),I_ 33 [.tv
 32,.cv (.int .i64 0)] (.bin .lss),I_ 34 [.tk 33] .mv,⟨some 35,[.sl 4],some (34,false),none,.fa 0⟩,⟨some 36,[.tv 35],some (34,false),none,.ld .one⟩,⟨some 37,[.sl 1],some (34,false),none,.fa 0⟩,⟨some 38,[.tv
 37],some (34,false),none,.ld .one⟩,⟨some 39,[.tv 36,.tv 38],some (34,false),none,.bin .geq⟩,I_ 40 [.tv 34,.cv (.bool true),.tv 39] .pick,I_ 41 [.tk 40] .mv,⟨some 42,[.sl 4],some (41,false),none,.fa 1⟩,
 ⟨some 43,[.tv 42],some (41,false),none,.ld .one⟩,⟨some 44,[.tv 43,.cv (.int .i64 0)],some (41,false),none,.bin .lss⟩,I_ 45 [.tv 41,.cv (.bool true),.tv 44] .pick,I_ 46 [.tk 45] .mv,⟨some 47,[.tv 4],some (46,
 false),none,.fa 1⟩,⟨some 48,[.tv 47],some (46,false),none,.ld .one⟩,⟨some 49,[.sl 1],some (46,false),none,.fa 0⟩,⟨some 50,[.tv 49],some (46,false),none,.ld .one⟩,⟨some 51,[.tv 48,.tv 50],some (46,
 false),none,.bin .geq⟩,I_ 52 [.tv 46,.cv (.bool true),.tv 51] .pick]) (.cond (.sl 52) (.seq (.reg false [I_ 2 [.cv (.int .i64 3)] .mv]) .ret) .skip)))) (.reg false [I_ 24 [.tk 3] .mv,I_ 25 [.tv 24,.cv (.int .i64 1)]
 (.bin .add),I_ 3 [.tk 25] .mv])))
noncomputable def xrc21:RC :=
 .seq (.reg false [I_ 1 [.tk 0] .box,I_ 2 [.cv (.int .i64 0)] .mv]) (.seq (.seq (.reg false [I_ 5 [.sl 1] (.fa 0),I_ 6 [.tv 5] (.ld .one),I_ 7 [.tv 6,.cv (.int .i64 1)] (.bin .lss),I_ 8 [.tk 7] .mv,⟨some 9,[.sl 1],some (8,
 false),none,.fa 0⟩,⟨some 10,[.tv 9],some (8,false),none,.ld .one⟩,⟨some 11,[.tv 10,.cv (.int .i64 6)],some (8,false),none,.bin .gtr⟩,I_ 12 [.tv 8,.cv (.bool true),.tv 11] .pick,I_ 13 [.tk 12] .mv,⟨some 14,
 [.sl 1],some (13,false),none,.fa 1⟩,⟨some 15,[.tv 14],some (13,false),none,.ld .one⟩,⟨some 16,[.tk 15],some (13,false),none,.lenS⟩,⟨some 17,[.tv 16,.cv (.int .i64 10)],some (13,false),none,.bin .gtr⟩,I_
 18 [.tv 13,.cv (.bool true),.tv 17] .pick]) (.cond (.sl 18) (.seq (.reg false [I_ 2 [.cv (.int .i64 6)] .mv]) .ret) .skip)) (.seq (.seq (.reg false [I_ 3 [.cv (.int .i64 0)] .mv]) (.block 0 xrc21_1)) (.seq (.reg false [I_ 2
 [.cv (.int .i64 0)] .mv]) .ret)))
theorem lxx21:linkF Tryz.prog ann21 21=some (xrc21,53,[.tmp 2]):=by kernel_rfl
def x21_l1 (b:(Int×(List (Int×Int)))) (kl1_0:Unit→Option Int):Nat→Int→Option Int
 | 0,_=>none
 | m+1,s1 =>
   if (decide (s1<(b.2.length:Int)))=true then
    gd (0≤s1∧s1<(b.2.length:Int)) <|
    if (decide ((ix b.2 s1).1<(0:Int)))=true then
     some (3:Int)
    else
     if (decide (b.1≤(ix b.2 s1).1))=true then
      some (3:Int)
     else
      if (decide ((ix b.2 s1).2<(0:Int)))=true then
       some (3:Int)
      else
       if (decide (b.1≤(ix b.2 s1).2))=true then
        some (3:Int)
       else
        x21_l1 b kl1_0 m (w (s1+(1:Int)))
   else
    kl1_0 ()
def x21 (b:(Int×(List (Int×Int)))):Option Int :=
 if (decide (b.1<(1:Int)))=true then
  some (6:Int)
 else
  if (decide ((6:Int)<b.1))=true then
   some (6:Int)
  else
   if (decide ((10:Int)<(b.2.length:Int)))=true then
    some (6:Int)
   else
    x21_l1 b (fun _ =>
      some (0:Int)) FU (0:Int)
theorem x21_l1_ok {b:(Int×(List (Int×Int)))} {kl1_0:Unit→Option Int} {s1:Int} {v:Int} {Q:Ex→List AV→List AObj→Prop}   (hR:∀ T H,RetW [.tmp 2] (I v) .ret T H→Q .ret T H) (hkl1_0:∀ (u0:AV) (u1:AV) (u2:AV) (u3:AV) (u4:AV) (u5:AV) (u6:AV) (u7:AV) (u8:AV) (u9:AV) (u10:AV) (u11:AV) (u12:AV) (u13:AV) (u14:AV) (u15:AV) (u16:AV) (u17:AV) (u18:AV) (u19:AV) (u20:AV) (u21:AV) (u22:AV) (u23:AV) (u24:AV) (u25:AV) (u26:AV) (u27:AV) (u28:AV) (u29:AV) (u30:AV) (u31:AV) (u32:AV) (u33:AV) (u34:AV) (u35:AV) (u36:AV) (u37:AV) (u38:AV) (u39:AV) (u40:AV) (u41:AV) (u42:AV) (u43:AV) (u44:AV) (u45:AV) (u46:AV) (u47:AV) (u48:AV) (u49:AV) (u50:AV) (u51:AV) (u52:AV) (o1:AObj) (Yq:List AObj),kl1_0 ()=some v→Q (.exit 0) [u0,u1,u2,u3,u4,u5,u6,u7,u8,u9,u10,u11,u12,u13,u14,u15,u16,u17,u18,u19,u20,u21,u22,u23,u24,u25,u26,u27,u28,u29,u30,u31,u32,u33,u34,u35,u36,u37,u38,u39,u40,u41,u42,u43,u44,u45,u46,u47,u48,u49,u50,u51,u52] (o1::Yq)) {T:List AV} (hT:zipKeep [o_,i_,o_,i_,o_,o_,o_,o_,o_,o_,o_,o_,o_,o_,o_,o_,o_,o_,o_,o_,o_,o_,o_,o_,o_,o_,o_,o_,o_,o_,o_,o_,o_,o_,o_,o_,o_,o_,o_,o_,o_,o_,o_,o_,o_,o_,o_,o_,o_,o_,o_,o_,o_] T=slots 53 [(1,(.ptr 0 0)),(3,(I s1))]) (h:x21_l1 b kl1_0 FU s1=some v) :
  wpR Tryz.prog ann21 21 0 none xrc21_1 T [AObj.cells [(I b.1),(.lst (b.2.flatMap pr) b.2.length .shared)]] Q:=by
 unfold xrc21_1
 skip
 refine wp_loop hT ?_
 refine .intro (fun m T H=>∃ (s1:Int) (Y21_1:List AObj),T=slots 53 [(1,(.ptr 0 0)),(3,(I s1))]∧H=(AObj.cells [(I b.1),(.lst (b.2.flatMap pr) b.2.length .shared)]::Y21_1)∧x21_l1 b kl1_0 m s1=some v) FU ⟨s1,[],rfl,rfl,h⟩ ?_
 clear h hT
 rintro m T H ⟨s1,Y21_1,rfl,rfl,h⟩
 cases m
 ·exact none_ne h
 rename_i m
 rw [x21_l1.eq_2] at h
 conv=>whnf
 rcases bt (decide (s1<(b.2.length:Int))) with hb4 | hb4
 ·rw [hb4]
  conv=>whnf
  replace h:=it_t hb4 h
  obtain ⟨hb5,h⟩:=gd_some h
  refine ⟨hb5,?_⟩
  rw [dropS pr 2 pr_len b.2 s1 hb5]
  conv=>whnf
  refine nthK_of (x:=AObj.cells [(I (0:Int)),(I (0:Int))]) (by first | with_reducible exact get_concat _ _ | exact get_concat _ _ | exact ga (get_concat _ _) | rfl | (simp [List.getElem?_append,AV.settle];done)) ?_
  conv=>whnf
  rw [set_concat]
  refine nthK_of (x:=AObj.cells [(I (ix b.2 s1).1),(I (ix b.2 s1).2)]) (by first | with_reducible exact get_concat _ _ | exact get_concat _ _ | exact ga (get_concat _ _) | rfl | (simp [List.getElem?_append,AV.settle];done)) ?_
  conv=>whnf
  rcases bt (decide ((ix b.2 s1).1<(0:Int))) with hb6 | hb6
  ·rw [hb6]
   conv=>whnf
   replace h:=it_t hb6 h
   obtain rfl:=Option.some.inj h
   exact hR _ _ ⟨.inr rfl,_,rfl,_,frz_pure rfl,rfl⟩
  ·rw [hb6]
   conv=>whnf
   replace h:=it_f hb6 h
   refine nthK_of (x:=AObj.cells [(I (ix b.2 s1).1),(I (ix b.2 s1).2)]) (by first | with_reducible exact get_concat _ _ | exact get_concat _ _ | exact ga (get_concat _ _) | rfl | (simp [List.getElem?_append,AV.settle];done)) ?_
   conv=>whnf
   rcases bt (decide (b.1≤(ix b.2 s1).1)) with hb7 | hb7
   ·rw [hb7]
    conv=>whnf
    replace h:=it_t hb7 h
    obtain rfl:=Option.some.inj h
    exact hR _ _ ⟨.inr rfl,_,rfl,_,frz_pure rfl,rfl⟩
   ·rw [hb7]
    conv=>whnf
    replace h:=it_f hb7 h
    refine nthK_of (x:=AObj.cells [(I (ix b.2 s1).1),(I (ix b.2 s1).2)]) (by first | with_reducible exact get_concat _ _ | exact get_concat _ _ | exact ga (get_concat _ _) | rfl | (simp [List.getElem?_append,AV.settle];done)) ?_
    conv=>whnf
    rcases bt (decide ((ix b.2 s1).2<(0:Int))) with hb8 | hb8
    ·rw [hb8]
     conv=>whnf
     replace h:=it_t hb8 h
     obtain rfl:=Option.some.inj h
     exact hR _ _ ⟨.inr rfl,_,rfl,_,frz_pure rfl,rfl⟩
    ·rw [hb8]
     conv=>whnf
     replace h:=it_f hb8 h
     refine nthK_of (x:=AObj.cells [(I (ix b.2 s1).1),(I (ix b.2 s1).2)]) (by first | with_reducible exact get_concat _ _ | exact get_concat _ _ | exact ga (get_concat _ _) | rfl | (simp [List.getElem?_append,AV.settle];done)) ?_
     conv=>whnf
     rcases bt (decide (b.1≤(ix b.2 s1).2)) with hb9 | hb9
     ·rw [hb9]
      conv=>whnf
      replace h:=it_t hb9 h
      obtain rfl:=Option.some.inj h
      exact hR _ _ ⟨.inr rfl,_,rfl,_,frz_pure rfl,rfl⟩
     ·rw [hb9]
      conv=>whnf
      replace h:=it_f hb9 h
      exact ⟨m,Nat.lt_succ_self m,(w (s1+(1:Int))),_,rfl,rfl,h⟩
 ·rw [hb4]
  conv=>whnf
  replace h:=it_f hb4 h
  exact hkl1_0 _ _ _ _ _ _ _ _ _ _ _ _ _ _ _ _ _ _ _ _ _ _ _ _ _ _ _ _ _ _ _ _ _ _ _ _ _ _ _ _ _ _ _ _ _ _ _ _ _ _ _ _ _ _ _ h
theorem x21_ok {b:(Int×(List (Int×Int)))} {v:Int} (h:x21 b=some v):PO 21 [(.agg [(I b.1),(.lst (b.2.flatMap pr) b.2.length .shared)])] (I v):=by
 refine fn_pureW hmix lxx21 rfl rfl fun Q hQ=>?_
 have hR:∀ T H,RetW [.tmp 2] (I v) .ret T H→Q .ret T H:=fun T H hh=>hQ _ T H hh
 unfold x21 at h
 unfold xrc21
 obtain ⟨c_1,g_1⟩:∃ c,xrc21_1=c:=⟨_,rfl⟩
 rw [g_1]
 conv=>whnf
 rcases bt (decide (b.1<(1:Int))) with hb1 | hb1
 ·rw [hb1]
  conv=>whnf
  replace h:=it_t hb1 h
  obtain rfl:=Option.some.inj h
  exact hR _ _ ⟨.inr rfl,_,rfl,_,frz_pure rfl,rfl⟩
 ·rw [hb1]
  conv=>whnf
  replace h:=it_f hb1 h
  rcases bt (decide ((6:Int)<b.1)) with hb2 | hb2
  ·rw [hb2]
   conv=>whnf
   replace h:=it_t hb2 h
   obtain rfl:=Option.some.inj h
   exact hR _ _ ⟨.inr rfl,_,rfl,_,frz_pure rfl,rfl⟩
  ·rw [hb2]
   conv=>whnf
   replace h:=it_f hb2 h
   rcases bt (decide ((10:Int)<(b.2.length:Int))) with hb3 | hb3
   ·rw [hb3]
    conv=>whnf
    replace h:=it_t hb3 h
    obtain rfl:=Option.some.inj h
    exact hR _ _ ⟨.inr rfl,_,rfl,_,frz_pure rfl,rfl⟩
   ·rw [hb3]
    conv=>whnf
    replace h:=it_f hb3 h
    subst g_1
    refine x21_l1_ok ?_ ?_ (by exact rfl) h
    ·exact fun T H hh=>hR T H hh
    ·intro u0 u1 u2 u3 u4 u5 u6 u7 u8 u9 u10 u11 u12 u13 u14 u15 u16 u17 u18 u19 u20 u21 u22 u23 u24 u25 u26 u27 u28 u29 u30 u31 u32 u33 u34 u35 u36 u37 u38 u39 u40 u41 u42 u43 u44 u45 u46 u47 u48 u49 u50 u51 u52 o1 Yq h
     conv=>whnf
     obtain rfl:=Option.some.inj h
     exact hR _ _ ⟨.inr rfl,_,rfl,_,frz_pure rfl,rfl⟩

noncomputable def xrc57:RC :=
 .seq (.reg false [I_ 2 [.tk 0] .box,I_ 3 [.tk 1] .box,I_ 4 [.cv (.int .i64 0)] .mv]) (.seq (.seq (.reg false [I_ 5 [.sl 3] (.fa 1),I_ 6 [.tv 5] (.ld .one),I_ 7 [.tv 6,.cv (.int .i64 1)] (.bin .eql)]) (.cond (.sl 7) (.seq
 (.reg false [I_ 8 [.tv 2] (.fa 1),I_ 9 [.tv 8] (.ld .one),I_ 10 [.tv 3] (.fa 0),I_ 11 [.tv 10] (.ld .one),I_ 12 [.tv 9,.tv 11] (.ia 2),I_ 13 [.tv 12] (.fa 1),I_ 14 [.tv 13] (.ld .one),I_ 4 [.tk 14] .mv]) .ret) .skip))
 (.seq (.reg false [I_ 15 [.tv 2] (.fa 1),I_ 16 [.tv 15] (.ld .one),I_ 17 [.tv 3] (.fa 0),I_ 18 [.tv 17] (.ld .one),I_ 19 [.tv 16,.tv 18] (.ia 2),I_ 20 [.tv 19] (.fa 0),I_ 21 [.tv 20] (.ld .one),I_ 4 [.tk 21] .mv]) .ret))
theorem lxx57:linkF Tryz.prog ann57 57=some (xrc57,22,[.tmp 4]):=by kernel_rfl
def x57 (b:(Int×(List (Int×Int)))) (p:(Int×Int)):Option Int :=
 if (decide (p.2=(1:Int)))=true then
  gd (0≤p.1∧p.1<(b.2.length:Int)) <|
  some ((ix b.2 p.1).2)
 else
  gd (0≤p.1∧p.1<(b.2.length:Int)) <|
  some ((ix b.2 p.1).1)
theorem x57_ok {b:(Int×(List (Int×Int)))} {p:(Int×Int)} {v:Int} (h:x57 b p=some v):PO 57 [(.agg [(I b.1),(.lst (b.2.flatMap pr) b.2.length .shared)]),(.agg [(I p.1),(I p.2)])] (I v):=by
 refine fn_pureW hmix lxx57 rfl rfl fun Q hQ=>?_
 have hR:∀ T H,RetW [.tmp 4] (I v) .ret T H→Q .ret T H:=fun T H hh=>hQ _ T H hh
 unfold x57 at h
 unfold xrc57
 skip
 conv=>whnf
 rcases bt (decide (p.2=(1:Int))) with hb1 | hb1
 ·rw [hb1]
  conv=>whnf
  replace h:=it_t hb1 h
  obtain ⟨hb2,h⟩:=gd_some h
  refine ⟨hb2,?_⟩
  rw [dropS pr 2 pr_len b.2 p.1 hb2]
  conv=>whnf
  obtain rfl:=Option.some.inj h
  exact hR _ _ ⟨.inr rfl,_,rfl,_,frz_pure rfl,rfl⟩
 ·rw [hb1]
  conv=>whnf
  replace h:=it_f hb1 h
  obtain ⟨hb3,h⟩:=gd_some h
  refine ⟨hb3,?_⟩
  rw [dropS pr 2 pr_len b.2 p.1 hb3]
  conv=>whnf
  obtain rfl:=Option.some.inj h
  exact hR _ _ ⟨.inr rfl,_,rfl,_,frz_pure rfl,rfl⟩

noncomputable def xrc69_1:RC :=
 .loop (some [i_,i_,o_,o_,o_,i_,o_,o_,o_,o_,o_,o_,o_,o_,o_,o_,o_,o_,o_]) (.seq (.seq (.reg false [I_ 6 [.sl 5] .mv,I_ 7 [.sl 0] .mv,I_ 8 [.tk 7] .lenS,I_ 9
 [.tv 6,.tv 8] (.bin .lss)]) (.cond (.sl 9) .skip (.exit 0))) (.seq (.block 1 (.seq (.reg false [I_ 12 [.sl 0] .mv,I_ 13 [.sl 5] .mv,I_ 14 [.tv 12,.tv 13] (.ia 2),I_ 15 [.tv 14] (.fa 0),I_ 16 [.tv 15] (.ld .one),I_ 17
 [.sl 1] .mv,I_ 18 [.tv 16,.tv 17] (.bin .eql)]) (.cond (.sl 18) (.seq (.reg false [I_ 4 [.cv (.bool true)] .mv]) .ret) .skip))) (.reg false [I_ 10 [.tk 5] .mv,I_ 11 [.tv 10,.cv (.int .i64 1)] (.bin .add),I_ 5 [.tk 11]
 .mv])))
noncomputable def xrc69:RC :=
 .seq (.reg false [I_ 4 [.cv (.bool false)] .mv]) (.seq (.seq (.reg false [I_ 5 [.cv (.int .i64 0)] .mv]) (.block 0 xrc69_1)) (.seq (.reg false [I_ 4 [.cv (.bool false)] .mv]) .ret))
theorem lxx69:linkF Tryz.prog ann69 69=some (xrc69,19,[.tmp 4]):=by kernel_rfl
def x69_l1 (row:(List (Int×Int))) (sheet:Int) (kl1_0:Unit→Option Bool):Nat→Int→Option Bool
 | 0,_=>none
 | m+1,s1 =>
   if (decide (s1<(row.length:Int)))=true then
    gd (0≤s1∧s1<(row.length:Int)) <|
    if (decide ((ix row s1).1=sheet))=true then
     some true
    else
     x69_l1 row sheet kl1_0 m (w (s1+(1:Int)))
   else
    kl1_0 ()
def x69 (row:(List (Int×Int))) (sheet:Int):Option Bool :=
 x69_l1 row sheet (fun _ =>
   some false) FU (0:Int)
theorem x69_l1_ok {row:(List (Int×Int))} {sheet:Int} {kl1_0:Unit→Option Bool} {s1:Int} {v:Bool} {Q:Ex→List AV→List AObj→Prop}   (hR:∀ T H,RetW [.tmp 4] (B v) .ret T H→Q .ret T H) (hkl1_0:∀ (u0:AV) (u1:AV) (u4:AV) (u5:AV) (u6:AV) (u7:AV) (u8:AV) (u9:AV) (u10:AV) (u11:AV) (u12:AV) (u13:AV) (u14:AV) (u15:AV) (u16:AV) (u17:AV) (u18:AV),kl1_0 ()=some v→Q (.exit 0) [u0,u1,J,J,u4,u5,u6,u7,u8,u9,u10,u11,u12,u13,u14,u15,u16,u17,u18] []) {T:List AV} (hT:zipKeep [i_,i_,o_,o_,o_,i_,o_,o_,o_,o_,o_,o_,o_,o_,o_,o_,o_,o_,o_] T=slots 19 [(0,(.lst (row.flatMap pr) row.length .shared)),(1,(I sheet)),(5,(I s1))]) (h:x69_l1 row sheet kl1_0 FU s1=some v) :
  wpR Tryz.prog ann69 69 0 none xrc69_1 T [] Q:=by
 unfold xrc69_1
 skip
 refine wp_loop hT ?_
 refine .intro (fun m T H=>∃ (s1:Int),T=slots 19 [(0,(.lst (row.flatMap pr) row.length .shared)),(1,(I sheet)),(5,(I s1))]∧H=[]∧x69_l1 row sheet kl1_0 m s1=some v) FU ⟨s1,rfl,rfl,h⟩ ?_
 clear h hT
 rintro m T H ⟨s1,rfl,rfl,h⟩
 cases m
 ·exact none_ne h
 rename_i m
 rw [x69_l1.eq_2] at h
 conv=>whnf
 rcases bt (decide (s1<(row.length:Int))) with hb1 | hb1
 ·rw [hb1]
  conv=>whnf
  replace h:=it_t hb1 h
  obtain ⟨hb2,h⟩:=gd_some h
  refine ⟨hb2,?_⟩
  rw [dropS pr 2 pr_len row s1 hb2]
  conv=>whnf
  rcases bt (decide ((ix row s1).1=sheet)) with hb3 | hb3
  ·rw [hb3]
   conv=>whnf
   replace h:=it_t hb3 h
   obtain rfl:=Option.some.inj h
   exact hR _ _ ⟨.inr rfl,_,rfl,_,frz_pure rfl,rfl⟩
  ·rw [hb3]
   conv=>whnf
   replace h:=it_f hb3 h
   exact ⟨m,Nat.lt_succ_self m,(w (s1+(1:Int))),rfl,rfl,h⟩
 ·rw [hb1]
  conv=>whnf
  replace h:=it_f hb1 h
  exact hkl1_0 _ _ _ _ _ _ _ _ _ _ _ _ _ _ _ _ _ h
theorem x69_ok {row:(List (Int×Int))} {sheet:Int} {v:Bool} (h:x69 row sheet=some v):PO 69 [(.lst (row.flatMap pr) row.length .shared),(I sheet)] (B v):=by
 refine fn_pureW hmix lxx69 rfl rfl fun Q hQ=>?_
 have hR:∀ T H,RetW [.tmp 4] (B v) .ret T H→Q .ret T H:=fun T H hh=>hQ _ T H hh
 unfold x69 at h
 unfold xrc69
 obtain ⟨c_1,g_1⟩:∃ c,xrc69_1=c:=⟨_,rfl⟩
 rw [g_1]
 conv=>whnf
 subst g_1
 refine x69_l1_ok ?_ ?_ (by exact rfl) h
 ·exact fun T H hh=>hR T H hh
 ·intro u0 u1 u4 u5 u6 u7 u8 u9 u10 u11 u12 u13 u14 u15 u16 u17 u18 h
  conv=>whnf
  obtain rfl:=Option.some.inj h
  exact hR _ _ ⟨.inr rfl,_,rfl,_,frz_pure rfl,rfl⟩

noncomputable def xrc70:RC :=
 .seq (.reg false [I_ 2 [.tk 0] .box,I_ 3 [.tk 1] .box,I_ 4 [.cv (.int .i64 0)] .mv]) (.seq (.seq (.reg false [I_ 5 [.sl 3] (.fa 1),I_ 6 [.tv 5] (.ld .one),I_ 7 [.tv 6,.cv (.int .i64 1)] (.bin .eql)]) (.cond (.sl 7) (.seq
 (.reg false [I_ 8 [.tv 2] (.fa 1),I_ 9 [.tv 8] (.ld .one),I_ 10 [.tv 3] (.fa 0),I_ 11 [.tv 10] (.ld .one),I_ 12 [.tv 9,.tv 11] (.ia 2),I_ 13 [.tv 12] (.fa 0),I_ 14 [.tv 13] (.ld .one),I_ 4 [.tk 14] .mv]) .ret) .skip))
 (.seq (.reg false [I_ 15 [.tv 2] (.fa 1),I_ 16 [.tv 15] (.ld .one),I_ 17 [.tv 3] (.fa 0),I_ 18 [.tv 17] (.ld .one),I_ 19 [.tv 16,.tv 18] (.ia 2),I_ 20 [.tv 19] (.fa 1),I_ 21 [.tv 20] (.ld .one),I_ 4 [.tk 21] .mv]) .ret))
theorem lxx70:linkF Tryz.prog ann70 70=some (xrc70,22,[.tmp 4]):=by kernel_rfl
def x70 (b:(Int×(List (Int×Int)))) (p:(Int×Int)):Option Int :=
 if (decide (p.2=(1:Int)))=true then
  gd (0≤p.1∧p.1<(b.2.length:Int)) <|
  some ((ix b.2 p.1).1)
 else
  gd (0≤p.1∧p.1<(b.2.length:Int)) <|
  some ((ix b.2 p.1).2)
theorem x70_ok {b:(Int×(List (Int×Int)))} {p:(Int×Int)} {v:Int} (h:x70 b p=some v):PO 70 [(.agg [(I b.1),(.lst (b.2.flatMap pr) b.2.length .shared)]),(.agg [(I p.1),(I p.2)])] (I v):=by
 refine fn_pureW hmix lxx70 rfl rfl fun Q hQ=>?_
 have hR:∀ T H,RetW [.tmp 4] (I v) .ret T H→Q .ret T H:=fun T H hh=>hQ _ T H hh
 unfold x70 at h
 unfold xrc70
 skip
 conv=>whnf
 rcases bt (decide (p.2=(1:Int))) with hb1 | hb1
 ·rw [hb1]
  conv=>whnf
  replace h:=it_t hb1 h
  obtain ⟨hb2,h⟩:=gd_some h
  refine ⟨hb2,?_⟩
  rw [dropS pr 2 pr_len b.2 p.1 hb2]
  conv=>whnf
  obtain rfl:=Option.some.inj h
  exact hR _ _ ⟨.inr rfl,_,rfl,_,frz_pure rfl,rfl⟩
 ·rw [hb1]
  conv=>whnf
  replace h:=it_f hb1 h
  obtain ⟨hb3,h⟩:=gd_some h
  refine ⟨hb3,?_⟩
  rw [dropS pr 2 pr_len b.2 p.1 hb3]
  conv=>whnf
  obtain rfl:=Option.some.inj h
  exact hR _ _ ⟨.inr rfl,_,rfl,_,frz_pure rfl,rfl⟩

def x19_l1 (b:(Int×(List (Int×Int)))) (row:(List (Int×Int))) (kl1_0:Unit→Option (Int×Int×Int)):Nat→Int→Option (Int×Int×Int)
 | 0,_=>none
 | m+1,s1 =>
   if (decide (s1<(row.length:Int)))=true then
    gd (0≤s1∧s1<(row.length:Int)) <|
    if (decide ((ix row s1).1<(0:Int)))=true then
     some ((0:Int),(0:Int),(3:Int))
    else
     gd (0≤s1∧s1<(row.length:Int)) <|
     if (decide ((b.2.length:Int)≤(ix row s1).1))=true then
      some ((0:Int),(0:Int),(3:Int))
     else
      gd (0≤s1∧s1<(row.length:Int)) <|
      if (decide ((ix row s1).2<(0:Int)))=true then
       some ((0:Int),(0:Int),(3:Int))
      else
       gd (0≤s1∧s1<(row.length:Int)) <|
       if (decide ((1:Int)<(ix row s1).2))=true then
        some ((0:Int),(0:Int),(3:Int))
       else
        x19_l1 b row kl1_0 m (w (s1+(1:Int)))
   else
    kl1_0 ()
def x19_l2 (row:(List (Int×Int))) (kl2_0:Unit→Option (Int×Int×Int)):Nat→Int→Option (Int×Int×Int)
 | 0,_=>none
 | m+1,s2 =>
   if (decide (s2<(row.length:Int)))=true then
    gd (0≤s2∧s2≤(row.length:Int)) <|
    gd (0≤s2∧s2<(row.length:Int)) <|
    (x69 (row.take s2.toNat) ((ix row s2).1)).bind fun r3 =>
    if r3=true then
     some ((0:Int),(0:Int),(11:Int))
    else
     x19_l2 row kl2_0 m (w (s2+(1:Int)))
   else
    kl2_0 ()
def x19_l3 (b:(Int×(List (Int×Int)))) (row:(List (Int×Int))) (kl3_0:Unit→Option (Int×Int×Int)):Nat→Int→Option (Int×Int×Int)
 | 0,_=>none
 | m+1,s3 =>
   if (decide (s3<(row.length:Int)))=true then
    gd (0≤(w (s3-(1:Int)))∧(w (s3-(1:Int)))<(row.length:Int)) <|
    (x70 b (ix row (w (s3-(1:Int))))).bind fun r4 =>
    gd (0≤s3∧s3<(row.length:Int)) <|
    (x57 b (ix row s3)).bind fun r5 =>
    if (decide (r4≠r5))=true then
     some ((0:Int),(0:Int),(27:Int))
    else
     x19_l3 b row kl3_0 m (w (s3+(1:Int)))
   else
    kl3_0 ()
def x19 (b:(Int×(List (Int×Int)))) (row:(List (Int×Int))):Option (Int×Int×Int) :=
 (x21 b).bind fun r1 =>
 if (decide (r1≠(0:Int)))=true then
  (x21 b).bind fun r2 =>
  some ((0:Int),(0:Int),r2)
 else
  if (decide ((row.length:Int)=(0:Int)))=true then
   some ((0:Int),(0:Int),(6:Int))
  else
   x19_l1 b row (fun _ =>
     x19_l2 row (fun _ =>
       x19_l3 b row (fun _ =>
         gd (0≤(0:Int)∧(0:Int)<(row.length:Int)) <|
         (x57 b (ix row (0:Int))).bind fun r6 =>
         gd (0≤(w ((row.length:Int)-(1:Int)))∧(w ((row.length:Int)-(1:Int)))<(row.length:Int)) <|
         (x70 b (ix row (w ((row.length:Int)-(1:Int))))).bind fun r7 =>
         some (r6,r7,(0:Int))) FU (1:Int)) FU (0:Int)) FU (0:Int)

def x22 (b:(Int×(List (Int×Int)))) (row:(List (Int×Int))):Option Int :=
 (x18 b row).bind fun r1 =>
 if (decide (r1.2.2≠(0:Int)))=true then
  some r1.2.2
 else
  if (decide ((row.length:Int)<(b.2.length:Int)))=true then
   some (15:Int)
  else
   if (decide (r1.1≠r1.2.1))=true then
    some (27:Int)
   else
    some (0:Int)

def x23 (b:(Int×(List (Int×Int)))) (row:(List (Int×Int))):Option Int :=
 (x19 b row).bind fun r1 =>
 if (decide (r1.2.2≠(0:Int)))=true then
  some r1.2.2
 else
  if (decide ((row.length:Int)≠(b.2.length:Int)))=true then
   some (15:Int)
  else
   if (decide (r1.1≠r1.2.1))=true then
    some (27:Int)
   else
    some (0:Int)

def x3 (b:(Int×(List (Int×Int)))) (l:(List (Int×Int))):Option Bool :=
 (x16 b).bind fun r1 =>
 if r1=true then
  (x17).bind fun r2 =>
  some r2
 else
  if (decide ((14:Int)<(l.length:Int)))=true then
   (x17).bind fun r3 =>
   some r3
  else
   (x18 b l).bind fun r4 =>
   (x19 b l).bind fun r5 =>
   (x20 b).bind fun r6 =>
   (x21 b).bind fun r7 =>
   if (decide (r6=r7))=true then
    if (decide (r4.1=r5.1))=true then
     if (decide (r4.2.1=r5.2.1))=true then
      if (decide (r4.2.2=r5.2.2))=true then
       (x22 b l).bind fun r8 =>
       (x23 b l).bind fun r9 =>
       if (decide (r8=r9))=true then
        (x17).bind fun r10 =>
        some r10
       else
        some false
      else
       some false
     else
      some false
    else
     some false
   else
    some false
end Go.Proofs.YtfakoboiahbhaaaGreat.Ab


namespace Go.Proofs.YtfakoboiahbhaaaGreat.Ab
open Go
def offB (lo hi x:Int):Bool:=decide (x<lo) || decide (hi<x)
theorem offB_false {lo hi x:Int}:offB lo hi x=false↔lo≤x∧x≤hi:=by
 simp only [offB,Bool.or_eq_false_iff,decide_eq_false_iff_not];omega
theorem offB_true {lo hi x:Int}:offB lo hi x=true↔x<lo∨hi<x:=by
 simp only [offB,Bool.or_eq_true,decide_eq_true_eq]
def posOf {α:Type} (p:α→Bool):List α→Nat→Int
 | [],_ => -1
 | x::l,i=>if p x=true then (i:Int) else posOf p l (i+1)
theorem posOf_any {α:Type} (p:α→Bool):∀ (l:List α) (i:Nat),decide (0≤posOf p l i)=l.any p
 | [],_=>rfl
 | x::l,i=>by
   rw [posOf,List.any_cons]
   by_cases h:p x=true
   ·rw [if_pos h,h];simp
   ·rw [if_neg h,posOf_any p l (i+1)];simp [h]
theorem x93_eq (n lo hi:Int):x93 n lo hi=some (offB lo hi n):=by
 unfold x93 offB;by_cases h:n<lo <;> simp [h]
theorem x114_l1_eq {s:List Int} {f:Int→Option Bool} {p:Int→Bool} (hf:∀ x∈s,f x=some (p x)) (hs:s.length≤140737488355328):∀ (m i:Nat) (z:Int),z=i→i≤s.length→s.length-i<m→x114_l1 s f (fun _=>some (-1:Int)) m z=some (posOf p (s.drop i) i)
 | 0,i,_,_,_,h=>absurd h (by omega)
 | m+1,i,_,rfl,hi,hm=>by
   rw [x114_l1]
   by_cases h:i<s.length
   ·rw [iflt h,gdi h,ix_nat h,hf _ (List.getElem_mem h),Option.bind_some,List.drop_eq_getElem_cons h,posOf]
    by_cases hp:p s[i]=true
    ·rw [if_pos hp,if_pos hp]
    ·rw [if_neg hp,if_neg hp,w_succ i (by omega),x114_l1_eq hf hs m (i+1) _ rfl (by omega) (by omega)]
   ·rw [ifge h,List.drop_eq_nil_of_le (by omega)];rfl
theorem x95_l1_eq {s:List (Int×Int)} {f:Int×Int→Option Bool} {p:Int×Int→Bool} (hf:∀ x∈s,f x=some (p x)) (hs:s.length≤140737488355328):∀ (m i:Nat) (z:Int),z=i→i≤s.length→s.length-i<m→x95_l1 s f (fun _=>some (-1:Int)) m z=some (posOf p (s.drop i) i)
 | 0,i,_,_,_,h=>absurd h (by omega)
 | m+1,i,_,rfl,hi,hm=>by
   rw [x95_l1]
   by_cases h:i<s.length
   ·rw [iflt h,gdi h,ix_nat h,hf _ (List.getElem_mem h),Option.bind_some,List.drop_eq_getElem_cons h,posOf]
    by_cases hp:p s[i]=true
    ·rw [if_pos hp,if_pos hp]
    ·rw [if_neg hp,if_neg hp,w_succ i (by omega),x95_l1_eq hf hs m (i+1) _ rfl (by omega) (by omega)]
   ·rw [ifge h,List.drop_eq_nil_of_le (by omega)];rfl
theorem x92_eq {s:List Int} {f:Int→Option Bool} {p:Int→Bool} (hf:∀ x∈s,f x=some (p x)) (hs:s.length≤140737488355328):x92 s f=some (s.any p):=by
 have:=x114_l1_eq hf hs FU 0 0 rfl (Nat.zero_le _) (FU_lt (by omega))
 rw [List.drop_zero] at this
 rw [x92,x114,this,Option.bind_some,posOf_any]
theorem x72_eq {s:List (Int×Int)} {f:Int×Int→Option Bool} {p:Int×Int→Bool} (hf:∀ x∈s,f x=some (p x)) (hs:s.length≤140737488355328):x72 s f=some (s.any p):=by
 have:=x95_l1_eq hf hs FU 0 0 rfl (Nat.zero_le _) (FU_lt (by omega))
 rw [List.drop_zero] at this
 rw [x72,x95,this,Option.bind_some,posOf_any]
theorem x66_eq (lo hi:Int) (l:List Int) (hl:l.length≤140737488355328):x66 lo hi l=some (!(l.any (offB lo hi))):=by
 rw [x66,x92_eq (p:=offB lo hi) (fun x _=>x93_eq x lo hi) hl,Option.bind_some]
def strayS (f:Int) (s:Int×Int):Bool:=offB 0 (f-1) s.1 || offB 0 (f-1) s.2
def bkErr (b:Bk):Int:=if b.1<1∨6<b.1∨(10:Int)<(b.2.length:Int) then 6 else if b.2.any (strayS b.1)=true then 3 else 0
structure Book (b:Bk):Prop where
 f1:1≤b.1
 f6:b.1≤6
 len:b.2.length≤10
 left:∀ s∈b.2,0≤s.1∧s.1<b.1
 right:∀ s∈b.2,0≤s.2∧s.2<b.1
theorem bkErr_zero {b:Bk}:bkErr b=0↔Book b:=by
 unfold bkErr
 constructor
 ·intro h
  split at h
  ·omega
  ·rename_i h1
   split at h
   ·omega
   ·rename_i h2
    have h2:b.2.any (strayS b.1)=false:=by simpa using h2
    rw [List.any_eq_false] at h2
    have h3:∀ s∈b.2,offB 0 (b.1-1) s.1=false∧offB 0 (b.1-1) s.2=false:=fun s hs=>by
     have:=h2 s hs;unfold strayS at this;simpa using this
    exact ⟨by omega,by omega,by omega,fun s hs=>by have:=offB_false.1 (h3 s hs).1;omega,fun s hs=>by have:=offB_false.1 (h3 s hs).2;omega⟩
 ·intro h
  obtain ⟨h1,h2,h3,h4,h5⟩:=h
  rw [if_neg (by omega),if_neg]
  rw [Bool.not_eq_true,List.any_eq_false]
  intro s hs
  have a:=h4 s hs;have c:=h5 s hs
  unfold strayS
  rw [offB_false.2 (by omega),offB_false.2 (by omega)];decide
theorem x20_eq (b:Bk) (hb:b.2.length≤1000):x20 b=some (bkErr b):=by
 rw [x20,x66_eq _ _ _ (by simp),Option.bind_some]
 unfold bkErr
 simp only [List.any_cons,List.any_nil,Bool.or_false]
 by_cases h:1≤b.1∧b.1≤6
 ·rw [offB_false.2 h,if_pos (by decide)]
  by_cases h2:(10:Int)<(b.2.length:Int)
  ·rw [if_pos (decide_eq_true h2),if_pos (by omega)]
  ·rw [if_neg (by simpa using h2),if_neg (by omega),x72_eq (p:=strayS b.1) (fun s _=>by
    rw [x71,w_id (by omega),x66_eq _ _ _ (by simp),Option.bind_some]
    simp [strayS]) (by omega),Option.bind_some]
   cases b.2.any (strayS b.1) <;> rfl
 ·have:offB 1 6 b.1=true:=by rw [offB_true];omega
  rw [this,if_neg (by decide),if_pos (by omega)]
theorem x21_l1_eq {b:Bk} (hb:b.2.length≤1000) (hf:1≤b.1):∀ (m i:Nat) (z:Int),z=i→i≤b.2.length→b.2.length-i<m→x21_l1 b (fun _=>some (0:Int)) m z=some (if (b.2.drop i).any (strayS b.1)=true then 3 else 0)
 | 0,i,_,_,_,h=>absurd h (by omega)
 | m+1,i,_,rfl,hi,hm=>by
   rw [x21_l1]
   by_cases h:i<b.2.length
   ·rw [iflt h,gdi h,ix_nat h,List.drop_eq_getElem_cons h,List.any_cons]
    have e:strayS b.1 b.2[i]=true↔b.2[i].1<0∨b.1≤b.2[i].1∨b.2[i].2<0∨b.1≤b.2[i].2:=by
     unfold strayS;rw [Bool.or_eq_true,offB_true,offB_true];omega
    by_cases hs:strayS b.1 b.2[i]=true
    ·have h':=e.1 hs
     rw [hs,Bool.true_or,if_pos rfl]
     by_cases a1:b.2[i].1<0
     ·rw [if_pos (decide_eq_true a1)]
     rw [if_neg (by simpa using a1)]
     by_cases a2:b.1≤b.2[i].1
     ·rw [if_pos (decide_eq_true a2)]
     rw [if_neg (by simpa using a2)]
     by_cases a3:b.2[i].2<0
     ·rw [if_pos (decide_eq_true a3)]
     rw [if_neg (by simpa using a3),if_pos (decide_eq_true (by omega))]
    ·have h':=(not_congr e).1 hs
     have hs':strayS b.1 b.2[i]=false:=by simpa using hs
     rw [hs',Bool.false_or,if_neg (by simp;omega),if_neg (by simp;omega),if_neg (by simp;omega),if_neg (by simp;omega),w_succ i (by omega),x21_l1_eq hb hf m (i+1) _ rfl (by omega) (by omega)]
   ·rw [ifge h,List.drop_eq_nil_of_le (by omega)];rfl
theorem x21_eq (b:Bk) (hb:b.2.length≤1000):x21 b=some (bkErr b):=by
 rw [x21];unfold bkErr
 by_cases h1:b.1<1
 ·rw [if_pos (decide_eq_true h1),if_pos (.inl h1)]
 rw [if_neg (by simpa using h1)]
 by_cases h2:6<b.1
 ·rw [if_pos (decide_eq_true h2),if_pos (.inr (.inl h2))]
 rw [if_neg (by simpa using h2)]
 by_cases h3:(10:Int)<(b.2.length:Int)
 ·rw [if_pos (decide_eq_true h3),if_pos (.inr (.inr h3))]
 rw [if_neg (by simpa using h3),if_neg (by omega),x21_l1_eq hb (by omega) FU 0 0 rfl (Nat.zero_le _) (FU_lt (by omega)),List.drop_zero]
abbrev Row:=List (Int×Int)
def strayP (b:Bk) (p:Int×Int):Bool:=offB 0 ((b.2.length:Int)-1) p.1 || offB 0 1 p.2
theorem strayP_false {b:Bk} {p:Int×Int}:strayP b p=false↔0≤p.1∧p.1<(b.2.length:Int)∧0≤p.2∧p.2≤1:=by
 unfold strayP;rw [Bool.or_eq_false_iff,offB_false,offB_false];omega
theorem ix_set_self {t:List Int} {c:Nat} {x:Int} (h:c<t.length):ix (t.set c x) (c:Int)=x:=by unfold ix;simp [List.getD_eq_getElem?_getD,h]
theorem ix_set_ne {t:List Int} {c j:Nat} {x:Int} (h:j≠c):ix (t.set c x) (j:Int)=ix t (j:Int):=by unfold ix;simp [List.getD_eq_getElem?_getD,List.getElem?_set_ne (Ne.symm h)]
theorem x69_l1_eq {row:Row} {s:Int} (hr:row.length≤1000):∀ (m i:Nat) (z:Int),z=i→i≤row.length→row.length-i<m→x69_l1 row s (fun _=>some false) m z=some ((row.drop i).any fun q=>decide (q.1=s))
 | 0,i,_,_,_,h=>absurd h (by omega)
 | m+1,i,_,rfl,hi,hm=>by
   rw [x69_l1]
   by_cases h:i<row.length
   ·rw [iflt h,gdi h,ix_nat h,List.drop_eq_getElem_cons h,List.any_cons]
    by_cases hp:row[i].1=s
    ·rw [if_pos (decide_eq_true hp)];simp [hp]
    ·rw [if_neg (by simpa using hp),w_succ i (by omega),x69_l1_eq hr m (i+1) _ rfl (by omega) (by omega)];simp [hp]
   ·rw [ifge h,List.drop_eq_nil_of_le (by omega)];rfl
theorem x69_eq (row:Row) (s:Int) (hr:row.length≤1000):x69 row s=some (row.any fun q=>decide (q.1=s)):=by
 rw [x69,x69_l1_eq hr FU 0 0 rfl (Nat.zero_le _) (FU_lt (by omega)),List.drop_zero]
theorem x57_eq {b:Bk} {p:Int×Int} (h:strayP b p=false):x57 b p=some (beg b p):=by
 have h:=strayP_false.1 h
 rw [x57];unfold beg
 by_cases h1:p.2=1
 ·rw [if_pos (decide_eq_true h1),if_pos (by omega),gd_pos ⟨by omega,by omega⟩]
 ·rw [if_neg (by simpa using h1),if_neg (by omega),gd_pos ⟨by omega,by omega⟩]
theorem x70_eq {b:Bk} {p:Int×Int} (h:strayP b p=false):x70 b p=some (fin b p):=by
 have h:=strayP_false.1 h
 rw [x70];unfold fin
 by_cases h1:p.2=1
 ·rw [if_pos (decide_eq_true h1),if_pos (by omega),gd_pos ⟨by omega,by omega⟩]
 ·rw [if_neg (by simpa using h1),if_neg (by omega),gd_pos ⟨by omega,by omega⟩]
theorem sub_lenN:∀ (a b:List Nat),a.Nodup→(∀ x∈a,x∈b)→a.length≤b.length
 | [],_,_,_=>Nat.zero_le _
 | x::a,b,hn,h=>by
   obtain ⟨h1,h2⟩:=List.nodup_cons.1 hn
   have hx:=h x (by simp)
   have:=sub_lenN a (b.erase x) h2 fun y hy=>by
    have hne:y≠x:=fun e=>h1 (e ▸ hy)
    exact (List.mem_erase_of_ne hne).2 (h y (by simp [hy]))
   rw [List.length_erase_of_mem hx] at this
   have:=List.length_pos_of_mem hx
   simp only [List.length_cons];omega
theorem nodup_bound {l:List Int} {n:Nat} (h:l.Nodup) (hb:∀ x∈l,0≤x∧x<(n:Int)):l.length≤n:=by
 have h1:(l.map Int.toNat).Nodup:=by
  rw [List.Nodup,List.pairwise_map]
  refine h.imp_of_mem fun {a c} ha hc hne e=>hne ?_
  have:=hb a ha;have:=hb c hc;omega
 have h2:∀ x∈l.map Int.toNat,x∈List.range n:=fun x hx=>by
  obtain ⟨y,hy,rfl⟩:=List.mem_map.1 hx
  have:=hb y hy
  exact List.mem_range.2 (by omega)
 have:=sub_lenN _ _ h1 h2
 simpa using this
end Go.Proofs.YtfakoboiahbhaaaGreat.Ab


namespace Go.Proofs.YtfakoboiahbhaaaGreat.Ab
open Go
set_option maxRecDepth 20000
set_option maxHeartbeats 4000000
noncomputable def xrc89:RC :=
 .seq (.reg false [I_ 2 [.tk 0] .box,I_ 3 [.tk 1] .box,I_ 4 [.cv .junk] .mv]) (.seq (.reg false [I_ 5 [.tv 2,.tv 3] (.mkF 113 0 2),I_ 4 [.tk 5] .mv]) .ret)
theorem lxx89:linkF Tryz.prog ann89 89=some (xrc89,6,[.tmp 4]):=by kernel_rfl
def x89 (t:(Int×(List (Int×Int)))) (figure:Int):Option Unit :=
 some ()
theorem x89_ok {t:(Int×(List (Int×Int)))} {figure:Int} {v:Unit} (h:x89 t figure=some v):PO 89 [(.lptr [(I t.1),(.lst (t.2.flatMap pr) t.2.length .shared)]),(I figure)] (.func 113 [] [(.lptr [(.lptr [(I t.1),(.lst (t.2.flatMap pr) t.2.length .shared)])]),(.lptr [(I figure)])]):=by
 refine fn_pureW hmix lxx89 rfl (pu_fn rfl (allc (pu_lptr (allc (pu_lptr (allc rfl (allc (pu_flat (fun _=>(allc rfl (allc rfl rfl))) _ _ _) rfl))) rfl)) (allc (pu_lptr (allc rfl rfl)) rfl))) fun Q hQ=>?_
 have hR:∀ T H,RetW [.tmp 4] (.func 113 [] [(.lptr [(.lptr [(I t.1),(.lst (t.2.flatMap pr) t.2.length .shared)])]),(.lptr [(I figure)])]) .ret T H→Q .ret T H:=fun T H hh=>hQ _ T H hh
 unfold x89 at h
 unfold xrc89
 skip
 conv=>whnf
 exact hR _ _ ⟨.inr rfl,_,rfl,_,(frz_fn mapO_nil' (mapO_cons' (frz_ptr (l:=[(.lptr [(I t.1),(.lst (t.2.flatMap pr) t.2.length .shared)])]) (by first | with_reducible exact get_concat _ _ | exact get_concat _ _ | exact ga (get_concat _ _) | rfl | (simp [List.getElem?_append,AV.settle];done)) (allc (pu_lptr (allc rfl (allc (pu_flat (fun _=>(allc rfl (allc rfl rfl))) _ _ _) rfl))) rfl)) (mapO_cons' (frz_ptr (l:=[(I figure)]) (by first | with_reducible exact get_concat _ _ | exact get_concat _ _ | exact ga (get_concat _ _) | rfl | (simp [List.getElem?_append,AV.settle];done)) (allc rfl rfl)) mapO_nil'))),rfl⟩

noncomputable def xrc81_1:RC :=
 .loop (some [o_,i_,o_,i_,o_,i_,i_,i_,o_,o_,o_,o_,o_,o_,i_,o_,o_,o_,o_,o_,o_,o_,o_,o_,o_,o_,o_,o_,o_,o_,o_,o_,o_,o_,o_,o_,o_,o_,o_,o_,o_,o_,o_,o_,o_,o_,o_,o_,o_,o_,o_,o_,o_,o_,o_,o_,o_,o_,o_,o_,o_,o_,o_])
 (.seq (.reg false [I_ 15 [.sl 14,.cv (.int .i64 6)] (.bin .lss)]) (.seq (.cond (.sl 15) .skip (.exit 0)) (.seq (.block 1 (.seq (.reg false [I_ 16 [.sl 14] .mv,I_ 8 [.tk 16] .mv]) (.reg false [I_ 17 [.tk 8] .mv,I_ 18 [.sl 7,
 .tv 17] (.iaA 6 1),⟨none,[.tk 18,.cv (.int .i64 (-1))],none,none,.st 1⟩]))) (.reg false [I_ 19 [.tv 14,.cv (.int .i64 1)] (.bin .add),I_ 14 [.tk 19] .mv]))))
noncomputable def xrc81_2:RC :=
 .rng (.sl 34) [35] (rngA Tryz.prog 81 0) (rngB Tryz.prog 81 0)
noncomputable def xrc81_3:RC :=
 .loop (some [o_,o_,o_,i_,o_,i_,i_,i_,o_,i_,o_,o_,o_,o_,o_,o_,o_,o_,o_,o_,o_,o_,o_,o_,o_,o_,o_,o_,o_,o_,o_,o_,o_,o_,o_,o_,o_,o_,o_,o_,o_,o_,o_,o_,o_,o_,o_,o_,o_,o_,o_,o_,o_,o_,o_,o_,o_,o_,o_,o_,o_,o_,o_])
 (.seq (.seq (.reg false [I_ 24 [.sl 9] (.ld .one),I_ 25 [.tk 24] .lenS,I_ 26 [.tv 25,.cv (.int .i64 0)] (.bin .gtr)]) (.cond (.sl 26) .skip (.exit 2))) (.block 3 (.seq (.reg false [I_ 27 [.sl 9] (.ld .one),I_ 28 [.tv 27,
 .cv (.int .i64 0)] (.ia 1),I_ 29 [.tv 28] (.ld .one),I_ 10 [] (.alloc [.int .i64 0]),⟨none,[.sl 10,.tk 29],none,none,.st 1⟩]) (.seq (.reg false [I_ 30 [.sl 9] .take,I_ 31 [.tk 30,.cv (.int .i64 1)] (.slS 1 true false
 false),⟨none,[.sl 9,.tk 31],none,none,.st 1⟩]) (.seq (.reg false [I_ 32 [.sl 3] (.ld .one),I_ 33 [.sl 10] (.ld .one),I_ 34 [.cv (.func 89 [] []),.sl 32,.sl 33] (.call 3)]) (.block 4 xrc81_2))))))
noncomputable def xrc81:RC :=
 .seq (.reg false [I_ 3 [.tk 0] .box,I_ 5 [.tk 2] .box,I_ 6 [] (.alloc [.int .i64 0,.int .i64 0,.int .i64 0,.int .i64 0,.int .i64 0,.int .i64 0])]) (.seq (.reg false [I_ 7 [] (.alloc [.int .i64 0,.int .i64 0,.int .i64 0,
 .int .i64 0,.int .i64 0,.int .i64 0])]) (.seq (.seq (.reg false [I_ 14 [.cv (.int .i64 0)] .mv]) (.block 0 xrc81_1)) (.seq (.reg false [I_ 20 [.sl 1] .mv,I_ 21 [.sl 7,.tv 20] (.iaA 6 1),⟨none,[.tk 21,.cv (.int .i64 0)],
 none,none,.st 1⟩]) (.seq (.reg false [I_ 22 [.tk 1] .mv,I_ 23 [.tv 22] (.buildS 1 1 [.int .i64 0] [0]),I_ 9 [] (.alloc [.lst [] 0 .full]),⟨none,[.sl 9,.tk 23],none,none,.st 1⟩]) (.seq (.block 2 xrc81_3) (.seq (.reg
 false [I_ 62 [.tv 7] (.ld (.arr 6)),⟨none,[.sl 6,.tk 62],none,none,.st 6⟩]) .ret))))))
noncomputable def xrc81_A0:RC :=
 .reg false [I_ 11 [] (.alloc [.int .i64 0,.int .i64 0]),⟨none,[.sl 11,.tk 35],none,none,.st 2⟩]
theorem lxx81_A0:linkC Tryz.prog ann81 (rngA Tryz.prog 81 0) 0=some xrc81_A0:=by kernel_rfl
noncomputable def xrc81_B0:RC :=
 .block 5 (.seq (.reg false [I_ 37 [.tv 3] (.ld .one),I_ 38 [.sl 11] (.ld (.str 2)),I_ 39 [.cv (.func 68 [] []),.sl 37,.sl 38] (.call 3),I_ 36 [.tk 39] .mv,I_ 40 [.sl 36] (.ext 0),I_ 41 [.tv 36] (.ext 1),I_ 12 [.tk 40]
 .mv,I_ 13 [.tk 41] .mv]) (.seq (.reg false [I_ 42 [.tv 11] (.fa 0),I_ 43 [.tv 42] (.ld .one),I_ 44 [.tv 5] (.ld .one),I_ 45 [.tv 43,.tv 44] (.bin .neq),I_ 46 [.tk 45] .mv,⟨some 47,[.sl 13],some (46,true),none,.mv⟩,
 ⟨some 48,[.sl 7,.tv 47],some (46,true),none,.iaA 6 1⟩,⟨some 49,[.tv 48],some (46,true),none,.ld .one⟩,⟨some 50,[.tv 49,.cv (.int .i64 0)],some (46,true),none,.bin .lss⟩,I_ 51 [.tv 46,.tv 50,.cv (.bool
 false)] .pick]) (.cond (.sl 51) (.seq (.reg false [I_ 52 [.sl 13] .mv,I_ 53 [.tv 10] (.ld .one),I_ 54 [.sl 7,.tv 53] (.iaA 6 1),I_ 55 [.tv 54] (.ld .one),I_ 56 [.tv 55,.cv (.int .i64 1)] (.bin .add),I_ 57 [.tv 7,.tv 52]
 (.iaA 6 1),⟨none,[.tk 57,.tk 56],none,none,.st 1⟩]) (.reg false [I_ 58 [.sl 9] .take,I_ 59 [.tk 13] .mv,I_ 60 [.tv 59] (.buildS 1 1 [.int .i64 0] [0]),I_ 61 [.tk 58,.tk 60] (.app 1 8),⟨none,[.tk 9,.tk 61],none,
 none,.st 1⟩])) .skip)))
theorem lxx81_B0:linkC Tryz.prog ann81 (rngB Tryz.prog 81 0) 0=some xrc81_B0:=by kernel_rfl
theorem lxx81:linkF Tryz.prog ann81 81=some (xrc81,63,[.cell 6 (.arr 6)]):=by kernel_rfl
def x81_l1 (kl1_0:(List Int)→Option (List Int)):Nat→Int→(List Int)→Option (List Int)
 | 0,_,_=>none
 | m+1,s1,s2 =>
   if (decide (s1<(6:Int)))=true then
    gd (0≤s1∧s1<(6:Int)∧6=s2.length) <|
    x81_l1 kl1_0 m (w (s1+(1:Int))) (s2.set s1.toNat (-1:Int))
   else
    kl1_0 s2
def x81_r1 (t:(Int×(List (Int×Int)))) (without:Int) (s4:(List Int)) (st_:(List Int)×(List Int)) (e1:(Int×Int)):Option ((List Int)×(List Int)) :=
 match st_ with
 | (t1,t2) =>
   (x68 t e1).bind fun r2 =>
   if (decide (e1.1≠without))=true then
    gd (0≤r2.2∧r2.2<(6:Int)∧6=t2.length) <|
    if (decide ((ix t2 r2.2)<(0:Int)))=true then
     gd (0≤(ix s4 (0:Int))∧(ix s4 (0:Int))<(6:Int)∧6=t2.length) <|
     gd (0≤r2.2∧r2.2<(6:Int)∧6=t2.length) <|
     gd ((t1.length+1)*8≤140737488355328) <|
     some ((t1++[r2.2]),(t2.set r2.2.toNat (w ((ix t2 (ix s4 (0:Int)))+(1:Int)))))
    else
     some (t1,t2)
   else
    some (t1,t2)
def x81_l2 (t:(Int×(List (Int×Int)))) (without:Int) (kl2_0:(List Int)→Option (List Int)):Nat→(List Int)→(List Int)→Option (List Int)
 | 0,_,_=>none
 | m+1,s3,s4 =>
   if (decide ((0:Int)<(s4.length:Int)))=true then
    gd (0≤(0:Int)∧(0:Int)<(s4.length:Int)) <|
    gd (0≤(1:Int)∧(1:Int)≤(s4.length:Int)) <|
    (x89 t (ix s4 (0:Int))).bind fun r1 =>
    (s113 t (ix s4 (0:Int))).bind fun l1 =>
    (foldO (x81_r1 t without s4) l1 ((s4.drop (1:Int).toNat),s3)).bind fun r3 =>
    x81_l2 t without kl2_0 m r3.2 r3.1
   else
    kl2_0 s3
def x81 (t:(Int×(List (Int×Int)))) (to:Int) (without:Int):Option (List Int) :=
 x81_l1 (fun z1 =>
   gd (0≤to∧to<(6:Int)∧6=z1.length) <|
   x81_l2 t without (fun z2 =>
     gd (z2.length=6) <|
     gd (z2.length=6∧(List.replicate 6 (0:Int)).length=6) <|
     gd (z2.length=6) <|
     some z2) FU (z1.set to.toNat (0:Int)) [to]) FU (0:Int) (List.replicate 6 (0:Int))
theorem x81_l1_ok {kl1_0:(List Int)→Option (List Int)} {s1:Int} {s2:(List Int)} {t:(Int×(List (Int×Int)))} {to:Int} {without:Int} {v:(List Int)} {Q:Ex→List AV→List AObj→Prop}   (hkl1_0:∀ (z1:(List Int)) (u0:AV) (u2:AV) (u8:AV) (u9:AV) (u10:AV) (u11:AV) (u12:AV) (u13:AV) (u14:AV) (u15:AV) (u16:AV) (u17:AV) (u18:AV) (u19:AV) (u20:AV) (u21:AV) (u22:AV) (u23:AV) (u24:AV) (u25:AV) (u26:AV) (u27:AV) (u28:AV) (u29:AV) (u30:AV) (u31:AV) (u32:AV) (u33:AV) (u34:AV) (u35:AV) (u36:AV) (u37:AV) (u38:AV) (u39:AV) (u40:AV) (u41:AV) (u42:AV) (u43:AV) (u44:AV) (u45:AV) (u46:AV) (u47:AV) (u48:AV) (u49:AV) (u50:AV) (u51:AV) (u52:AV) (u53:AV) (u54:AV) (u55:AV) (u56:AV) (u57:AV) (u58:AV) (u59:AV) (u60:AV) (u61:AV) (u62:AV),kl1_0 z1=some v→Q (.exit 0) [u0,(I to),u2,(.ptr 0 0),J,(.ptr 1 0),(.ptr 2 0),(.ptr 3 0),u8,u9,u10,u11,u12,u13,u14,u15,u16,u17,u18,u19,u20,u21,u22,u23,u24,u25,u26,u27,u28,u29,u30,u31,u32,u33,u34,u35,u36,u37,u38,u39,u40,u41,u42,u43,u44,u45,u46,u47,u48,u49,u50,u51,u52,u53,u54,u55,u56,u57,u58,u59,u60,u61,u62] [AObj.cells [(.lptr [(I t.1),(.lst (t.2.flatMap pr) t.2.length .shared)])],AObj.cells [(I without)],AObj.cells ((List.replicate 6 (0:Int)).map I),AObj.cells (z1.map I)]) {T:List AV} (hT:zipKeep [o_,i_,o_,i_,o_,i_,i_,i_,o_,o_,o_,o_,o_,o_,i_,o_,o_,o_,o_,o_,o_,o_,o_,o_,o_,o_,o_,o_,o_,o_,o_,o_,o_,o_,o_,o_,o_,o_,o_,o_,o_,o_,o_,o_,o_,o_,o_,o_,o_,o_,o_,o_,o_,o_,o_,o_,o_,o_,o_,o_,o_,o_,o_] T=slots 63 [(1,(I to)),(3,(.ptr 0 0)),(5,(.ptr 1 0)),(6,(.ptr 2 0)),(7,(.ptr 3 0)),(14,(I s1))]) (h:x81_l1 kl1_0 FU s1 s2=some v) :
  wpR Tryz.prog ann81 81 0 none xrc81_1 T [AObj.cells [(.lptr [(I t.1),(.lst (t.2.flatMap pr) t.2.length .shared)])],AObj.cells [(I without)],AObj.cells ((List.replicate 6 (0:Int)).map I),AObj.cells (s2.map I)] Q:=by
 unfold xrc81_1
 skip
 refine wp_loop hT ?_
 refine .intro (fun m T H=>∃ (s1:Int) (s2:(List Int)),T=slots 63 [(1,(I to)),(3,(.ptr 0 0)),(5,(.ptr 1 0)),(6,(.ptr 2 0)),(7,(.ptr 3 0)),(14,(I s1))]∧H=[AObj.cells [(.lptr [(I t.1),(.lst (t.2.flatMap pr) t.2.length .shared)])],AObj.cells [(I without)],AObj.cells ((List.replicate 6 (0:Int)).map I),AObj.cells (s2.map I)]∧x81_l1 kl1_0 m s1 s2=some v) FU ⟨s1,s2,rfl,rfl,h⟩ ?_
 clear h hT
 rintro m T H ⟨s1,s2,rfl,rfl,h⟩
 cases m
 ·exact none_ne h
 rename_i m
 rw [x81_l1.eq_2] at h
 conv=>whnf
 rcases bt (decide (s1<(6:Int))) with hb1 | hb1
 ·rw [hb1]
  conv=>whnf
  replace h:=it_t hb1 h
  obtain ⟨hb2,h⟩:=gd_some h
  refine ⟨⟨hb2.1,hb2.2.1⟩,?_⟩
  replace hb2:0≤s1∧s1<(s2.length:Int):=⟨hb2.1,by have:=hb2.2;omega⟩
  conv=>whnf
  refine updD I s2 s1 (-1:Int) hb2 ?_
  conv=>whnf
  exact ⟨m,Nat.lt_succ_self m,(w (s1+(1:Int))),(s2.set s1.toNat (-1:Int)),rfl,rfl,h⟩
 ·rw [hb1]
  conv=>whnf
  replace h:=it_f hb1 h
  exact hkl1_0 _ _ _ _ _ _ _ _ _ _ _ _ _ _ _ _ _ _ _ _ _ _ _ _ _ _ _ _ _ _ _ _ _ _ _ _ _ _ _ _ _ _ _ _ _ _ _ _ _ _ _ _ _ _ _ _ _ _ h
theorem x81_r1_ok {t:(Int×(List (Int×Int)))} {without:Int} {s4:(List Int)} {s3:(List Int)} {t1:(List Int)} {t2:(List Int)} {e1:(Int×Int)} {u0:AV} {u1:AV} {u2:AV} {u4:AV} {u6:AV} {u8:AV} {u11:AV} {u12:AV} {u13:AV} {u14:AV} {u15:AV} {u16:AV} {u17:AV} {u18:AV} {u19:AV} {u20:AV} {u21:AV} {u22:AV} {u23:AV} {u24:AV} {u25:AV} {u26:AV} {u27:AV} {u28:AV} {u29:AV} {u30:AV} {u31:AV} {u32:AV} {u33:AV} {u34:AV} {u35:AV} {u36:AV} {u37:AV} {u38:AV} {u39:AV} {u40:AV} {u41:AV} {u42:AV} {u43:AV} {u44:AV} {u45:AV} {u46:AV} {u47:AV} {u48:AV} {u49:AV} {u50:AV} {u51:AV} {u52:AV} {u53:AV} {u54:AV} {u55:AV} {u56:AV} {u57:AV} {u58:AV} {u59:AV} {u60:AV} {u61:AV} {u62:AV} {o3:AObj} {Y81_1:List AObj} {v_:(List Int)×(List Int)} (h:x81_r1 t without s4 (t1,t2) e1=some v_) (Y:List AObj) :
  ∃ Y',Sem Tryz.prog (.yield (((AObj.cells [(.lptr [(I t.1),(.lst (t.2.flatMap pr) t.2.length .shared)])]::AObj.cells [(I without)]::o3::AObj.cells (t2.map I)::AObj.cells [(.lst (t1.map I) t1.length (.own 1))]::Y81_1)++[AObj.cells [(I (ix s4 (0:Int)))]])).length) [(.agg [(I e1.1),(I e1.2)])] ((((AObj.cells [(.lptr [(I t.1),(.lst (t.2.flatMap pr) t.2.length .shared)])]::AObj.cells [(I without)]::o3::AObj.cells (t2.map I)::AObj.cells [(.lst (t1.map I) t1.length (.own 1))]::Y81_1)++[AObj.cells [(I (ix s4 (0:Int)))]])++[AObj.loop .ready none 81 [u0,u1,u2,(AV.ptr 0 0),u4,(AV.ptr 1 0),u6,(AV.ptr 3 0),u8,(AV.ptr 4 0),(AV.ptr (AObj.cells [(.lptr [(I t.1),(.lst (t.2.flatMap pr) t.2.length .shared)])]::AObj.cells [(I without)]::o3::AObj.cells (s3.map I)::AObj.cells [(.lst ((s4.drop (1:Int).toNat).map I) (s4.drop (1:Int).toNat).length (.own 1))]::Y81_1).length 0),u11,u12,u13,u14,u15,u16,u17,u18,u19,u20,u21,u22,u23,u24,u25,u26,u27,u28,u29,u30,u31,u32,u33,u34,u35,u36,u37,u38,u39,u40,u41,u42,u43,u44,u45,u46,u47,u48,u49,u50,u51,u52,u53,u54,u55,u56,u57,u58,u59,u60,u61,u62] [35] (rngA Tryz.prog 81 0) (rngB Tryz.prog 81 0) ann81])++Y) 0 (.bool true) ((((AObj.cells [(.lptr [(I t.1),(.lst (t.2.flatMap pr) t.2.length .shared)])]::AObj.cells [(I without)]::o3::AObj.cells (v_.2.map I)::AObj.cells [(.lst (v_.1.map I) v_.1.length (.own 1))]::Y81_1)++[AObj.cells [(I (ix s4 (0:Int)))]])++[AObj.loop .ready none 81 [u0,u1,u2,(AV.ptr 0 0),u4,(AV.ptr 1 0),u6,(AV.ptr 3 0),u8,(AV.ptr 4 0),(AV.ptr (AObj.cells [(.lptr [(I t.1),(.lst (t.2.flatMap pr) t.2.length .shared)])]::AObj.cells [(I without)]::o3::AObj.cells (s3.map I)::AObj.cells [(.lst ((s4.drop (1:Int).toNat).map I) (s4.drop (1:Int).toNat).length (.own 1))]::Y81_1).length 0),u11,u12,u13,u14,u15,u16,u17,u18,u19,u20,u21,u22,u23,u24,u25,u26,u27,u28,u29,u30,u31,u32,u33,u34,u35,u36,u37,u38,u39,u40,u41,u42,u43,u44,u45,u46,u47,u48,u49,u50,u51,u52,u53,u54,u55,u56,u57,u58,u59,u60,u61,u62] [35] (rngA Tryz.prog 81 0) (rngB Tryz.prog 81 0) ann81])++Y'):=by
 unfold x81_r1 at h
 refine ⟨Y++[.dead],sem_round hmix lxx81_A0 lxx81_B0 (get_mid _ _ _) rfl (low0 (by simp)) ?_⟩
 unfold xrc81_A0
 conv=>whnf
 refine nthK_of (x:=AObj.cells [(I (0:Int)),(I (0:Int))]) (by first | with_reducible exact get_concat _ _ | exact get_concat _ _ | exact ga (get_concat _ _) | rfl | (simp [List.getElem?_append,AV.settle];done)) ?_
 conv=>whnf
 rw [set_concat]
 refine ⟨rfl,get_midY _ _ _ _,?_⟩
 rw [set_midY]
 unfold xrc81_B0
 conv=>whnf
 refine nthK_of (x:=AObj.cells [(I e1.1),(I e1.2)]) (by first | with_reducible exact get_concat _ _ | exact get_concat _ _ | exact ga (get_concat _ _) | rfl | (simp [List.getElem?_append,AV.settle];done)) ?_
 conv=>whnf
 obtain ⟨r2,hb8,h⟩:=bd_some h
 refine ⟨(allc (pu_lptr (allc rfl (allc (pu_flat (fun _=>(allc rfl (allc rfl rfl))) _ _ _) rfl))) (allc (pu_agg (allc rfl (allc rfl rfl))) rfl)),_,x68_ok hb8,?_⟩
 conv=>whnf
 refine nthK_of (x:=AObj.cells [(I e1.1),(I e1.2)]) (by first | with_reducible exact get_concat _ _ | exact get_concat _ _ | exact ga (get_concat _ _) | rfl | (simp [List.getElem?_append,AV.settle];done)) ?_
 conv=>whnf
 rcases bt (decide (e1.1≠without)) with hb9 | hb9
 ·rw [hb9]
  conv=>whnf
  replace h:=it_t hb9 h
  obtain ⟨hb10,h⟩:=gd_some h
  refine ⟨⟨hb10.1,hb10.2.1⟩,?_⟩
  replace hb10:0≤r2.2∧r2.2<(t2.length:Int):=⟨hb10.1,by have:=hb10.2;omega⟩
  conv=>whnf
  refine rdD I t2 r2.2 hb10 ?_
  conv=>whnf
  rcases bt (decide ((ix t2 r2.2)<(0:Int))) with hb11 | hb11
  ·rw [hb11]
   conv=>whnf
   replace h:=it_t hb11 h
   refine nthK_of (x:=AObj.cells [(I (ix s4 (0:Int)))]) (by first | with_reducible exact get_concat _ _ | exact get_concat _ _ | exact ga (get_concat _ _) | rfl | (simp [List.getElem?_append,AV.settle];done)) ?_
   conv=>whnf
   obtain ⟨hb12,h⟩:=gd_some h
   refine ⟨⟨hb12.1,hb12.2.1⟩,?_⟩
   replace hb12:0≤(ix s4 (0:Int))∧(ix s4 (0:Int))<(t2.length:Int):=⟨hb12.1,by have:=hb12.2;omega⟩
   conv=>whnf
   refine rdD I t2 (ix s4 (0:Int)) hb12 ?_
   conv=>whnf
   obtain ⟨hb13,h⟩:=gd_some h
   refine ⟨⟨hb13.1,hb13.2.1⟩,?_⟩
   replace hb13:0≤r2.2∧r2.2<(t2.length:Int):=⟨hb13.1,by have:=hb13.2;omega⟩
   conv=>whnf
   refine updD I t2 r2.2 (w ((ix t2 (ix s4 (0:Int)))+(1:Int))) hb13 ?_
   conv=>whnf
   obtain ⟨hb14,h⟩:=gd_some h
   refine ⟨by first | rfl | simp,by have:=hb14;omega,rfl,hb14,?_⟩
   erw [apnd1 I t1 r2.2]
   conv=>whnf
   obtain rfl:=Option.some.inj h
   show _∧(((((AObj.cells [(.lptr [(I t.1),(.lst (t.2.flatMap pr) t.2.length .shared)])]::AObj.cells [(I without)]::o3::AObj.cells ((t2.set r2.2.toNat (w ((ix t2 (ix s4 (0:Int)))+(1:Int)))).map I)::AObj.cells [(.lst ((t1++[r2.2]).map I) (t1++[r2.2]).length (.own 1))]::Y81_1)++[AObj.cells [(I (ix s4 (0:Int)))]])++[AObj.loop .busy none 81 [u0,u1,u2,(AV.ptr 0 0),u4,(AV.ptr 1 0),u6,(AV.ptr 3 0),u8,(AV.ptr 4 0),(AV.ptr (AObj.cells [(.lptr [(I t.1),(.lst (t.2.flatMap pr) t.2.length .shared)])]::AObj.cells [(I without)]::o3::AObj.cells (s3.map I)::AObj.cells [(.lst ((s4.drop (1:Int).toNat).map I) (s4.drop (1:Int).toNat).length (.own 1))]::Y81_1).length 0),u11,u12,u13,u14,u15,u16,u17,u18,u19,u20,u21,u22,u23,u24,u25,u26,u27,u28,u29,u30,u31,u32,u33,u34,u35,u36,u37,u38,u39,u40,u41,u42,u43,u44,u45,u46,u47,u48,u49,u50,u51,u52,u53,u54,u55,u56,u57,u58,u59,u60,u61,u62] [35] (rngA Tryz.prog 81 0) (rngB Tryz.prog 81 0) ann81])++Y)++[_])[(((AObj.cells [(.lptr [(I t.1),(.lst (t.2.flatMap pr) t.2.length .shared)])]::AObj.cells [(I without)]::o3::AObj.cells ((t2.set r2.2.toNat (w ((ix t2 (ix s4 (0:Int)))+(1:Int)))).map I)::AObj.cells [(.lst ((t1++[r2.2]).map I) (t1++[r2.2]).length (.own 1))]::Y81_1)++[AObj.cells [(I (ix s4 (0:Int)))]])).length]?=_∧Fgt ((((((AObj.cells [(.lptr [(I t.1),(.lst (t.2.flatMap pr) t.2.length .shared)])]::AObj.cells [(I without)]::o3::AObj.cells ((t2.set r2.2.toNat (w ((ix t2 (ix s4 (0:Int)))+(1:Int)))).map I)::AObj.cells [(.lst ((t1++[r2.2]).map I) (t1++[r2.2]).length (.own 1))]::Y81_1)++[AObj.cells [(I (ix s4 (0:Int)))]])++[AObj.loop .busy none 81 [u0,u1,u2,(AV.ptr 0 0),u4,(AV.ptr 1 0),u6,(AV.ptr 3 0),u8,(AV.ptr 4 0),(AV.ptr (AObj.cells [(.lptr [(I t.1),(.lst (t.2.flatMap pr) t.2.length .shared)])]::AObj.cells [(I without)]::o3::AObj.cells (s3.map I)::AObj.cells [(.lst ((s4.drop (1:Int).toNat).map I) (s4.drop (1:Int).toNat).length (.own 1))]::Y81_1).length 0),u11,u12,u13,u14,u15,u16,u17,u18,u19,u20,u21,u22,u23,u24,u25,u26,u27,u28,u29,u30,u31,u32,u33,u34,u35,u36,u37,u38,u39,u40,u41,u42,u43,u44,u45,u46,u47,u48,u49,u50,u51,u52,u53,u54,u55,u56,u57,u58,u59,u60,u61,u62] [35] (rngA Tryz.prog 81 0) (rngB Tryz.prog 81 0) ann81])++Y)++[_]).set (((AObj.cells [(.lptr [(I t.1),(.lst (t.2.flatMap pr) t.2.length .shared)])]::AObj.cells [(I without)]::o3::AObj.cells ((t2.set r2.2.toNat (w ((ix t2 (ix s4 (0:Int)))+(1:Int)))).map I)::AObj.cells [(.lst ((t1++[r2.2]).map I) (t1++[r2.2]).length (.own 1))]::Y81_1)++[AObj.cells [(I (ix s4 (0:Int)))]])).length _) _
   exact ⟨rfl,get_midY _ _ _ _,by rw [set_midY];exact fgt_midY _ _ _ _⟩
  ·rw [hb11]
   conv=>whnf
   replace h:=it_f hb11 h
   obtain rfl:=Option.some.inj h
   show _∧(((((AObj.cells [(.lptr [(I t.1),(.lst (t.2.flatMap pr) t.2.length .shared)])]::AObj.cells [(I without)]::o3::AObj.cells (t2.map I)::AObj.cells [(.lst (t1.map I) t1.length (.own 1))]::Y81_1)++[AObj.cells [(I (ix s4 (0:Int)))]])++[AObj.loop .busy none 81 [u0,u1,u2,(AV.ptr 0 0),u4,(AV.ptr 1 0),u6,(AV.ptr 3 0),u8,(AV.ptr 4 0),(AV.ptr (AObj.cells [(.lptr [(I t.1),(.lst (t.2.flatMap pr) t.2.length .shared)])]::AObj.cells [(I without)]::o3::AObj.cells (s3.map I)::AObj.cells [(.lst ((s4.drop (1:Int).toNat).map I) (s4.drop (1:Int).toNat).length (.own 1))]::Y81_1).length 0),u11,u12,u13,u14,u15,u16,u17,u18,u19,u20,u21,u22,u23,u24,u25,u26,u27,u28,u29,u30,u31,u32,u33,u34,u35,u36,u37,u38,u39,u40,u41,u42,u43,u44,u45,u46,u47,u48,u49,u50,u51,u52,u53,u54,u55,u56,u57,u58,u59,u60,u61,u62] [35] (rngA Tryz.prog 81 0) (rngB Tryz.prog 81 0) ann81])++Y)++[_])[(((AObj.cells [(.lptr [(I t.1),(.lst (t.2.flatMap pr) t.2.length .shared)])]::AObj.cells [(I without)]::o3::AObj.cells (t2.map I)::AObj.cells [(.lst (t1.map I) t1.length (.own 1))]::Y81_1)++[AObj.cells [(I (ix s4 (0:Int)))]])).length]?=_∧Fgt ((((((AObj.cells [(.lptr [(I t.1),(.lst (t.2.flatMap pr) t.2.length .shared)])]::AObj.cells [(I without)]::o3::AObj.cells (t2.map I)::AObj.cells [(.lst (t1.map I) t1.length (.own 1))]::Y81_1)++[AObj.cells [(I (ix s4 (0:Int)))]])++[AObj.loop .busy none 81 [u0,u1,u2,(AV.ptr 0 0),u4,(AV.ptr 1 0),u6,(AV.ptr 3 0),u8,(AV.ptr 4 0),(AV.ptr (AObj.cells [(.lptr [(I t.1),(.lst (t.2.flatMap pr) t.2.length .shared)])]::AObj.cells [(I without)]::o3::AObj.cells (s3.map I)::AObj.cells [(.lst ((s4.drop (1:Int).toNat).map I) (s4.drop (1:Int).toNat).length (.own 1))]::Y81_1).length 0),u11,u12,u13,u14,u15,u16,u17,u18,u19,u20,u21,u22,u23,u24,u25,u26,u27,u28,u29,u30,u31,u32,u33,u34,u35,u36,u37,u38,u39,u40,u41,u42,u43,u44,u45,u46,u47,u48,u49,u50,u51,u52,u53,u54,u55,u56,u57,u58,u59,u60,u61,u62] [35] (rngA Tryz.prog 81 0) (rngB Tryz.prog 81 0) ann81])++Y)++[_]).set (((AObj.cells [(.lptr [(I t.1),(.lst (t.2.flatMap pr) t.2.length .shared)])]::AObj.cells [(I without)]::o3::AObj.cells (t2.map I)::AObj.cells [(.lst (t1.map I) t1.length (.own 1))]::Y81_1)++[AObj.cells [(I (ix s4 (0:Int)))]])).length _) _
   exact ⟨rfl,get_midY _ _ _ _,by rw [set_midY];exact fgt_midY _ _ _ _⟩
 ·rw [hb9]
  conv=>whnf
  replace h:=it_f hb9 h
  obtain rfl:=Option.some.inj h
  show _∧(((((AObj.cells [(.lptr [(I t.1),(.lst (t.2.flatMap pr) t.2.length .shared)])]::AObj.cells [(I without)]::o3::AObj.cells (t2.map I)::AObj.cells [(.lst (t1.map I) t1.length (.own 1))]::Y81_1)++[AObj.cells [(I (ix s4 (0:Int)))]])++[AObj.loop .busy none 81 [u0,u1,u2,(AV.ptr 0 0),u4,(AV.ptr 1 0),u6,(AV.ptr 3 0),u8,(AV.ptr 4 0),(AV.ptr (AObj.cells [(.lptr [(I t.1),(.lst (t.2.flatMap pr) t.2.length .shared)])]::AObj.cells [(I without)]::o3::AObj.cells (s3.map I)::AObj.cells [(.lst ((s4.drop (1:Int).toNat).map I) (s4.drop (1:Int).toNat).length (.own 1))]::Y81_1).length 0),u11,u12,u13,u14,u15,u16,u17,u18,u19,u20,u21,u22,u23,u24,u25,u26,u27,u28,u29,u30,u31,u32,u33,u34,u35,u36,u37,u38,u39,u40,u41,u42,u43,u44,u45,u46,u47,u48,u49,u50,u51,u52,u53,u54,u55,u56,u57,u58,u59,u60,u61,u62] [35] (rngA Tryz.prog 81 0) (rngB Tryz.prog 81 0) ann81])++Y)++[_])[(((AObj.cells [(.lptr [(I t.1),(.lst (t.2.flatMap pr) t.2.length .shared)])]::AObj.cells [(I without)]::o3::AObj.cells (t2.map I)::AObj.cells [(.lst (t1.map I) t1.length (.own 1))]::Y81_1)++[AObj.cells [(I (ix s4 (0:Int)))]])).length]?=_∧Fgt ((((((AObj.cells [(.lptr [(I t.1),(.lst (t.2.flatMap pr) t.2.length .shared)])]::AObj.cells [(I without)]::o3::AObj.cells (t2.map I)::AObj.cells [(.lst (t1.map I) t1.length (.own 1))]::Y81_1)++[AObj.cells [(I (ix s4 (0:Int)))]])++[AObj.loop .busy none 81 [u0,u1,u2,(AV.ptr 0 0),u4,(AV.ptr 1 0),u6,(AV.ptr 3 0),u8,(AV.ptr 4 0),(AV.ptr (AObj.cells [(.lptr [(I t.1),(.lst (t.2.flatMap pr) t.2.length .shared)])]::AObj.cells [(I without)]::o3::AObj.cells (s3.map I)::AObj.cells [(.lst ((s4.drop (1:Int).toNat).map I) (s4.drop (1:Int).toNat).length (.own 1))]::Y81_1).length 0),u11,u12,u13,u14,u15,u16,u17,u18,u19,u20,u21,u22,u23,u24,u25,u26,u27,u28,u29,u30,u31,u32,u33,u34,u35,u36,u37,u38,u39,u40,u41,u42,u43,u44,u45,u46,u47,u48,u49,u50,u51,u52,u53,u54,u55,u56,u57,u58,u59,u60,u61,u62] [35] (rngA Tryz.prog 81 0) (rngB Tryz.prog 81 0) ann81])++Y)++[_]).set (((AObj.cells [(.lptr [(I t.1),(.lst (t.2.flatMap pr) t.2.length .shared)])]::AObj.cells [(I without)]::o3::AObj.cells (t2.map I)::AObj.cells [(.lst (t1.map I) t1.length (.own 1))]::Y81_1)++[AObj.cells [(I (ix s4 (0:Int)))]])).length _) _
  exact ⟨rfl,get_midY _ _ _ _,by rw [set_midY];exact fgt_midY _ _ _ _⟩
theorem x81_l2_ok {t:(Int×(List (Int×Int)))} {without:Int} {kl2_0:(List Int)→Option (List Int)} {s3:(List Int)} {s4:(List Int)} {v:(List Int)} {Q:Ex→List AV→List AObj→Prop}   (hkl2_0:∀ (z2:(List Int)) (u0:AV) (u1:AV) (u2:AV) (u3:AV) (u5:AV) (u8:AV) (u9:AV) (u10:AV) (u11:AV) (u12:AV) (u13:AV) (u14:AV) (u15:AV) (u16:AV) (u17:AV) (u18:AV) (u19:AV) (u20:AV) (u21:AV) (u22:AV) (u23:AV) (u24:AV) (u25:AV) (u26:AV) (u27:AV) (u28:AV) (u29:AV) (u30:AV) (u31:AV) (u32:AV) (u33:AV) (u34:AV) (u35:AV) (u36:AV) (u37:AV) (u38:AV) (u39:AV) (u40:AV) (u41:AV) (u42:AV) (u43:AV) (u44:AV) (u45:AV) (u46:AV) (u47:AV) (u48:AV) (u49:AV) (u50:AV) (u51:AV) (u52:AV) (u53:AV) (u54:AV) (u55:AV) (u56:AV) (u57:AV) (u58:AV) (u59:AV) (u60:AV) (u61:AV) (u62:AV) (o1:AObj) (o2:AObj) (o5:AObj) (Yq:List AObj),kl2_0 z2=some v→Q (.exit 2) [u0,u1,u2,u3,J,u5,(.ptr 2 0),(.ptr 3 0),u8,u9,u10,u11,u12,u13,u14,u15,u16,u17,u18,u19,u20,u21,u22,u23,u24,u25,u26,u27,u28,u29,u30,u31,u32,u33,u34,u35,u36,u37,u38,u39,u40,u41,u42,u43,u44,u45,u46,u47,u48,u49,u50,u51,u52,u53,u54,u55,u56,u57,u58,u59,u60,u61,u62] (o1::o2::AObj.cells ((List.replicate 6 (0:Int)).map I)::AObj.cells (z2.map I)::o5::Yq)) {T:List AV} (hT:zipKeep [o_,o_,o_,i_,o_,i_,i_,i_,o_,i_,o_,o_,o_,o_,o_,o_,o_,o_,o_,o_,o_,o_,o_,o_,o_,o_,o_,o_,o_,o_,o_,o_,o_,o_,o_,o_,o_,o_,o_,o_,o_,o_,o_,o_,o_,o_,o_,o_,o_,o_,o_,o_,o_,o_,o_,o_,o_,o_,o_,o_,o_,o_,o_] T=slots 63 [(3,(.ptr 0 0)),(5,(.ptr 1 0)),(6,(.ptr 2 0)),(7,(.ptr 3 0)),(9,(.ptr 4 0))]) (h:x81_l2 t without kl2_0 FU s3 s4=some v) :
  wpR Tryz.prog ann81 81 0 none xrc81_3 T [AObj.cells [(.lptr [(I t.1),(.lst (t.2.flatMap pr) t.2.length .shared)])],AObj.cells [(I without)],AObj.cells ((List.replicate 6 (0:Int)).map I),AObj.cells (s3.map I),AObj.cells [(.lst (s4.map I) s4.length (.own 1))]] Q:=by
 unfold xrc81_3
 obtain ⟨c_2,g_2⟩:∃ c,xrc81_2=c:=⟨_,rfl⟩
 rw [g_2]
 refine wp_loop hT ?_
 refine .intro (fun m T H=>∃ (s3:(List Int)) (s4:(List Int)) (Y81_1:List AObj),T=slots 63 [(3,(.ptr 0 0)),(5,(.ptr 1 0)),(6,(.ptr 2 0)),(7,(.ptr 3 0)),(9,(.ptr 4 0))]∧H=(AObj.cells [(.lptr [(I t.1),(.lst (t.2.flatMap pr) t.2.length .shared)])]::AObj.cells [(I without)]::AObj.cells ((List.replicate 6 (0:Int)).map I)::AObj.cells (s3.map I)::AObj.cells [(.lst (s4.map I) s4.length (.own 1))]::Y81_1)∧x81_l2 t without kl2_0 m s3 s4=some v) FU ⟨s3,s4,[],rfl,rfl,h⟩ ?_
 clear h hT
 rintro m T H ⟨s3,s4,Y81_1,rfl,rfl,h⟩
 cases m
 ·exact none_ne h
 rename_i m
 rw [x81_l2.eq_2] at h
 conv=>whnf
 rcases bt (decide ((0:Int)<(s4.length:Int))) with hb4 | hb4
 ·rw [hb4]
  conv=>whnf
  replace h:=it_t hb4 h
  obtain ⟨hb5,h⟩:=gd_some h
  refine ⟨hb5,?_⟩
  rw [drop1 I s4 (0:Int) hb5]
  conv=>whnf
  refine nthK_of (x:=AObj.cells [(I (0:Int))]) (by first | with_reducible exact get_concat _ _ | exact get_concat _ _ | exact ga (get_concat _ _) | rfl | (simp [List.getElem?_append,AV.settle];done)) ?_
  conv=>whnf
  rw [set_concat]
  obtain ⟨hb6,h⟩:=gd_some h
  refine ⟨⟨rfl,hb6⟩,?_⟩
  erw [slLoO I s4 (1:Int) hb6]
  conv=>whnf
  refine nthK_of (x:=AObj.cells [(I (ix s4 (0:Int)))]) (by first | with_reducible exact get_concat _ _ | exact get_concat _ _ | exact ga (get_concat _ _) | rfl | (simp [List.getElem?_append,AV.settle];done)) ?_
  conv=>whnf
  obtain ⟨r1,hb7,h⟩:=bd_some h
  refine ⟨(allc (pu_lptr (allc rfl (allc (pu_flat (fun _=>(allc rfl (allc rfl rfl))) _ _ _) rfl))) (allc rfl rfl)),_,x89_ok hb7,?_⟩
  conv=>whnf
  obtain ⟨l1,hb15,h⟩:=bd_some h
  obtain ⟨r3,hb16,h⟩:=bd_some h
  obtain ⟨F_,hF0,hFn,hF⟩:=foldO_states hb16
  subst g_2
  unfold xrc81_2
  refine rng_wp (f:=fun (e1:(Int×Int))=>(.agg [(I e1.1),(I e1.2)])) (s113_ok hb15) (fun i=>((AObj.cells [(.lptr [(I t.1),(.lst (t.2.flatMap pr) t.2.length .shared)])]::AObj.cells [(I without)]::AObj.cells ((List.replicate 6 (0:Int)).map I)::AObj.cells (((F_ i).2).map I)::AObj.cells [(.lst (((F_ i).1).map I) ((F_ i).1).length (.own 1))]::Y81_1)++[AObj.cells [(I (ix s4 (0:Int)))]])) (by exact rfl) (by show ((AObj.cells [(.lptr [(I t.1),(.lst (t.2.flatMap pr) t.2.length .shared)])]::AObj.cells [(I without)]::AObj.cells ((List.replicate 6 (0:Int)).map I)::AObj.cells (((F_ 0).2).map I)::AObj.cells [(.lst (((F_ 0).1).map I) ((F_ 0).1).length (.own 1))]::Y81_1)++[AObj.cells [(I (ix s4 (0:Int)))]])=_;first | (rw [hF0];done) | (rw [hF0];rfl)) (fun _=>rfl) ?_ (rl:=none) (by exact rfl) (Hn:=((AObj.cells [(.lptr [(I t.1),(.lst (t.2.flatMap pr) t.2.length .shared)])]::AObj.cells [(I without)]::AObj.cells ((List.replicate 6 (0:Int)).map I)::AObj.cells (r3.2.map I)::AObj.cells [(.lst (r3.1.map I) r3.1.length (.own 1))]::Y81_1)++[AObj.cells [(I (ix s4 (0:Int)))]])) (by show ((AObj.cells [(.lptr [(I t.1),(.lst (t.2.flatMap pr) t.2.length .shared)])]::AObj.cells [(I without)]::AObj.cells ((List.replicate 6 (0:Int)).map I)::AObj.cells (((F_ l1.length).2).map I)::AObj.cells [(.lst (((F_ l1.length).1).map I) ((F_ l1.length).1).length (.own 1))]::Y81_1)++[AObj.cells [(I (ix s4 (0:Int)))]])=_;first | (rw [hFn];done) | (rw [hFn];rfl)) (fun Yr7=>?_)
  ·intro i hi Y
   exact x81_r1_ok (s3:=s3) (hF i hi) Y
  conv=>whnf
  exact ⟨m,Nat.lt_succ_self m,r3.2,r3.1,_,rfl,rfl,h⟩
 ·rw [hb4]
  conv=>whnf
  replace h:=it_f hb4 h
  exact hkl2_0 _ _ _ _ _ _ _ _ _ _ _ _ _ _ _ _ _ _ _ _ _ _ _ _ _ _ _ _ _ _ _ _ _ _ _ _ _ _ _ _ _ _ _ _ _ _ _ _ _ _ _ _ _ _ _ _ _ _ _ _ _ _ _ _ _ h
theorem x81_ok {t:(Int×(List (Int×Int)))} {to:Int} {without:Int} {v:(List Int)} (h:x81 t to without=some v):PO 81 [(.lptr [(I t.1),(.lst (t.2.flatMap pr) t.2.length .shared)]),(I to),(I without)] (.agg ((v.map I))):=by
 refine fn_pureW hmix lxx81 rfl (pu_agg (pu_run (fun _=>rfl) _)) fun Q hQ=>?_
 have hR:∀ T H,RetW [.cell 6 (.arr 6)] (.agg ((v.map I))) .ret T H→Q .ret T H:=fun T H hh=>hQ _ T H hh
 unfold x81 at h
 unfold xrc81
 obtain ⟨c_1,g_1⟩:∃ c,xrc81_1=c:=⟨_,rfl⟩
 rw [g_1]
 obtain ⟨c_3,g_3⟩:∃ c,xrc81_3=c:=⟨_,rfl⟩
 rw [g_3]
 conv=>whnf
 subst g_1
 refine x81_l1_ok ?_ (by exact rfl) h
 intro z1 u0 u2 u8 u9 u10 u11 u12 u13 u14 u15 u16 u17 u18 u19 u20 u21 u22 u23 u24 u25 u26 u27 u28 u29 u30 u31 u32 u33 u34 u35 u36 u37 u38 u39 u40 u41 u42 u43 u44 u45 u46 u47 u48 u49 u50 u51 u52 u53 u54 u55 u56 u57 u58 u59 u60 u61 u62 h
 conv=>whnf
 obtain ⟨hb3,h⟩:=gd_some h
 refine ⟨⟨hb3.1,hb3.2.1⟩,?_⟩
 replace hb3:0≤to∧to<(z1.length:Int):=⟨hb3.1,by have:=hb3.2;omega⟩
 conv=>whnf
 refine updD I z1 to (0:Int) hb3 ?_
 conv=>whnf
 subst g_3
 refine x81_l2_ok ?_ (by exact rfl) h
 intro z2 u0 u1 u2 u3 u5 u8 u9 u10 u11 u12 u13 u14 u15 u16 u17 u18 u19 u20 u21 u22 u23 u24 u25 u26 u27 u28 u29 u30 u31 u32 u33 u34 u35 u36 u37 u38 u39 u40 u41 u42 u43 u44 u45 u46 u47 u48 u49 u50 u51 u52 u53 u54 u55 u56 u57 u58 u59 u60 u61 u62 o1 o2 o5 Yq h
 conv=>whnf
 obtain ⟨hb17,h⟩:=gd_some h
 refine ⟨by simp [hb17],?_⟩
 rw [ldArrE I z2 (fun _=>rfl) hb17]
 conv=>whnf
 obtain ⟨hb18,h⟩:=gd_some h
 first | (refine stArr I z2 (n:=6) (l:=(List.replicate 6 (0:Int))) (Nat.zero_le _) (fun _=>rfl) (by first | with_reducible exact get_concat _ _ | exact get_concat _ _ | exact ga (get_concat _ _) | rfl | (simp [List.getElem?_append,AV.settle];done)) hb18.1 hb18.2 (by decide) ?_) | (rw [show Nat.beq (List.map I z2).length 6=true from by rw [List.length_map,hb18.1] <;> exact Nat.beq_refl _];refine updsArr I (List.replicate 6 (0:Int)) z2 (fun _=>rfl) (by rw [hb18.1,hb18.2]) ?_)
 conv=>whnf
 obtain ⟨hb19,h⟩:=gd_some h
 obtain rfl:=Option.some.inj h
 exact hR _ _ ⟨.inr rfl,_,readArr (l:=z2) (by rfl) (by first | with_reducible exact get_concat _ _ | exact get_concat _ _ | exact ga (get_concat _ _) | rfl | (simp [List.getElem?_append,AV.settle];done)) hb19,_,frz_pure (pu_agg (pu_run (fun _=>rfl) _)),(by show AV.agg (List.map AV.dim0 (List.map _ _))=_;rw [List.map_map];rfl)⟩
end Go.Proofs.YtfakoboiahbhaaaGreat.Ab


namespace Go.Proofs.YtfakoboiahbhaaaGreat.Ab
open Go
def Ed (b:Bk) (wo f g:Int):Prop:=∃ p∈places b f,p.1≠wo∧fin b p=g
def Wk (b:Bk) (wo:Int):Nat→Int→Int→Prop
 | 0,a,g=>a=g
 | n+1,a,g=>∃ f,Wk b wo n a f∧Ed b wo f g
def stepF (b:Bk) (wo f:Int) (s:List Int×List Int) (p:Int×Int):List Int×List Int :=
 if p.1≠wo∧ix s.2 (fin b p)<0 then (s.1++[fin b p],s.2.set (fin b p).toNat (ix s.2 f+1)) else s
theorem plc_range {n r:Nat} (h:r<2*n):0≤(plc r).1∧(plc r).1<(n:Int)∧0≤(plc r).2∧(plc r).2≤1:=by
 unfold plc;simp only;omega
theorem places_in {b:Bk} {f:Int} {p:Int×Int} (h:p∈places b f):0≤p.1∧p.1<(b.2.length:Int)∧0≤p.2∧p.2≤1∧beg b p=f:=by
 unfold places at h
 obtain ⟨r,hr,rfl⟩:=List.mem_map.1 h
 obtain ⟨h1,h2⟩:=List.mem_filter.1 hr
 have:=plc_range (List.mem_range.1 h1)
 exact ⟨this.1,this.2.1,this.2.2.1,this.2.2.2,by simpa [begs] using h2⟩
theorem ix_mem' {l:List (Int×Int)} {i:Int} (h:0≤i∧i<(l.length:Int)):ix l i∈l:=by
 obtain ⟨k,rfl⟩:∃ k:Nat,i=(k:Int):=⟨i.toNat,by omega⟩
 rw [ix_nat (by omega)];exact List.getElem_mem _
theorem fin_in {b:Bk} (hB:Book b) {f:Int} {p:Int×Int} (h:p∈places b f):0≤fin b p∧fin b p<b.1:=by
 have h:=places_in h
 have hm:=ix_mem' (l:=b.2) ⟨h.1,h.2.1⟩
 unfold fin
 split
 ·exact hB.left _ hm
 ·exact hB.right _ hm
def freeN (D:List Int):Nat:=D.countP fun x=>decide (x<0)
theorem freeN_set:∀ (D:List Int) (j:Nat) (x:Int) (h:j<D.length),D[j]<0→0≤x→freeN (D.set j x)+1=freeN D
 | a::D,0,x,_,h1,h2=>by
   have h1:a<0:=h1
   simp [freeN,List.countP_cons,h1,show ¬ x<0 by omega]
 | a::D,j+1,x,h,h1,h2=>by
   have:=freeN_set D j x (by simpa using h) h1 h2
   simp only [freeN,List.set_cons_succ,List.countP_cons] at this ⊢;omega
theorem x81_r1_eq {b:Bk} (hB:Book b) {wo f:Int} {Q0:List Int} (hf:ix Q0 (0:Int)=f∧0≤f∧f<b.1) {s:List Int×List Int} {p:Int×Int} (hp:p∈places b f) (hl:s.2.length=6) (hr:s.1.length+freeN s.2≤1000) (hd:-1≤ix s.2 f∧ix s.2 f≤100) :
  x81_r1 b wo Q0 s p=some (stepF b wo f s p):=by
 obtain ⟨t1,t2⟩:=s
 have hpl:=places_in hp
 have hfi:=fin_in hB hp
 have h6:=hB.f6
 simp only at hl hr hd
 rw [x81_r1]
 simp only [x68_eq ⟨hpl.1,hpl.2.1⟩,Option.bind_some,hf.1]
 unfold stepF
 by_cases h1:p.1≠wo
 ·rw [if_pos (decide_eq_true h1),gd_pos ⟨by omega,by omega,hl.symm⟩]
  by_cases h2:ix t2 (fin b p)<0
  ·rw [if_pos (decide_eq_true h2),gd_pos ⟨by omega,by omega,hl.symm⟩,gd_pos ⟨by omega,by omega,hl.symm⟩,gd_pos (by omega),w_id (by omega),if_pos ⟨h1,h2⟩]
  ·rw [if_neg (by simpa using h2),if_neg (by simp [h2])]
 ·rw [if_neg (by simpa using h1),if_neg (by simp [h1])]
structure FI (b:Bk) (wo f:Int) (Q0 D0:List Int) (dn:List (Int×Int)) (s:List Int×List Int):Prop where
 len:s.2.length=6
 cnt:s.1.length+freeN s.2=Q0.length+freeN D0
 old:∀ g:Nat,g<6→0≤ix D0 (g:Int)→ix s.2 (g:Int)=ix D0 (g:Int)
 new:∀ g:Nat,g<6→ix D0 (g:Int)<0→ix s.2 (g:Int)=ix D0 (g:Int)∨(ix s.2 (g:Int)=ix D0 f+1∧Ed b wo f (g:Int)∧(g:Int)∈s.1)
 qq:∃ N,s.1=Q0++N∧∀ g∈N,0≤g∧g<b.1∧ix s.2 g=ix D0 f+1
 dn:∀ p∈dn,p.1≠wo→0≤ix s.2 (fin b p)
theorem FI.step {b:Bk} (hB:Book b) {wo f:Int} {Q0 D0:List Int} (hf:0≤f∧f<b.1) (hd:0≤ix D0 f) {dn:List (Int×Int)} {s:List Int×List Int} (h:FI b wo f Q0 D0 dn s) {p:Int×Int} (hp:p∈places b f):FI b wo f Q0 D0 (dn++[p]) (stepF b wo f s p):=by
 obtain ⟨Q,D⟩:=s
 obtain ⟨h1,h2,h3,h4,⟨N,h5,h6⟩,h7⟩:=h
 simp only at h1 h2 h3 h4 h5 h6 h7
 have hfi:=fin_in hB hp
 have hB6:=hB.f6
 obtain ⟨a,ha⟩:∃ a:Nat,fin b p=(a:Int):=⟨(fin b p).toNat,by omega⟩
 obtain ⟨c,hc⟩:∃ c:Nat,f=(c:Int):=⟨f.toNat,by omega⟩
 have hDf:ix D f=ix D0 f:=by rw [hc];exact h3 c (by omega) (by rw [←hc];exact hd)
 unfold stepF
 by_cases hx:p.1≠wo∧ix D (fin b p)<0
 ·rw [if_pos hx,ha,Int.toNat_natCast,hDf]
  have hxa:ix D (a:Int)<0:=by rw [←ha];exact hx.2
  have hD0:ix D0 (a:Int)<0:=by
   refine Classical.byContradiction fun hh=>?_
   have:=h3 a (by omega) (by omega);omega
  have hDa:D[a]'(by omega)<0:=by rw [ix_nat (by omega)] at hxa;exact hxa
  have hself:ix (D.set a (ix D0 f+1)) (a:Int)=ix D0 f+1:=ix_set_self (by omega)
  refine ⟨by simpa using h1,?_,fun g hg hg0=>?_,fun g hg hg0=>?_,⟨N++[(a:Int)],by simp [h5],fun g hg=>?_⟩,fun q hq hqw=>?_⟩
  ·have:=freeN_set D a (ix D0 f+1) (by omega) hDa (by omega)
   simp only [List.length_append,List.length_singleton];omega
  ·have hne:g≠a:=fun e=>by subst e;omega
   simp only;rw [ix_set_ne hne];exact h3 g hg hg0
  ·by_cases hga:g=a
   ·subst hga;exact .inr ⟨hself,⟨p,hp,hx.1,ha⟩,by simp⟩
   ·simp only;rw [ix_set_ne hga]
    rcases h4 g hg hg0 with e | ⟨e,e2,e3⟩
    ·exact .inl e
    ·exact .inr ⟨e,e2,by simp [e3]⟩
  ·rcases List.mem_append.1 hg with hg | hg
   ·obtain ⟨k1,k2,k3⟩:=h6 g hg
    obtain ⟨g',rfl⟩:∃ g':Nat,g=(g':Int):=⟨g.toNat,by omega⟩
    refine ⟨k1,k2,?_⟩
    by_cases hga:g'=a
    ·subst hga;exact hself
    ·simp only;rw [ix_set_ne hga];exact k3
   ·simp only [List.mem_singleton] at hg
    subst hg
    exact ⟨by omega,by omega,hself⟩
  ·have key:0≤ix D (fin b q)∨fin b q=(a:Int):=by
    rcases List.mem_append.1 hq with hq | hq
    ·exact .inl (h7 q hq hqw)
    ·simp only [List.mem_singleton] at hq;subst hq;exact .inr ha
   rcases key with key | key
   ·rcases Classical.em (fin b q=(a:Int)) with e | e
    ·simp only;rw [e,hself];omega
    ·have:ix (D.set a (ix D0 f+1)) (fin b q)=ix D (fin b q):=by
      unfold ix
      rcases Int.lt_or_le (fin b q) 0 with hn | hn
      ·have e0:(fin b q).toNat=0:=by omega
       rw [e0]
       rw [List.getD_eq_getElem?_getD]
       by_cases ha0:a=0
       ·subst ha0
        exfalso
        have k:=key
        unfold ix at k
        rw [e0,List.getD_eq_getElem?_getD] at k
        rw [ix_nat (by omega)] at hxa
        rw [List.getElem?_eq_getElem (by omega)] at k
        simp at k;omega
       ·rw [List.getElem?_set_ne ha0];rfl
      ·rw [List.getD_eq_getElem?_getD,List.getElem?_set_ne (by omega)];rfl
     simp only;rw [this];exact key
   ·simp only;rw [key,hself];omega
 ·rw [if_neg hx]
  refine ⟨h1,h2,h3,h4,⟨N,h5,h6⟩,fun q hq hqw=>?_⟩
  rcases List.mem_append.1 hq with hq | hq
  ·exact h7 q hq hqw
  ·simp only [List.mem_singleton] at hq;subst hq
   have:¬ ix D (fin b q)<0:=fun e=>hx ⟨hqw,e⟩
   simp only;omega
theorem fold_FI {b:Bk} (hB:Book b) {wo f:Int} {Q0 D0:List Int} (hf:0≤f∧f<b.1) (hd:0≤ix D0 f) (hd5:ix D0 f≤50) {Qh:List Int} (hq:ix Qh (0:Int)=f) (hroom:Q0.length+freeN D0≤100):∀ (l dn:List (Int×Int)) (s:List Int×List Int),(∀ p∈l,p∈places b f)→FI b wo f Q0 D0 dn s →
  ∃ s',foldO (x81_r1 b wo Qh) l s=some s'∧FI b wo f Q0 D0 (dn++l) s'
 | [],dn,s,_,h=>⟨s,rfl,by simpa using h⟩
 | p::l,dn,s,hl,h=>by
   have hp:=hl p (by simp)
   have hB6:=hB.f6
   obtain ⟨c,hc⟩:∃ c:Nat,f=(c:Int):=⟨f.toNat,by omega⟩
   have hDf:ix s.2 f=ix D0 f:=by rw [hc];exact h.old c (by omega) (by rw [←hc];exact hd)
   obtain ⟨s',e1,e2⟩:=fold_FI hB hf hd hd5 hq hroom l (dn++[p]) _ (fun q hq=>hl q (by simp [hq])) (h.step hB hf hd hp)
   have hc2:=h.cnt
   refine ⟨s',?_,by simpa using e2⟩
   rw [foldO,x81_r1_eq hB ⟨hq,hf⟩ hp h.len (by omega) (by omega),Option.bind_some]
   exact e1
structure Sta (b:Bk) (wo to:Int) (Q D:List Int):Prop where
 len:D.length=6
 q:∀ f∈Q,0≤f∧f<b.1∧0≤ix D f
 room:Q.length+freeN D≤6
 small:∀ g:Nat,g<6→0≤ix D (g:Int)→ix D (g:Int)+freeN D≤5
 walk:∀ g:Nat,g<6→0≤ix D (g:Int)→Wk b wo (ix D (g:Int)).toNat to (g:Int)
 sort:Q.Pairwise fun x y=>ix D x≤ix D y
 top:∀ f r,Q=f::r→∀ g:Nat,g<6→ix D (g:Int)≤ix D f+1
 proc:∀ g:Nat,g<6→0≤ix D (g:Int)→(g:Int) ∉ Q→∀ h,Ed b wo (g:Int) h→0≤ix D h∧ix D h≤ix D (g:Int)+1
 zero:0≤to∧to<6∧ix D to=0
theorem Ed.in {b:Bk} (hB:Book b) {wo f g:Int} (h:Ed b wo f g):0≤g∧g<b.1:=by
 obtain ⟨p,h1,_,rfl⟩:=h;exact fin_in hB h1
theorem Sta.next {b:Bk} (hB:Book b) {wo to f:Int} {r D:List Int} (h:Sta b wo to (f::r) D) {s:List Int×List Int} (hs:FI b wo f r D (places b f) s):Sta b wo to s.1 s.2:=by
 obtain ⟨Q',D'⟩:=s
 obtain ⟨k1,k2,k3,k4,⟨N,k5,k6⟩,k7⟩:=hs
 simp only at k1 k2 k3 k4 k5 k6 k7
 subst k5
 have hB6:=hB.f6
 have hfq:=h.q f (by simp)
 obtain ⟨c,hc⟩:∃ c:Nat,f=(c:Int):=⟨f.toNat,by omega⟩
 have hnn:∀ g:Int,0≤g→g<6→∃ n:Nat,g=(n:Int)∧n<6:=fun g h1 h2=>⟨g.toNat,by omega,by omega⟩
 have hold:∀ g:Int,0≤g→g<6→0≤ix D g→ix D' g=ix D g:=fun g h1 h2 h3=>by
  obtain ⟨n,rfl,hn⟩:=hnn g h1 h2;exact k3 n hn h3
 have hle:∀ g:Nat,g<6→ix D' (g:Int)≤ix D f+1:=fun g hg=>by
  rcases Int.lt_or_le (ix D (g:Int)) 0 with h0 | h0
  ·rcases k4 g hg h0 with e | e
   ·omega
   ·omega
  ·rw [k3 g hg h0];exact h.top f r rfl g hg
 have hr:∀ x∈r,0≤x∧x<b.1∧0≤ix D x∧ix D' x=ix D x:=fun x hx=>by
  have:=h.q x (by simp [hx]);exact ⟨this.1,this.2.1,this.2.2,hold x this.1 (by omega) this.2.2⟩
 have hsort:=List.pairwise_cons.1 h.sort
 have hroom:=h.room
 simp only [List.length_cons] at hroom
 refine ⟨k1,fun g hg=>?_,by simp only;omega,fun g hg h0=>?_,fun g hg h0=>?_,?_,fun f' r' he g hg=>?_,fun g hg h0 hnq h' he=>?_,⟨h.zero.1,h.zero.2.1,by simp only;rw [hold to h.zero.1 h.zero.2.1 (by have:=h.zero.2.2;omega)];exact h.zero.2.2⟩⟩
 ·rcases List.mem_append.1 hg with hg | hg
  ·have:=hr g hg;exact ⟨this.1,this.2.1,by simp only;omega⟩
  ·have:=k6 g hg;exact ⟨this.1,this.2.1,by simp only;omega⟩
 ·have hfs:=h.small c (by omega) (by rw [←hc];omega)
  rw [←hc] at hfs
  simp only [List.length_append] at k2
  rcases Int.lt_or_le (ix D (g:Int)) 0 with h1 | h1
  ·rcases k4 g hg h1 with e | e
   ·simp only at h0;omega
   ·have hN:1≤N.length:=by
     rcases List.mem_append.1 e.2.2 with e3 | e3
     ·have:=(hr _ e3).2.2.1;omega
     ·exact List.length_pos_of_mem e3
    simp only;omega
  ·have:=h.small g hg h1
   simp only;rw [k3 g hg h1];omega
 ·rcases Int.lt_or_le (ix D (g:Int)) 0 with h1 | h1
  ·rcases k4 g hg h1 with e | ⟨e,e2,_⟩
   ·simp only at h0;omega
   ·simp only;rw [e,show (ix D f+1).toNat=(ix D f).toNat+1 by omega]
    exact ⟨f,by have:=h.walk c (by omega) (by rw [←hc];omega);rw [hc];rw [←hc] at this ⊢;exact this,e2⟩
  ·simp only;rw [k3 g hg h1];exact h.walk g hg h1
 ·simp only
  rw [List.pairwise_append]
  refine ⟨hsort.2.imp_of_mem fun {x y} hx hy hxy=>by rw [(hr x hx).2.2.2,(hr y hy).2.2.2];exact hxy,?_,fun x hx y hy=>?_⟩
  ·exact List.Pairwise.imp_of_mem (R:=fun _ _=>True) (fun {x y} hx hy _=>by rw [(k6 x hx).2.2,(k6 y hy).2.2];omega) (List.pairwise_of_forall fun _ _=>trivial)
  ·obtain ⟨n,rfl,hn⟩:=hnn x (hr x hx).1 (by have:=(hr x hx).2.1;omega)
   rw [(k6 y hy).2.2];exact hle n hn
 ·simp only at he ⊢
  have hf':ix D f≤ix D' f':=by
   have hm:f'∈r++N:=by rw [he];simp
   rcases List.mem_append.1 hm with hm | hm
   ·rw [(hr f' hm).2.2.2];exact hsort.1 f' hm
   ·rw [(k6 f' hm).2.2];omega
  have:=hle g hg;omega
 ·simp only at h0 hnq ⊢
  have hh:=Ed.in hB he
  rcases Classical.em ((g:Int)=f) with e | e
  ·rw [e] at he ⊢
   obtain ⟨n,rfl,hn⟩:=hnn h' hh.1 (by omega)
   rw [hold f hfq.1 (by omega) hfq.2.2]
   obtain ⟨p,p1,p2,p3⟩:=he
   exact ⟨by rw [←p3];exact k7 p p1 p2,hle n hn⟩
  ·rcases Int.lt_or_le (ix D (g:Int)) 0 with h1 | h1
   ·rcases k4 g hg h1 with e2 | ⟨_,_,e3⟩
    ·omega
    ·exact absurd e3 hnq
   ·have:=h.proc g hg h1 (fun hm=>by
     rcases List.mem_cons.1 hm with e2 | e2
     ·exact e e2
     ·exact hnq (List.mem_append_left _ e2)) h' he
    rw [k3 g hg h1,hold h' hh.1 (by omega) this.1]
    exact this
theorem x81_l2_eq {b:Bk} (hB:Book b) {wo to:Int} {k:List Int→Option (List Int)}:∀ (m:Nat) (Q D:List Int),Sta b wo to Q D→Q.length+freeN D<m→∃ D',Sta b wo to [] D'∧x81_l2 b wo k m D Q=k D'
 | 0,_,_,_,h=>absurd h (by omega)
 | m+1,Q,D,hS,hm=>by
   rw [x81_l2]
   have hB6:=hB.f6
   have hl:=hB.len
   cases Q with
   | nil=>rw [if_neg (by simp)];exact ⟨D,hS,rfl⟩
   | cons f r =>
     have hf:=hS.q f (by simp)
     obtain ⟨c,hc⟩:∃ c:Nat,f=(c:Int):=⟨f.toNat,by omega⟩
     have hsm:=hS.small c (by omega) (by rw [←hc];omega)
     rw [←hc] at hsm
     have hroom:=hS.room
     simp only [List.length_cons] at hroom hm
     obtain ⟨s',e1,e2⟩:=fold_FI hB ⟨hf.1,hf.2.1⟩ hf.2.2 (by omega) (Qh:=f::r) rfl (by omega) (Q0:=r) (D0:=D) (wo:=wo) (places b f) [] (r,D) (fun p h=>h) ⟨hS.len,rfl,fun _ _ _=>rfl,fun _ _ _=>.inl rfl,⟨[],by simp,by simp⟩,by simp⟩
     rw [List.nil_append] at e2
     have hc2:=e2.cnt
     obtain ⟨D',d1,d2⟩:=x81_l2_eq hB m s'.1 s'.2 (Sta.next hB hS e2) (by omega)
     refine ⟨D',d1,?_⟩
     rw [if_pos (decide_eq_true (by simp)),gd_pos (by simp),gd_pos ⟨by omega,by simp only [List.length_cons];omega⟩,show ix (f::r) (0:Int)=f from rfl,x89,Option.bind_some,s113,if_pos (by omega),Option.bind_some]
     show ((foldO (x81_r1 b wo (f::r)) (places b f) (r,D)).bind _)=_
     rw [e1,Option.bind_some]
     exact d2
structure FarD (b:Bk) (wo to:Int) (D:List Int):Prop where
 len:D.length=6
 walk:∀ g:Nat,g<6→0≤ix D (g:Int)→Wk b wo (ix D (g:Int)).toNat to (g:Int)
 least:∀ (n:Nat) (g:Int),Wk b wo n to g→0≤g∧g<6∧0≤ix D g∧ix D g≤n
 small:∀ g:Nat,g<6→ix D (g:Int)≤5
theorem Sta.far {b:Bk} (hB:Book b) {wo to:Int} {D:List Int} (h:Sta b wo to [] D):FarD b wo to D:=by
 have hB6:=hB.f6
 refine ⟨h.len,h.walk,fun n=>?_,fun g hg=>?_⟩
 ·induction n with
  | zero =>
    intro g hg
    have hg:to=g:=hg
    subst hg
    have:=h.zero;exact ⟨this.1,this.2.1,by omega,by omega⟩
  | succ n ih =>
    rintro g ⟨f,h1,h2⟩
    obtain ⟨i1,i2,i3,i4⟩:=ih f h1
    obtain ⟨c,rfl⟩:∃ c:Nat,f=(c:Int):=⟨f.toNat,by omega⟩
    have hp:=h.proc c (by omega) i3 (by simp) g h2
    have hi:=Ed.in hB h2
    exact ⟨hi.1,by omega,hp.1,by omega⟩
 ·rcases Int.lt_or_le (ix D (g:Int)) 0 with h1 | h1
  ·omega
  ·have:=h.small g hg h1;omega
theorem x81_l1_eq {k:List Int→Option (List Int)}:∀ (m i:Nat) (z:Int) (D:List Int),z=i→i≤6→6-i<m→D.length=6→(∀ j:Nat,j<i→ix D (j:Int)=-1)→x81_l1 k m z D=k (List.replicate 6 (-1))
 | 0,i,_,_,_,_,h,_,_=>absurd h (by omega)
 | m+1,i,_,D,rfl,hi,hm,hl,hD=>by
   rw [x81_l1]
   by_cases h:i<6
   ·rw [if_pos (decide_eq_true (by omega)),gd_pos ⟨by omega,by omega,hl.symm⟩,w_succ i (by omega),Int.toNat_natCast]
    refine x81_l1_eq m (i+1) _ _ rfl (by omega) (by omega) (by simpa using hl) fun j hj=>?_
    by_cases hji:j=i
    ·subst hji;exact ix_set_self (by omega)
    ·rw [ix_set_ne hji];exact hD j (by omega)
   ·rw [if_neg (by simp;omega)]
    congr 1
    refine List.ext_getElem (by simp [hl]) fun j h1 h2=>?_
    have:=hD j (by omega)
    rw [ix_nat h1] at this
    rw [this,List.getElem_replicate]
theorem x81_eq {b:Bk} (hB:Book b) {wo to:Int} (ht:0≤to∧to<b.1):∃ D,x81 b to wo=some D∧FarD b wo to D:=by
 have hB6:=hB.f6
 obtain ⟨c,hc⟩:∃ c:Nat,to=(c:Int):=⟨to.toNat,by omega⟩
 subst hc
 have hself:ix ((List.replicate 6 (-1:Int)).set c 0) (c:Int)=0:=ix_set_self (by simp;omega)
 have hoth:∀ g:Nat,g<6→g≠c→ix ((List.replicate 6 (-1:Int)).set c 0) (g:Int)=-1:=fun g hg hne=>by
  rw [ix_set_ne hne,ix_nat (by rw [List.length_replicate];omega),List.getElem_replicate]
 have hfree:freeN ((List.replicate 6 (-1:Int)).set c 0)=5:=by
  have:=freeN_set (List.replicate 6 (-1:Int)) c 0 (by rw [List.length_replicate];omega) (by rw [List.getElem_replicate];omega) (by omega)
  have e:freeN (List.replicate 6 (-1:Int))=6:=by decide
  omega
 have hS:Sta b wo (c:Int) [(c:Int)] ((List.replicate 6 (-1:Int)).set c 0):=by
  refine ⟨by simp,fun f hf=>?_,by rw [hfree];simp,fun g hg h0=>?_,fun g hg h0=>?_,by simp,fun f r he g hg=>?_,fun g hg h0 hn h he=>?_,⟨by omega,by omega,hself⟩⟩
  ·simp only [List.mem_singleton] at hf;subst hf;exact ⟨ht.1,ht.2,by rw [hself];omega⟩
  ·by_cases e:g=c
   ·subst e;rw [hself,hfree];omega
   ·rw [hoth g hg e] at h0;omega
  ·by_cases e:g=c
   ·subst e;rw [hself];exact rfl
   ·rw [hoth g hg e] at h0;omega
  ·simp only [List.cons.injEq] at he
   obtain ⟨rfl,_⟩:=he
   rw [hself]
   by_cases e:g=c
   ·subst e;rw [hself];omega
   ·rw [hoth g hg e];omega
  ·by_cases e:g=c
   ·subst e;simp at hn
   ·rw [hoth g hg e] at h0;omega
 obtain ⟨D,d1,d2⟩:=x81_l2_eq hB (k:=fun z2 =>
         gd (z2.length=6) <|
         gd (z2.length=6∧(List.replicate 6 (0:Int)).length=6) <|
         gd (z2.length=6) <|
         some z2) FU _ _ hS (FU_lt (by rw [hfree];simp))
 refine ⟨D,?_,Sta.far hB d1⟩
 rw [x81,x81_l1_eq FU 0 0 _ rfl (by omega) (FU_lt (by omega)) (by simp) (fun j hj=>absurd hj (by omega)),gd_pos ⟨by omega,by omega,by simp⟩,Int.toNat_natCast,d2]
 have:=d1.len
 rw [gd_pos this,gd_pos ⟨this,by simp⟩,gd_pos this]
end Go.Proofs.YtfakoboiahbhaaaGreat.Ab


namespace Go.Proofs.YtfakoboiahbhaaaGreat.Ab
open Go
set_option maxRecDepth 20000
set_option maxHeartbeats 4000000
noncomputable def xrc45_1:RC :=
 .rng (.sl 50) [51] (rngA Tryz.prog 45 0) (rngB Tryz.prog 45 0)
noncomputable def xrc45_2:RC :=
 .loop (some [o_,o_,i_,o_,i_,o_,o_,o_,i_,o_,i_,i_,o_,o_,o_,o_,o_,o_,o_,o_,o_,o_,o_,o_,o_,o_,o_,o_,o_,o_,o_,o_,o_,o_,o_,o_,o_,o_,o_,o_,o_,o_,o_,o_,o_,o_,o_,o_,o_,o_,o_,o_,o_,o_,o_,o_,o_,o_,o_,o_,o_,o_,o_,o_,o_,o_,o_,o_,o_,o_,o_,o_]) (.seq (.seq (.reg false [I_ 45 [.sl 4] (.ld .one),I_ 46 [.sl 2] .mv,I_ 47 [.tv 45,.tv 46] (.bin .neq)]) (.cond (.sl 47) .skip (.exit 1))) (.block 2 (.seq (.reg
 false [I_ 48 [.sl 8] (.ld .one),I_ 49 [.sl 4] (.ld .one),I_ 50 [.cv (.func 89 [] []),.sl 48,.sl 49] (.call 3)]) (.block 3 xrc45_1))))
noncomputable def xrc45:RC :=
 .seq (.reg false [I_ 3 [.tk 0] .box,I_ 4 [.tk 1] .box,I_ 6 [.cv (.lst [] 0 .full)] (.nil 2),I_ 7 [.cv (.int .i64 0)] .mv]) (.seq (.reg false [I_ 16 [.sl 3] (.ld (.str 2)),I_ 17 [.cv (.func 64 [] []),.sl 16] (.call 3),I_ 15
 [.tk 17] .mv,I_ 18 [.sl 15] (.ext 0),I_ 19 [.tv 15] (.ext 1),I_ 8 [] (.alloc [.nilp]),⟨none,[.sl 8,.tk 18],none,none,.st 1⟩,I_ 9 [.tk 19] .mv]) (.seq (.block 0 (.seq (.reg false [I_ 21 [.sl 9] .mv,I_ 22 [.tv 21,.cv
 (.int .i64 0)] (.bin .neq),I_ 20 [.tk 22] .mv]) (.cond (.sl 20) (.seq (.reg false [I_ 23 [.tk 9] .mv,I_ 6 [.cv (.lst [] 0 .full)] (.nil 2),I_ 7 [.tk 23] .mv]) .ret) (.seq (.reg false [I_ 25 [.tv 3] (.fa 0),I_ 26 [.tv 25]
 (.ld .one),I_ 27 [.tv 26,.cv (.int .i64 1)] (.bin .sub),I_ 28 [.sl 4] (.ld .one),I_ 29 [.sl 2] .mv,I_ 30 [.tv 28,.tv 29] (.buildS 2 1 [.int .i64 0] [0,1]),I_ 31 [.cv (.func 66 [] []),.cv (.int .i64 0),.sl 27,.sl 30]
 (.call 3),I_ 32 [.tv 31] (.un .not),I_ 33 [.tk 32] .mv,⟨some 34,[.sl 4],some (33,false),none,.ld .one⟩,⟨some 35,[.sl 2],some (33,false),none,.mv⟩,⟨some 36,[.tv 34,.tv 35],some (33,false),none,.bin .eql⟩,I_
 37 [.tv 33,.cv (.bool true),.tv 36] .pick,I_ 24 [.tk 37] .mv]) (.cond (.sl 24) (.seq (.reg false [I_ 6 [.cv (.lst [] 0 .full)] (.nil 2),I_ 7 [.cv (.int .i64 2)] .mv]) .ret) .skip))))) (.seq (.reg false [I_ 38 [.sl 8] (.ld
 .one),I_ 39 [.sl 2] .mv,I_ 40 [.cv (.func 81 [] []),.sl 38,.sl 39,.cv (.int .i64 (-1))] (.call 3),I_ 10 [] (.alloc [.int .i64 0,.int .i64 0,.int .i64 0,.int .i64 0,.int .i64 0,.int .i64 0]),⟨none,[.sl 10,.tk 40],
 none,none,.st 6⟩]) (.seq (.seq (.reg false [I_ 41 [.sl 4] (.ld .one),I_ 42 [.sl 10,.tv 41] (.iaA 6 1),I_ 43 [.tv 42] (.ld .one),I_ 44 [.tv 43,.cv (.int .i64 0)] (.bin .lss)]) (.cond (.sl 44) (.seq (.reg false [I_ 6 [.cv
 (.lst [] 0 .full)] (.nil 2),I_ 7 [.cv (.int .i64 5)] .mv]) .ret) .skip)) (.seq (.reg false [I_ 11 [] (.alloc [.lst [] 0 (.own 2)])]) (.seq (.block 1 xrc45_2) (.seq (.reg false [I_ 71 [.tv 11] (.ld .one),I_ 6 [.tk 71] .mv,I_
 7 [.cv (.int .i64 0)] .mv]) .ret)))))))
noncomputable def xrc45_A0:RC :=
 .reg false [I_ 12 [] (.alloc [.int .i64 0,.int .i64 0]),⟨none,[.sl 12,.tk 51],none,none,.st 2⟩]
theorem lxx45_A0:linkC Tryz.prog ann45 (rngA Tryz.prog 45 0) 0=some xrc45_A0:=by kernel_rfl
noncomputable def xrc45_B0:RC :=
 .block 4 (.seq (.reg false [I_ 53 [.tv 8] (.ld .one),I_ 54 [.sl 12] (.ld (.str 2)),I_ 55 [.cv (.func 68 [] []),.sl 53,.sl 54] (.call 3),I_ 52 [.tk 55] .mv,I_ 56 [.sl 52] (.ext 0),I_ 57 [.tv 52] (.ext 1),I_ 13 [.tk 56]
 .mv,I_ 14 [.tk 57] .mv]) (.seq (.reg true [I_ 58 [.sl 14] .mv,I_ 59 [.sl 10,.tv 58] (.iaA 6 1),I_ 60 [.tv 59] (.ld .one),I_ 61 [.sl 4] (.ld .one),I_ 62 [.sl 10,.tv 61] (.iaA 6 1),I_ 63 [.tv 62] (.ld .one),I_ 64 [.tv
 63,.cv (.int .i64 1)] (.bin .sub),I_ 65 [.tv 60,.tv 64] (.bin .eql)]) (.cond (.sl 65) (.seq (.reg false [I_ 66 [.sl 11] .take,I_ 67 [.tv 12] (.ld (.str 2)),I_ 68 [.tv 67] (.buildS 1 2 [.int .i64 0,.int .i64 0] [0]),I_ 69
 [.tk 66,.tk 68] (.app 2 16),I_ 70 [.tk 14] .mv,⟨none,[.tk 11,.tk 69],none,none,.st 1⟩,⟨none,[.tk 4,.tk 70],none,none,.st 1⟩]) (.exit 3)) .skip)))
theorem lxx45_B0:linkC Tryz.prog ann45 (rngB Tryz.prog 45 0) 0=some xrc45_B0:=by kernel_rfl
theorem lxx45:linkF Tryz.prog ann45 45=some (xrc45,72,[.tmp 6,.tmp 7]):=by kernel_rfl
def x45_r1 (p1:(Int×(List (Int×Int)))) (r4:(List Int)) (st_:Int×(List (Int×Int))) (e1:(Int×Int)):Option ((Int×(List (Int×Int)))×Bool) :=
 match st_ with
 | (t1,t2) =>
   (x68 p1 e1).bind fun r6 =>
   gd (0≤r6.2∧r6.2<(6:Int)∧6=r4.length) <|
   gd (0≤t1∧t1<(6:Int)∧6=r4.length) <|
   if (decide ((ix r4 r6.2)=(w ((ix r4 t1)-(1:Int)))))=true then
    gd ((t2.length+1)*16≤140737488355328) <|
    some ((r6.2,(t2++[e1])),true)
   else
    some ((t1,t2),false)
def x45_l1 (to:Int) (p1:(Int×(List (Int×Int)))) (r4:(List Int)) (kl1_0:(List (Int×Int))→Option ((List (Int×Int))×Int)):Nat→Int→(List (Int×Int))→Option ((List (Int×Int))×Int)
 | 0,_,_=>none
 | m+1,s1,s2 =>
   if (decide (s1≠to))=true then
    (x89 p1 s1).bind fun r5 =>
    (s113 p1 s1).bind fun l1 =>
    (foldX (x45_r1 p1 r4) l1 (s1,s2)).bind fun r7 =>
    if r7.2=true then
     x45_l1 to p1 r4 kl1_0 m r7.1.1 r7.1.2
    else
     x45_l1 to p1 r4 kl1_0 m r7.1.1 r7.1.2
   else
    kl1_0 s2
def x45 (b:(Int×(List (Int×Int)))) (fromq:Int) (to:Int):Option ((List (Int×Int))×Int) :=
 (x64 b).bind fun r1 =>
 match r1 with
 | (none,q1) =>
   if (decide (q1≠(0:Int)))=true then
    some ([],q1)
   else
    (x66 (0:Int) (w (b.1-(1:Int))) [fromq,to]).bind fun r2 =>
    if r2=true then
     if (decide (fromq=to))=true then
      some ([],(2:Int))
     else
      none
    else
     some ([],(2:Int))
 | (some p1,q1) =>
   if (decide (q1≠(0:Int)))=true then
    some ([],q1)
   else
    (x66 (0:Int) (w (b.1-(1:Int))) [fromq,to]).bind fun r3 =>
    if r3=true then
     if (decide (fromq=to))=true then
      some ([],(2:Int))
     else
      (x81 p1 to (-1:Int)).bind fun r4 =>
      gd (r4.length=6∧(List.replicate 6 (0:Int)).length=6) <|
      gd (0≤fromq∧fromq<(6:Int)∧6=r4.length) <|
      if (decide ((ix r4 fromq)<(0:Int)))=true then
       some ([],(5:Int))
      else
       x45_l1 to p1 r4 (fun z1 =>
         some (z1,(0:Int))) FU fromq ([]:List (Int×Int))
    else
     some ([],(2:Int))
theorem x45_r1_ok {p1:(Int×(List (Int×Int)))} {r4:(List Int)} {t1:Int} {t2:(List (Int×Int))} {e1:(Int×Int)} {u0:AV} {u1:AV} {u2:AV} {u3:AV} {u5:AV} {u6:AV} {u7:AV} {u9:AV} {u12:AV} {u13:AV} {u14:AV} {u15:AV} {u16:AV} {u17:AV} {u18:AV} {u19:AV} {u20:AV} {u21:AV} {u22:AV} {u23:AV} {u24:AV} {u25:AV} {u26:AV} {u27:AV} {u28:AV} {u29:AV} {u30:AV} {u31:AV} {u32:AV} {u33:AV} {u34:AV} {u35:AV} {u36:AV} {u37:AV} {u38:AV} {u39:AV} {u40:AV} {u41:AV} {u42:AV} {u43:AV} {u44:AV} {u45:AV} {u46:AV} {u47:AV} {u48:AV} {u49:AV} {u50:AV} {u51:AV} {u52:AV} {u53:AV} {u54:AV} {u55:AV} {u56:AV} {u57:AV} {u58:AV} {u59:AV} {u60:AV} {u61:AV} {u62:AV} {u63:AV} {u64:AV} {u65:AV} {u66:AV} {u67:AV} {u68:AV} {u69:AV} {u70:AV} {u71:AV} {o1:AObj} {Y45_1:List AObj} {v_:Int×(List (Int×Int))} (h:x45_r1 p1 r4 (t1,t2) e1=some (v_,false)) (Y:List AObj) :
  ∃ Y',Sem Tryz.prog (.yield ((o1::AObj.cells [(I t1)]::AObj.cells [(.lptr [(I p1.1),(.lst (p1.2.flatMap pr) p1.2.length .shared)])]::AObj.cells (r4.map I)::AObj.cells [(.lst (t2.flatMap pr) t2.length (.own 2))]::Y45_1)).length) [(.agg [(I e1.1),(I e1.2)])] (((o1::AObj.cells [(I t1)]::AObj.cells [(.lptr [(I p1.1),(.lst (p1.2.flatMap pr) p1.2.length .shared)])]::AObj.cells (r4.map I)::AObj.cells [(.lst (t2.flatMap pr) t2.length (.own 2))]::Y45_1)++[AObj.loop .ready none 45 [u0,u1,u2,u3,(.ptr 1 0),u5,u6,u7,(.ptr 2 0),u9,(.ptr 3 0),(.ptr 4 0),u12,u13,u14,u15,u16,u17,u18,u19,u20,u21,u22,u23,u24,u25,u26,u27,u28,u29,u30,u31,u32,u33,u34,u35,u36,u37,u38,u39,u40,u41,u42,u43,u44,u45,u46,u47,u48,u49,u50,u51,u52,u53,u54,u55,u56,u57,u58,u59,u60,u61,u62,u63,u64,u65,u66,u67,u68,u69,u70,u71] [51] (rngA Tryz.prog 45 0) (rngB Tryz.prog 45 0) ann45])++Y) 0 (.bool true) (((o1::AObj.cells [(I v_.1)]::AObj.cells [(.lptr [(I p1.1),(.lst (p1.2.flatMap pr) p1.2.length .shared)])]::AObj.cells (r4.map I)::AObj.cells [(.lst (v_.2.flatMap pr) v_.2.length (.own 2))]::Y45_1)++[AObj.loop .ready none 45 [u0,u1,u2,u3,(.ptr 1 0),u5,u6,u7,(.ptr 2 0),u9,(.ptr 3 0),(.ptr 4 0),u12,u13,u14,u15,u16,u17,u18,u19,u20,u21,u22,u23,u24,u25,u26,u27,u28,u29,u30,u31,u32,u33,u34,u35,u36,u37,u38,u39,u40,u41,u42,u43,u44,u45,u46,u47,u48,u49,u50,u51,u52,u53,u54,u55,u56,u57,u58,u59,u60,u61,u62,u63,u64,u65,u66,u67,u68,u69,u70,u71] [51] (rngA Tryz.prog 45 0) (rngB Tryz.prog 45 0) ann45])++Y'):=by
 unfold x45_r1 at h
 refine ⟨Y++[.dead],sem_round hmix lxx45_A0 lxx45_B0 (get_mid _ _ _) rfl (low0 (by simp)) ?_⟩
 unfold xrc45_A0
 conv=>whnf
 refine nthK_of (x:=AObj.cells [(I (0:Int)),(I (0:Int))]) (by first | with_reducible exact get_concat _ _ | exact get_concat _ _ | exact ga (get_concat _ _) | rfl | (simp [List.getElem?_append,AV.settle];done)) ?_
 conv=>whnf
 rw [set_concat]
 refine ⟨rfl,get_midY _ _ _ _,?_⟩
 rw [set_midY]
 unfold xrc45_B0
 conv=>whnf
 refine nthK_of (x:=AObj.cells [(I e1.1),(I e1.2)]) (by first | with_reducible exact get_concat _ _ | exact get_concat _ _ | exact ga (get_concat _ _) | rfl | (simp [List.getElem?_append,AV.settle];done)) ?_
 conv=>whnf
 obtain ⟨r6,hb14,h⟩:=bd_some h
 refine ⟨(allc (pu_lptr (allc rfl (allc (pu_flat (fun _=>(allc rfl (allc rfl rfl))) _ _ _) rfl))) (allc (pu_agg (allc rfl (allc rfl rfl))) rfl)),_,x68_ok hb14,?_⟩
 conv=>whnf
 obtain ⟨hb15,h⟩:=gd_some h
 refine ⟨⟨hb15.1,hb15.2.1⟩,?_⟩
 replace hb15:0≤r6.2∧r6.2<(r4.length:Int):=⟨hb15.1,by have:=hb15.2;omega⟩
 conv=>whnf
 refine rdD I r4 r6.2 hb15 ?_
 conv=>whnf
 obtain ⟨hb16,h⟩:=gd_some h
 refine ⟨⟨hb16.1,hb16.2.1⟩,?_⟩
 replace hb16:0≤t1∧t1<(r4.length:Int):=⟨hb16.1,by have:=hb16.2;omega⟩
 conv=>whnf
 refine rdD I r4 t1 hb16 ?_
 conv=>whnf
 rcases bt (decide ((ix r4 r6.2)=(w ((ix r4 t1)-(1:Int))))) with hb17 | hb17
 ·rw [hb17]
  conv=>whnf
  replace h:=it_t hb17 h
  refine nthK_of (x:=AObj.cells [(I e1.1),(I e1.2)]) (by first | with_reducible exact get_concat _ _ | exact get_concat _ _ | exact ga (get_concat _ _) | rfl | (simp [List.getElem?_append,AV.settle];done)) ?_
  conv=>whnf
  obtain ⟨hb18,h⟩:=gd_some h
  refine ⟨by first | rfl | (simp;done) | exact flatLen pr _ pr_len _,by have:=hb18;omega,rfl,hb18,?_⟩
  erw [apndS pr t2 e1]
  conv=>whnf
  exact absurd (congrArg (fun q=>q.2) (Option.some.inj h)) (by simp)
 ·rw [hb17]
  conv=>whnf
  replace h:=it_f hb17 h
  obtain rfl:=congrArg (fun q=>q.1) (Option.some.inj h)
  show _∧((((o1::AObj.cells [(I t1)]::AObj.cells [(.lptr [(I p1.1),(.lst (p1.2.flatMap pr) p1.2.length .shared)])]::AObj.cells (r4.map I)::AObj.cells [(.lst (t2.flatMap pr) t2.length (.own 2))]::Y45_1)++[AObj.loop .busy none 45 [u0,u1,u2,u3,(AV.ptr 1 0),u5,u6,u7,(AV.ptr 2 0),u9,(AV.ptr 3 0),(AV.ptr 4 0),u12,u13,u14,u15,u16,u17,u18,u19,u20,u21,u22,u23,u24,u25,u26,u27,u28,u29,u30,u31,u32,u33,u34,u35,u36,u37,u38,u39,u40,u41,u42,u43,u44,u45,u46,u47,u48,u49,u50,u51,u52,u53,u54,u55,u56,u57,u58,u59,u60,u61,u62,u63,u64,u65,u66,u67,u68,u69,u70,u71] [51] (rngA Tryz.prog 45 0) (rngB Tryz.prog 45 0) ann45])++Y)++[_])[((o1::AObj.cells [(I t1)]::AObj.cells [(.lptr [(I p1.1),(.lst (p1.2.flatMap pr) p1.2.length .shared)])]::AObj.cells (r4.map I)::AObj.cells [(.lst (t2.flatMap pr) t2.length (.own 2))]::Y45_1)).length]?=_∧Fgt (((((o1::AObj.cells [(I t1)]::AObj.cells [(.lptr [(I p1.1),(.lst (p1.2.flatMap pr) p1.2.length .shared)])]::AObj.cells (r4.map I)::AObj.cells [(.lst (t2.flatMap pr) t2.length (.own 2))]::Y45_1)++[AObj.loop .busy none 45 [u0,u1,u2,u3,(AV.ptr 1 0),u5,u6,u7,(AV.ptr 2 0),u9,(AV.ptr 3 0),(AV.ptr 4 0),u12,u13,u14,u15,u16,u17,u18,u19,u20,u21,u22,u23,u24,u25,u26,u27,u28,u29,u30,u31,u32,u33,u34,u35,u36,u37,u38,u39,u40,u41,u42,u43,u44,u45,u46,u47,u48,u49,u50,u51,u52,u53,u54,u55,u56,u57,u58,u59,u60,u61,u62,u63,u64,u65,u66,u67,u68,u69,u70,u71] [51] (rngA Tryz.prog 45 0) (rngB Tryz.prog 45 0) ann45])++Y)++[_]).set ((o1::AObj.cells [(I t1)]::AObj.cells [(.lptr [(I p1.1),(.lst (p1.2.flatMap pr) p1.2.length .shared)])]::AObj.cells (r4.map I)::AObj.cells [(.lst (t2.flatMap pr) t2.length (.own 2))]::Y45_1)).length _) _
  exact ⟨rfl,get_midY _ _ _ _,by rw [set_midY];exact fgt_midY _ _ _ _⟩
theorem x45_r1_okX {p1:(Int×(List (Int×Int)))} {r4:(List Int)} {t1:Int} {t2:(List (Int×Int))} {e1:(Int×Int)} {u0:AV} {u1:AV} {u2:AV} {u3:AV} {u5:AV} {u6:AV} {u7:AV} {u9:AV} {u12:AV} {u13:AV} {u14:AV} {u15:AV} {u16:AV} {u17:AV} {u18:AV} {u19:AV} {u20:AV} {u21:AV} {u22:AV} {u23:AV} {u24:AV} {u25:AV} {u26:AV} {u27:AV} {u28:AV} {u29:AV} {u30:AV} {u31:AV} {u32:AV} {u33:AV} {u34:AV} {u35:AV} {u36:AV} {u37:AV} {u38:AV} {u39:AV} {u40:AV} {u41:AV} {u42:AV} {u43:AV} {u44:AV} {u45:AV} {u46:AV} {u47:AV} {u48:AV} {u49:AV} {u50:AV} {u51:AV} {u52:AV} {u53:AV} {u54:AV} {u55:AV} {u56:AV} {u57:AV} {u58:AV} {u59:AV} {u60:AV} {u61:AV} {u62:AV} {u63:AV} {u64:AV} {u65:AV} {u66:AV} {u67:AV} {u68:AV} {u69:AV} {u70:AV} {u71:AV} {o1:AObj} {Y45_1:List AObj} {v_:Int×(List (Int×Int))} (h:x45_r1 p1 r4 (t1,t2) e1=some (v_,true)) (Y:List AObj) :
  ∃ Y',Sem Tryz.prog (.yield ((o1::AObj.cells [(I t1)]::AObj.cells [(.lptr [(I p1.1),(.lst (p1.2.flatMap pr) p1.2.length .shared)])]::AObj.cells (r4.map I)::AObj.cells [(.lst (t2.flatMap pr) t2.length (.own 2))]::Y45_1)).length) [(.agg [(I e1.1),(I e1.2)])] (((o1::AObj.cells [(I t1)]::AObj.cells [(.lptr [(I p1.1),(.lst (p1.2.flatMap pr) p1.2.length .shared)])]::AObj.cells (r4.map I)::AObj.cells [(.lst (t2.flatMap pr) t2.length (.own 2))]::Y45_1)++[AObj.loop .ready none 45 [u0,u1,u2,u3,(.ptr 1 0),u5,u6,u7,(.ptr 2 0),u9,(.ptr 3 0),(.ptr 4 0),u12,u13,u14,u15,u16,u17,u18,u19,u20,u21,u22,u23,u24,u25,u26,u27,u28,u29,u30,u31,u32,u33,u34,u35,u36,u37,u38,u39,u40,u41,u42,u43,u44,u45,u46,u47,u48,u49,u50,u51,u52,u53,u54,u55,u56,u57,u58,u59,u60,u61,u62,u63,u64,u65,u66,u67,u68,u69,u70,u71] [51] (rngA Tryz.prog 45 0) (rngB Tryz.prog 45 0) ann45])++Y) 0 (.bool false) (((o1::AObj.cells [(I v_.1)]::AObj.cells [(.lptr [(I p1.1),(.lst (p1.2.flatMap pr) p1.2.length .shared)])]::AObj.cells (r4.map I)::AObj.cells [(.lst (v_.2.flatMap pr) v_.2.length (.own 2))]::Y45_1)++[AObj.loop .done (some (.exit 3)) 45 [u0,u1,u2,u3,(.ptr 1 0),u5,u6,u7,(.ptr 2 0),u9,(.ptr 3 0),(.ptr 4 0),u12,u13,u14,u15,u16,u17,u18,u19,u20,u21,u22,u23,u24,u25,u26,u27,u28,u29,u30,u31,u32,u33,u34,u35,u36,u37,u38,u39,u40,u41,u42,u43,u44,u45,u46,u47,u48,u49,u50,u51,u52,u53,u54,u55,u56,u57,u58,u59,u60,u61,u62,u63,u64,u65,u66,u67,u68,u69,u70,u71] [51] (rngA Tryz.prog 45 0) (rngB Tryz.prog 45 0) ann45])++Y'):=by
 unfold x45_r1 at h
 refine ⟨Y++[.dead],sem_roundX (id:=3) hmix lxx45_A0 lxx45_B0 (get_mid _ _ _) rfl (low0 (by simp)) ?_⟩
 unfold xrc45_A0
 conv=>whnf
 refine nthK_of (x:=AObj.cells [(I (0:Int)),(I (0:Int))]) (by first | with_reducible exact get_concat _ _ | exact get_concat _ _ | exact ga (get_concat _ _) | rfl | (simp [List.getElem?_append,AV.settle];done)) ?_
 conv=>whnf
 rw [set_concat]
 refine ⟨rfl,get_midY _ _ _ _,?_⟩
 rw [set_midY]
 unfold xrc45_B0
 conv=>whnf
 refine nthK_of (x:=AObj.cells [(I e1.1),(I e1.2)]) (by first | with_reducible exact get_concat _ _ | exact get_concat _ _ | exact ga (get_concat _ _) | rfl | (simp [List.getElem?_append,AV.settle];done)) ?_
 conv=>whnf
 obtain ⟨r6,hb14,h⟩:=bd_some h
 refine ⟨(allc (pu_lptr (allc rfl (allc (pu_flat (fun _=>(allc rfl (allc rfl rfl))) _ _ _) rfl))) (allc (pu_agg (allc rfl (allc rfl rfl))) rfl)),_,x68_ok hb14,?_⟩
 conv=>whnf
 obtain ⟨hb15,h⟩:=gd_some h
 refine ⟨⟨hb15.1,hb15.2.1⟩,?_⟩
 replace hb15:0≤r6.2∧r6.2<(r4.length:Int):=⟨hb15.1,by have:=hb15.2;omega⟩
 conv=>whnf
 refine rdD I r4 r6.2 hb15 ?_
 conv=>whnf
 obtain ⟨hb16,h⟩:=gd_some h
 refine ⟨⟨hb16.1,hb16.2.1⟩,?_⟩
 replace hb16:0≤t1∧t1<(r4.length:Int):=⟨hb16.1,by have:=hb16.2;omega⟩
 conv=>whnf
 refine rdD I r4 t1 hb16 ?_
 conv=>whnf
 rcases bt (decide ((ix r4 r6.2)=(w ((ix r4 t1)-(1:Int))))) with hb17 | hb17
 ·rw [hb17]
  conv=>whnf
  replace h:=it_t hb17 h
  refine nthK_of (x:=AObj.cells [(I e1.1),(I e1.2)]) (by first | with_reducible exact get_concat _ _ | exact get_concat _ _ | exact ga (get_concat _ _) | rfl | (simp [List.getElem?_append,AV.settle];done)) ?_
  conv=>whnf
  obtain ⟨hb18,h⟩:=gd_some h
  refine ⟨by first | rfl | (simp;done) | exact flatLen pr _ pr_len _,by have:=hb18;omega,rfl,hb18,?_⟩
  erw [apndS pr t2 e1]
  conv=>whnf
  obtain rfl:=congrArg (fun q=>q.1) (Option.some.inj h)
  show _∧((((o1::AObj.cells [(I r6.2)]::AObj.cells [(.lptr [(I p1.1),(.lst (p1.2.flatMap pr) p1.2.length .shared)])]::AObj.cells (r4.map I)::AObj.cells [(.lst ((t2++[e1]).flatMap pr) (t2++[e1]).length (.own 2))]::Y45_1)++[AObj.loop .busy none 45 [u0,u1,u2,u3,(AV.ptr 1 0),u5,u6,u7,(AV.ptr 2 0),u9,(AV.ptr 3 0),(AV.ptr 4 0),u12,u13,u14,u15,u16,u17,u18,u19,u20,u21,u22,u23,u24,u25,u26,u27,u28,u29,u30,u31,u32,u33,u34,u35,u36,u37,u38,u39,u40,u41,u42,u43,u44,u45,u46,u47,u48,u49,u50,u51,u52,u53,u54,u55,u56,u57,u58,u59,u60,u61,u62,u63,u64,u65,u66,u67,u68,u69,u70,u71] [51] (rngA Tryz.prog 45 0) (rngB Tryz.prog 45 0) ann45])++Y)++[_])[((o1::AObj.cells [(I r6.2)]::AObj.cells [(.lptr [(I p1.1),(.lst (p1.2.flatMap pr) p1.2.length .shared)])]::AObj.cells (r4.map I)::AObj.cells [(.lst ((t2++[e1]).flatMap pr) (t2++[e1]).length (.own 2))]::Y45_1)).length]?=_∧Fgt (((((o1::AObj.cells [(I r6.2)]::AObj.cells [(.lptr [(I p1.1),(.lst (p1.2.flatMap pr) p1.2.length .shared)])]::AObj.cells (r4.map I)::AObj.cells [(.lst ((t2++[e1]).flatMap pr) (t2++[e1]).length (.own 2))]::Y45_1)++[AObj.loop .busy none 45 [u0,u1,u2,u3,(AV.ptr 1 0),u5,u6,u7,(AV.ptr 2 0),u9,(AV.ptr 3 0),(AV.ptr 4 0),u12,u13,u14,u15,u16,u17,u18,u19,u20,u21,u22,u23,u24,u25,u26,u27,u28,u29,u30,u31,u32,u33,u34,u35,u36,u37,u38,u39,u40,u41,u42,u43,u44,u45,u46,u47,u48,u49,u50,u51,u52,u53,u54,u55,u56,u57,u58,u59,u60,u61,u62,u63,u64,u65,u66,u67,u68,u69,u70,u71] [51] (rngA Tryz.prog 45 0) (rngB Tryz.prog 45 0) ann45])++Y)++[_]).set ((o1::AObj.cells [(I r6.2)]::AObj.cells [(.lptr [(I p1.1),(.lst (p1.2.flatMap pr) p1.2.length .shared)])]::AObj.cells (r4.map I)::AObj.cells [(.lst ((t2++[e1]).flatMap pr) (t2++[e1]).length (.own 2))]::Y45_1)).length _) _
  exact ⟨rfl,get_midY _ _ _ _,by rw [set_midY];exact fgt_midY _ _ _ _⟩
 ·rw [hb17]
  conv=>whnf
  replace h:=it_f hb17 h
  exact absurd (congrArg (fun q=>q.2) (Option.some.inj h)) (by simp)
theorem x45_l1_ok {to:Int} {p1:(Int×(List (Int×Int)))} {r4:(List Int)} {kl1_0:(List (Int×Int))→Option ((List (Int×Int))×Int)} {s1:Int} {s2:(List (Int×Int))} {v:((List (Int×Int))×Int)} {Q:Ex→List AV→List AObj→Prop} {o1:AObj}  (hkl1_0:∀ (z1:(List (Int×Int))) (u0:AV) (u1:AV) (u2:AV) (u3:AV) (u4:AV) (u6:AV) (u7:AV) (u8:AV) (u9:AV) (u10:AV) (u12:AV) (u13:AV) (u14:AV) (u15:AV) (u16:AV) (u17:AV) (u18:AV) (u19:AV) (u20:AV) (u21:AV) (u22:AV) (u23:AV) (u24:AV) (u25:AV) (u26:AV) (u27:AV) (u28:AV) (u29:AV) (u30:AV) (u31:AV) (u32:AV) (u33:AV) (u34:AV) (u35:AV) (u36:AV) (u37:AV) (u38:AV) (u39:AV) (u40:AV) (u41:AV) (u42:AV) (u43:AV) (u44:AV) (u45:AV) (u46:AV) (u47:AV) (u48:AV) (u49:AV) (u50:AV) (u51:AV) (u52:AV) (u53:AV) (u54:AV) (u55:AV) (u56:AV) (u57:AV) (u58:AV) (u59:AV) (u60:AV) (u61:AV) (u62:AV) (u63:AV) (u64:AV) (u65:AV) (u66:AV) (u67:AV) (u68:AV) (u69:AV) (u70:AV) (u71:AV) (o2:AObj) (o4:AObj) (o5:AObj) (Yq:List AObj),kl1_0 z1=some v→Q (.exit 1) [u0,u1,u2,u3,u4,J,u6,u7,u8,u9,u10,(.ptr 4 0),u12,u13,u14,u15,u16,u17,u18,u19,u20,u21,u22,u23,u24,u25,u26,u27,u28,u29,u30,u31,u32,u33,u34,u35,u36,u37,u38,u39,u40,u41,u42,u43,u44,u45,u46,u47,u48,u49,u50,u51,u52,u53,u54,u55,u56,u57,u58,u59,u60,u61,u62,u63,u64,u65,u66,u67,u68,u69,u70,u71] (o1::o2::o4::o5::AObj.cells [(.lst (z1.flatMap pr) z1.length (.own 2))]::Yq)) {T:List AV} (hT:zipKeep [o_,o_,i_,o_,i_,o_,o_,o_,i_,o_,i_,i_,o_,o_,o_,o_,o_,o_,o_,o_,o_,o_,o_,o_,o_,o_,o_,o_,o_,o_,o_,o_,o_,o_,o_,o_,o_,o_,o_,o_,o_,o_,o_,o_,o_,o_,o_,o_,o_,o_,o_,o_,o_,o_,o_,o_,o_,o_,o_,o_,o_,o_,o_,o_,o_,o_,o_,o_,o_,o_,o_,o_] T=slots 72 [(2,(I to)),(4,(.ptr 1 0)),(8,(.ptr 2 0)),(10,(.ptr 3 0)),(11,(.ptr 4 0))]) (h:x45_l1 to p1 r4 kl1_0 FU s1 s2=some v) :
  wpR Tryz.prog ann45 45 0 none xrc45_2 T [o1,AObj.cells [(I s1)],AObj.cells [(.lptr [(I p1.1),(.lst (p1.2.flatMap pr) p1.2.length .shared)])],AObj.cells (r4.map I),AObj.cells [(.lst (s2.flatMap pr) s2.length (.own 2))]] Q:=by
 unfold xrc45_2
 obtain ⟨c_1,g_1⟩:∃ c,xrc45_1=c:=⟨_,rfl⟩
 rw [g_1]
 refine wp_loop hT ?_
 refine .intro (fun m T H=>∃ (s1:Int) (s2:(List (Int×Int))) (Y45_1:List AObj),T=slots 72 [(2,(I to)),(4,(.ptr 1 0)),(8,(.ptr 2 0)),(10,(.ptr 3 0)),(11,(.ptr 4 0))]∧H=(o1::AObj.cells [(I s1)]::AObj.cells [(.lptr [(I p1.1),(.lst (p1.2.flatMap pr) p1.2.length .shared)])]::AObj.cells (r4.map I)::AObj.cells [(.lst (s2.flatMap pr) s2.length (.own 2))]::Y45_1)∧x45_l1 to p1 r4 kl1_0 m s1 s2=some v) FU ⟨s1,s2,[],rfl,rfl,h⟩ ?_
 clear h hT
 rintro m T H ⟨s1,s2,Y45_1,rfl,rfl,h⟩
 cases m
 ·exact none_ne h
 rename_i m
 rw [x45_l1.eq_2] at h
 conv=>whnf
 rcases bt (decide (s1≠to)) with hb12 | hb12
 ·rw [hb12]
  conv=>whnf
  replace h:=it_t hb12 h
  obtain ⟨r5,hb13,h⟩:=bd_some h
  refine ⟨(allc (pu_lptr (allc rfl (allc (pu_flat (fun _=>(allc rfl (allc rfl rfl))) _ _ _) rfl))) (allc rfl rfl)),_,x89_ok hb13,?_⟩
  conv=>whnf
  obtain ⟨l1,hb19,h⟩:=bd_some h
  obtain ⟨r7,hb20,h⟩:=bd_some h
  rcases foldX_states hb20 with ⟨hst_,F_,hF0,hFn,hF⟩ | ⟨hst_,n_,hn_,F_,hF0,hF,hX⟩
  ·have hst:r7.2=false:=hst_
   replace h:=it_f (by rw [hst] <;> decide) h
   subst g_1
   unfold xrc45_1
   refine rng_wp (f:=fun (e1:(Int×Int))=>(.agg [(I e1.1),(I e1.2)])) (s113_ok hb19) (fun i=>(o1::AObj.cells [(I (F_ i).1)]::AObj.cells [(.lptr [(I p1.1),(.lst (p1.2.flatMap pr) p1.2.length .shared)])]::AObj.cells (r4.map I)::AObj.cells [(.lst (((F_ i).2).flatMap pr) ((F_ i).2).length (.own 2))]::Y45_1)) (by exact rfl) (by show (o1::AObj.cells [(I (F_ 0).1)]::AObj.cells [(.lptr [(I p1.1),(.lst (p1.2.flatMap pr) p1.2.length .shared)])]::AObj.cells (r4.map I)::AObj.cells [(.lst (((F_ 0).2).flatMap pr) ((F_ 0).2).length (.own 2))]::Y45_1)=_;first | (rw [hF0];done) | (rw [hF0];rfl)) (fun _=>rfl) ?_ (rl:=none) (by exact rfl) (Hn:=(o1::AObj.cells [(I r7.1.1)]::AObj.cells [(.lptr [(I p1.1),(.lst (p1.2.flatMap pr) p1.2.length .shared)])]::AObj.cells (r4.map I)::AObj.cells [(.lst (r7.1.2.flatMap pr) r7.1.2.length (.own 2))]::Y45_1)) (by show (o1::AObj.cells [(I (F_ l1.length).1)]::AObj.cells [(.lptr [(I p1.1),(.lst (p1.2.flatMap pr) p1.2.length .shared)])]::AObj.cells (r4.map I)::AObj.cells [(.lst (((F_ l1.length).2).flatMap pr) ((F_ l1.length).2).length (.own 2))]::Y45_1)=_;first | (rw [hFn];done) | (rw [hFn];rfl)) (fun Yr7=>?_)
   ·intro i hi Y
    exact x45_r1_ok (hF i hi) Y
   conv=>whnf
   exact ⟨m,Nat.lt_succ_self m,r7.1.1,r7.1.2,_,rfl,rfl,h⟩
  ·have hst:r7.2=true:=hst_
   replace h:=it_t hst h
   subst g_1
   unfold xrc45_1
   refine rngS_wp (id:=3) (f:=fun (e1:(Int×Int))=>(.agg [(I e1.1),(I e1.2)])) (s113S_ok hb19) hn_ (fun i=>(o1::AObj.cells [(I (F_ i).1)]::AObj.cells [(.lptr [(I p1.1),(.lst (p1.2.flatMap pr) p1.2.length .shared)])]::AObj.cells (r4.map I)::AObj.cells [(.lst (((F_ i).2).flatMap pr) ((F_ i).2).length (.own 2))]::Y45_1)) (by exact rfl) (by show (o1::AObj.cells [(I (F_ 0).1)]::AObj.cells [(.lptr [(I p1.1),(.lst (p1.2.flatMap pr) p1.2.length .shared)])]::AObj.cells (r4.map I)::AObj.cells [(.lst (((F_ 0).2).flatMap pr) ((F_ 0).2).length (.own 2))]::Y45_1)=_;first | (rw [hF0];done) | (rw [hF0];rfl)) (fun _=>rfl) rfl ?_ ?_ (rl:=none) (by exact rfl) (Hn:=(o1::AObj.cells [(I r7.1.1)]::AObj.cells [(.lptr [(I p1.1),(.lst (p1.2.flatMap pr) p1.2.length .shared)])]::AObj.cells (r4.map I)::AObj.cells [(.lst (r7.1.2.flatMap pr) r7.1.2.length (.own 2))]::Y45_1)) (fun Yr7=>?_)
   ·intro i hi Y
    exact x45_r1_ok (hF i hi) Y
   ·intro Y
    exact x45_r1_okX hX Y
   conv=>whnf
   exact ⟨m,Nat.lt_succ_self m,r7.1.1,r7.1.2,_,rfl,rfl,h⟩
 ·rw [hb12]
  conv=>whnf
  replace h:=it_f hb12 h
  exact hkl1_0 _ _ _ _ _ _ _ _ _ _ _ _ _ _ _ _ _ _ _ _ _ _ _ _ _ _ _ _ _ _ _ _ _ _ _ _ _ _ _ _ _ _ _ _ _ _ _ _ _ _ _ _ _ _ _ _ _ _ _ _ _ _ _ _ _ _ _ _ _ _ _ _ _ _ _ h
theorem x45_ok {b:(Int×(List (Int×Int)))} {fromq:Int} {to:Int} {v:((List (Int×Int))×Int)} (h:x45 b fromq to=some v):PO 45 [(.agg [(I b.1),(.lst (b.2.flatMap pr) b.2.length .shared)]),(I fromq),(I to)] (.tuple [(.lst (v.1.flatMap pr) v.1.length .shared),(I v.2)]):=by
 refine fn_pureW hmix lxx45 rfl (pu_tup (allc (pu_flat (fun _=>(allc rfl (allc rfl rfl))) _ _ _) (allc rfl rfl))) fun Q hQ=>?_
 have hR:∀ T H,RetW [.tmp 6,.tmp 7] (.tuple [(.lst (v.1.flatMap pr) v.1.length .shared),(I v.2)]) .ret T H→Q .ret T H:=fun T H hh=>hQ _ T H hh
 unfold x45 at h
 unfold xrc45
 obtain ⟨c_2,g_2⟩:∃ c,xrc45_2=c:=⟨_,rfl⟩
 rw [g_2]
 conv=>whnf
 obtain ⟨r1,hb1,h⟩:=bd_some h
 rcases r1 with ⟨_ | p1,q1⟩
 ·refine ⟨(allc (pu_agg (allc rfl (allc (pu_flat (fun _=>(allc rfl (allc rfl rfl))) _ _ _) rfl))) rfl),_,x64_ok hb1,?_⟩
  conv=>whnf
  rcases bt (decide (q1≠(0:Int))) with hb2 | hb2
  ·rw [hb2]
   conv=>whnf
   replace h:=it_t hb2 h
   obtain rfl:=Option.some.inj h
   exact hR _ _ ⟨.inr rfl,_,rfl,_,frz_pure (pu_tup (allc rfl (allc rfl rfl))),rfl⟩
  ·rw [hb2]
   conv=>whnf
   replace h:=it_f hb2 h
   obtain ⟨r2,hb3,h⟩:=bd_some h
   refine ⟨(allc rfl (allc rfl (allc rfl rfl))),_,x66_ok hb3,?_⟩
   conv=>whnf
   cases r2
   ·conv=>whnf
    replace h:=it_f rfl h
    obtain rfl:=Option.some.inj h
    exact hR _ _ ⟨.inr rfl,_,rfl,_,frz_pure (pu_tup (allc rfl (allc rfl rfl))),rfl⟩
   ·conv=>whnf
    replace h:=it_t rfl h
    rcases bt (decide (fromq=to)) with hb4 | hb4
    ·rw [hb4]
     conv=>whnf
     replace h:=it_t hb4 h
     obtain rfl:=Option.some.inj h
     exact hR _ _ ⟨.inr rfl,_,rfl,_,frz_pure (pu_tup (allc rfl (allc rfl rfl))),rfl⟩
    ·rw [hb4]
     conv=>whnf
     replace h:=it_f hb4 h
     exact none_ne h
 ·refine ⟨(allc (pu_agg (allc rfl (allc (pu_flat (fun _=>(allc rfl (allc rfl rfl))) _ _ _) rfl))) rfl),_,x64_ok hb1,?_⟩
  conv=>whnf
  rcases bt (decide (q1≠(0:Int))) with hb5 | hb5
  ·rw [hb5]
   conv=>whnf
   replace h:=it_t hb5 h
   obtain rfl:=Option.some.inj h
   exact hR _ _ ⟨.inr rfl,_,rfl,_,frz_pure (pu_tup (allc rfl (allc rfl rfl))),rfl⟩
  ·rw [hb5]
   conv=>whnf
   replace h:=it_f hb5 h
   obtain ⟨r3,hb6,h⟩:=bd_some h
   refine ⟨(allc rfl (allc rfl (allc rfl rfl))),_,x66_ok hb6,?_⟩
   conv=>whnf
   cases r3
   ·conv=>whnf
    replace h:=it_f rfl h
    obtain rfl:=Option.some.inj h
    exact hR _ _ ⟨.inr rfl,_,rfl,_,frz_pure (pu_tup (allc rfl (allc rfl rfl))),rfl⟩
   ·conv=>whnf
    replace h:=it_t rfl h
    rcases bt (decide (fromq=to)) with hb7 | hb7
    ·rw [hb7]
     conv=>whnf
     replace h:=it_t hb7 h
     obtain rfl:=Option.some.inj h
     exact hR _ _ ⟨.inr rfl,_,rfl,_,frz_pure (pu_tup (allc rfl (allc rfl rfl))),rfl⟩
    ·rw [hb7]
     conv=>whnf
     replace h:=it_f hb7 h
     obtain ⟨r4,hb8,h⟩:=bd_some h
     refine ⟨(allc (pu_lptr (allc rfl (allc (pu_flat (fun _=>(allc rfl (allc rfl rfl))) _ _ _) rfl))) (allc rfl (allc rfl rfl))),_,x81_ok hb8,?_⟩
     conv=>whnf
     obtain ⟨hb9,h⟩:=gd_some h
     try rw [show List.map AV.dim0 (List.map I r4)=List.map I r4 from by rw [List.map_map];rfl]
     first | (refine stArr I r4 (n:=6) (l:=(List.replicate 6 (0:Int))) (Nat.zero_le _) (fun _=>rfl) (by first | with_reducible exact get_concat _ _ | exact get_concat _ _ | exact ga (get_concat _ _) | rfl | (simp [List.getElem?_append,AV.settle];done)) hb9.1 hb9.2 (by decide) ?_) | (rw [show Nat.beq (List.map I r4).length 6=true from by rw [List.length_map,hb9.1] <;> exact Nat.beq_refl _];refine updsArr I (List.replicate 6 (0:Int)) r4 (fun _=>rfl) (by rw [hb9.1,hb9.2]) ?_)
     conv=>whnf
     obtain ⟨hb10,h⟩:=gd_some h
     refine ⟨⟨hb10.1,hb10.2.1⟩,?_⟩
     replace hb10:0≤fromq∧fromq<(r4.length:Int):=⟨hb10.1,by have:=hb10.2;omega⟩
     conv=>whnf
     refine rdD I r4 fromq hb10 ?_
     conv=>whnf
     rcases bt (decide ((ix r4 fromq)<(0:Int))) with hb11 | hb11
     ·rw [hb11]
      conv=>whnf
      replace h:=it_t hb11 h
      obtain rfl:=Option.some.inj h
      exact hR _ _ ⟨.inr rfl,_,rfl,_,frz_pure (pu_tup (allc rfl (allc rfl rfl))),rfl⟩
     ·rw [hb11]
      conv=>whnf
      replace h:=it_f hb11 h
      subst g_2
      refine x45_l1_ok ?_ (by exact rfl) h
      intro z1 u0 u1 u2 u3 u4 u6 u7 u8 u9 u10 u12 u13 u14 u15 u16 u17 u18 u19 u20 u21 u22 u23 u24 u25 u26 u27 u28 u29 u30 u31 u32 u33 u34 u35 u36 u37 u38 u39 u40 u41 u42 u43 u44 u45 u46 u47 u48 u49 u50 u51 u52 u53 u54 u55 u56 u57 u58 u59 u60 u61 u62 u63 u64 u65 u66 u67 u68 u69 u70 u71 o2 o4 o5 Yq h
      conv=>whnf
      obtain rfl:=Option.some.inj h
      exact hR _ _ ⟨.inr rfl,_,rfl,_,frz_pure (pu_tup (allc (pu_flat (fun _=>(allc rfl (allc rfl rfl))) _ _ _) (allc rfl rfl))),rfl⟩
end Go.Proofs.YtfakoboiahbhaaaGreat.Ab


namespace Go.Proofs.YtfakoboiahbhaaaGreat.Ab
open Go
theorem mem_places {b:Bk} {f:Int} {p:Int×Int}:p∈places b f↔0≤p.1∧p.1<(b.2.length:Int)∧0≤p.2∧p.2≤1∧beg b p=f:=by
 refine ⟨places_in,fun ⟨h1,h2,h3,h4,h5⟩=>?_⟩
 have e:plc (2*p.1.toNat+p.2.toNat)=p:=by
  rw [plc_in (n:=b.2.length) (by omega) (by omega)]
  exact Prod.ext (by simp only;omega) (by simp only;omega)
 refine List.mem_map.2 ⟨2*p.1.toNat+p.2.toNat,List.mem_filter.2 ⟨List.mem_range.2 (by omega),?_⟩,e⟩
 rw [begs,e];exact decide_eq_true h5
def flipP (p:Int×Int):Int×Int:=(p.1,1-p.2)
theorem beg_flip {b:Bk} {p:Int×Int} (h:0≤p.2∧p.2≤1):beg b (flipP p)=fin b p:=by
 unfold beg fin flipP;simp only
 by_cases h1:0<p.2
 ·rw [if_neg (by omega),if_pos h1]
 ·rw [if_pos (by omega),if_neg h1]
theorem fin_flip {b:Bk} {p:Int×Int} (h:0≤p.2∧p.2≤1):fin b (flipP p)=beg b p:=by
 unfold beg fin flipP;simp only
 by_cases h1:0<p.2
 ·rw [if_neg (by omega),if_pos h1]
 ·rw [if_pos (by omega),if_neg h1]
theorem Ed.symm {b:Bk} {wo f g:Int} (h:Ed b wo f g):Ed b wo g f:=by
 obtain ⟨p,h1,h2,h3⟩:=h
 have hp:=mem_places.1 h1
 exact ⟨flipP p,mem_places.2 ⟨hp.1,hp.2.1,by simp only [flipP];omega,by simp only [flipP];omega,by rw [beg_flip ⟨hp.2.2.1,hp.2.2.2.1⟩,h3]⟩,h2,by rw [fin_flip ⟨hp.2.2.1,hp.2.2.2.1⟩,hp.2.2.2.2]⟩
theorem Wk.cons {b:Bk} {wo:Int}:∀ {n:Nat} {a c g:Int},Ed b wo a c→Wk b wo n c g→Wk b wo (n+1) a g
 | 0,a,c,g,h,(k:c=g)=>⟨a,rfl,k ▸ h⟩
 | n+1,a,c,g,h,⟨f,k1,k2⟩=>⟨f,Wk.cons h k1,k2⟩
theorem Wk.symm {b:Bk} {wo:Int}:∀ {n:Nat} {a g:Int},Wk b wo n a g→Wk b wo n g a
 | 0,_,_,(h:_=_)=>h.symm
 | _+1,_,_,⟨_,h1,h2⟩=>Wk.cons h2.symm h1.symm
theorem Wk.uncons {b:Bk} {wo:Int} {n:Nat} {a g:Int} (h:Wk b wo (n+1) a g):∃ c,Ed b wo a c∧Wk b wo n c g:=by
 obtain ⟨f,h1,h2⟩:=h.symm
 exact ⟨f,h2.symm,h1.symm⟩
def nr (b:Bk) (D:List Int) (f:Int) (p:Int×Int):Bool:=decide (ix D (fin b p)=ix D f-1)
def chainP (b:Bk) (D:List Int):Nat→Int→Row
 | 0,_=>[]
 | n+1,f=>match (places b f).find? (nr b D f) with
   | some p=>p::chainP b D n (fin b p)
   | none=>[]
theorem fold45 {b:Bk} (hB:Book b) {D:List Int} (hD:D.length=6) {f:Int} (hf:0≤f∧f<b.1) (hd:0≤ix D f∧ix D f≤100) {s:Row} (hs:s.length≤1000):∀ (l:Row),(∀ p∈l,p∈places b f) →
  foldX (x45_r1 b D) l (f,s)=some (match l.find? (nr b D f) with
   | some p=>((fin b p,s++[p]),true)
   | none=>((f,s),false))
 | [],_=>rfl
 | p::l,h=>by
   have hp:=places_in (h p (by simp))
   have hfi:=fin_in hB (h p (by simp))
   have h6:=hB.f6
   rw [foldX,x45_r1]
   rw [x68_eq ⟨hp.1,hp.2.1⟩,Option.bind_some]
   dsimp only
   rw [gd_pos ⟨by omega,by omega,hD.symm⟩,gd_pos ⟨by omega,by omega,hD.symm⟩,w_id (by omega),List.find?_cons]
   by_cases hn:ix D (fin b p)=ix D f-1
   ·rw [if_pos (decide_eq_true hn),gd_pos (by omega),Option.bind_some,if_pos rfl,show nr b D f p=true from decide_eq_true hn]
   ·rw [if_neg (by simpa using hn),Option.bind_some,if_neg (by simp),show nr b D f p=false from decide_eq_false hn]
    exact fold45 hB hD hf hd hs l fun q hq=>h q (by simp [hq])
theorem near_ex {b:Bk} (hB:Book b) {wo to f:Int} {D:List Int} (hD:FarD b wo to D) {n:Nat} (hf:0≤f∧f<6) (hn:ix D f=((n+1:Nat):Int)):∃ p∈places b f,p.1≠wo∧ix D (fin b p)=(n:Int):=by
 obtain ⟨c,rfl⟩:∃ c:Nat,f=(c:Int):=⟨f.toNat,by omega⟩
 have hw:=hD.walk c (by omega) (by omega)
 rw [hn] at hw
 obtain ⟨e,he,hw⟩:=hw.symm.uncons
 have hl:=hD.least n e hw.symm
 have hlow:(n:Int)≤ix D e:=by
  refine Classical.byContradiction fun hh=>?_
  have h2:=hD.walk e.toNat (by omega) (by rw [Int.toNat_of_nonneg hl.1];exact hl.2.2.1)
  rw [Int.toNat_of_nonneg hl.1] at h2
  have:=(hD.least ((ix D e).toNat+1) (c:Int) ⟨e,h2,he.symm⟩).2.2.2
  omega
 obtain ⟨p,h1,h2,h3⟩:=he
 exact ⟨p,h1,h2,by rw [h3];omega⟩
theorem x45_l1_eq {b:Bk} (hB:Book b) {to:Int} {D:List Int} (hD:FarD b (-1) to D) {k:Row→Option (Row×Int)}:∀ (n m:Nat) (f:Int) (s:Row),0≤f→f<b.1→ix D f=(n:Int)→n<m→s.length+n≤1000 →
  x45_l1 to b D k m f s=k (s++chainP b D n f)
 | _,0,_,_,_,_,_,h,_=>absurd h (by omega)
 | 0,m+1,f,s,h1,h2,h3,_,_=>by
   have h6:=hB.f6
   have hw:=hD.walk f.toNat (by omega) (by rw [Int.toNat_of_nonneg h1];omega)
   rw [Int.toNat_of_nonneg h1,h3] at hw
   have hw:to=f:=hw
   rw [x45_l1,if_neg (by simp [hw]),chainP,List.append_nil]
 | n+1,m+1,f,s,h1,h2,h3,h4,h5=>by
   have h6:=hB.f6
   have hto:f≠to:=fun e=>by
    have:=(hD.least 0 to rfl).2.2.2
    subst e;omega
   obtain ⟨p,p1,_,p2⟩:=near_ex hB hD ⟨h1,by omega⟩ h3
   have hs5:=hD.small f.toNat (by omega)
   rw [Int.toNat_of_nonneg h1] at hs5
   have hlen:=hB.len
   rw [x45_l1,if_pos (decide_eq_true hto),x89,Option.bind_some,s113,if_pos (by omega),Option.bind_some,fold45 hB hD.len ⟨h1,h2⟩ ⟨by omega,by omega⟩ (by omega) _ (fun p hp=>hp),Option.bind_some,chainP]
   cases hq:(places b f).find? (nr b D f) with
   | none =>
     have:=List.find?_eq_none.1 hq p p1
     exact absurd (decide_eq_true (by rw [p2,h3];omega)) this
   | some q =>
     have q1:=List.mem_of_find?_eq_some hq
     have q2:ix D (fin b q)=ix D f-1:=of_decide_eq_true (p:=ix D (fin b q)=ix D f-1) (List.find?_some (p:=nr b D f) hq)
     have q3:=fin_in hB q1
     dsimp only
     rw [if_pos rfl,x45_l1_eq hB hD n m _ _ q3.1 q3.2 (by rw [q2,h3];omega) (by omega) (by simp;omega),List.append_assoc];rfl
def chainA (b:Bk) (D:List Int) (f:Int):Row×Int:=if ix D f<0 then ([],5) else (chainP b D (ix D f).toNat f,0)
def argOk (b:Bk) (f t:Int):Prop:=0≤f∧f<b.1∧0≤t∧t<b.1∧f≠t
theorem x45_bad {b:Bk} (hb:b.2.length≤1000) (h:bkErr b≠0) (f t:Int):x45 b f t=some ([],bkErr b):=by
 rw [x45,x64,x20_eq b hb,Option.bind_some,if_pos (decide_eq_true h),Option.bind_some]
 dsimp only
 rw [if_pos (decide_eq_true h)]
theorem x45_arg {b:Bk} (hB:Book b) {f t:Int} (h:¬ argOk b f t):x45 b f t=some ([],2):=by
 have h6:=hB.f6;have h1:=hB.f1;have hl:=hB.len
 rw [x45,x64,x20_eq b (by omega),Option.bind_some,if_neg (by simp [bkErr_zero.2 hB]),Option.bind_some]
 dsimp only
 rw [if_neg (by decide),x66_eq _ _ _ (by simp),Option.bind_some,w_id (by omega)]
 by_cases h2:[f,t].any (offB 0 (b.1-1))=true
 ·rw [h2,if_neg (by decide)]
 ·have h3:[f,t].any (offB 0 (b.1-1))=false:=by simpa using h2
  rw [h3,if_pos (by decide)]
  simp only [List.any_cons,List.any_nil,Bool.or_false,Bool.or_eq_false_iff,offB_false] at h3
  have:f=t:=Classical.byContradiction fun e=>h ⟨h3.1.1,by omega,h3.2.1,by omega,e⟩
  rw [if_pos (decide_eq_true this)]
theorem x45_eq {b:Bk} (hB:Book b) {f t:Int} (h:argOk b f t):∃ D,FarD b (-1) t D∧x45 b f t=some (chainA b D f):=by
 have h6:=hB.f6;have h1:=hB.f1;have hl:=hB.len
 obtain ⟨a1,a2,a3,a4,a5⟩:=h
 obtain ⟨D,e,hD⟩:=x81_eq hB (wo := -1) ⟨a3,a4⟩
 refine ⟨D,hD,?_⟩
 rw [x45,x64,x20_eq b (by omega),Option.bind_some,if_neg (by simp [bkErr_zero.2 hB]),Option.bind_some]
 dsimp only
 have h3:[f,t].any (offB 0 (b.1-1))=false:=by
  simp only [List.any_cons,List.any_nil,Bool.or_false,Bool.or_eq_false_iff,offB_false];omega
 rw [if_neg (by decide),x66_eq _ _ _ (by simp),Option.bind_some,w_id (by omega),h3,if_pos (by decide),if_neg (by simpa using a5),e,Option.bind_some,gd_pos ⟨hD.len,by simp⟩,gd_pos ⟨a1,by omega,hD.len.symm⟩]
 unfold chainA
 by_cases hd:ix D f<0
 ·rw [if_pos (decide_eq_true hd),if_pos hd]
 ·have hs5:=hD.small f.toNat (by omega)
  rw [Int.toNat_of_nonneg a1] at hs5
  rw [if_neg (by simpa using hd),if_neg hd,x45_l1_eq hB hD (ix D f).toNat FU f [] a1 a2 (by omega) (FU_lt (by omega)) (by simp;omega),List.nil_append]
end Go.Proofs.YtfakoboiahbhaaaGreat.Ab


namespace Go.Proofs.YtfakoboiahbhaaaGreat.Ab
open Go
set_option maxRecDepth 20000
set_option maxHeartbeats 4000000
noncomputable def xrc90_1:RC :=
 .loop (some [o_,i_,i_,i_,i_,i_,o_,o_,o_,o_,o_,o_,i_,i_,o_,o_,o_,o_,o_,o_,o_,o_,o_,o_,o_,o_,o_,o_,o_,o_,o_,o_,o_,o_,o_,o_,o_,o_,o_,o_,o_,o_,o_,o_,o_,o_,o_,o_,o_,o_,o_,o_,o_,o_,o_,o_,o_,o_,o_,o_,o_,o_,o_,o_,o_,o_]) (.seq (.seq (.reg false [I_ 30 [.sl 13] .mv,I_ 31 [.tv 30,.cv (.int .i64 2)] (.bin .lss)]) (.cond (.sl 31) .skip (.exit 2))) (.seq (.block 3 (.seq (.reg false [I_ 34 [.sl 12] .mv,I_ 35 [.sl 13] .mv,I_ 36 [.tv
 34,.tv 35] (.build [.int .i64 0,.int .i64 0] [(0,1),(1,1)]),I_ 14 [] (.alloc [.int .i64 0,.int .i64 0]),⟨none,[.sl 14,.tk 36],none,none,.st 2⟩]) (.seq (.seq (.reg false [I_ 37 [.sl 5] (.ld (.str 2)),I_ 38 [.sl 14]
 (.ld (.str 2)),I_ 39 [.cv (.func 57 [] []),.sl 37,.sl 38] (.call 3),I_ 40 [.sl 2] .mv,I_ 41 [.tv 39,.tv 40] (.bin .neq),I_ 42 [.tk 41] .mv,⟨some 43,[.sl 1],some (42,false),none,.mv⟩,⟨some 44,[.sl 12],some (42,
 false),none,.mv⟩,⟨some 45,[.cv (.func 69 [] []),.sl 43,.sl 44],some (42,false),none,.call 3⟩,I_ 46 [.tv 42,.cv (.bool true),.tv 45] .pick]) (.cond (.sl 46) (.exit 3) .skip)) (.seq (.reg true [I_ 48 [.sl 5] (.ld
 (.str 2)),I_ 49 [] (.buildS 0 2 [.int .i64 0,.int .i64 0] []),I_ 50 [.sl 1] .mv,I_ 51 [.tk 49,.tk 50] (.app 2 16),I_ 52 [.sl 14] (.ld (.str 2)),I_ 53 [.tv 52] (.buildS 1 2 [.int .i64 0,.int .i64 0] [0]),I_ 54 [.tk 51,
 .tk 53] (.app 2 16),I_ 55 [.sl 5] (.ld (.str 2)),I_ 56 [.sl 14] (.ld (.str 2)),I_ 57 [.cv (.func 70 [] []),.sl 55,.sl 56] (.call 3),I_ 58 [.sl 3] .mv,I_ 59 [.sl 4] .mv,I_ 60 [.tv 59,.cv (.int .i64 1)] (.bin .sub),I_
 61 [.cv (.func 90 [] []),.sl 48,.sl 54,.sl 57,.sl 58,.sl 60] (.call 3),I_ 47 [.tk 61] .mv,I_ 62 [.sl 47] (.ext 0),I_ 63 [.sl 47] (.ext 1),I_ 15 [.tk 62] .mv,I_ 16 [.tk 63] .mv]) (.seq (.reg false [I_ 64 [.tk 16] .mv])
 (.cond (.sl 64) (.seq (.reg false [I_ 65 [.tk 15] .mv,I_ 10 [.tk 65] .mv,I_ 11 [.cv (.bool true)] .mv]) .ret) .skip)))))) (.reg false [I_ 32 [.tk 13] .mv,I_ 33 [.tv 32,.cv (.int .i64 1)] (.bin .add),I_ 13 [.tk 33] .mv])))
noncomputable def xrc90_2:RC :=
 .loop (some [o_,i_,i_,i_,i_,i_,o_,o_,o_,o_,o_,o_,i_,o_,o_,o_,o_,o_,o_,o_,o_,o_,o_,o_,o_,o_,o_,o_,o_,o_,o_,o_,o_,o_,o_,o_,o_,o_,o_,o_,o_,o_,o_,o_,o_,o_,o_,o_,o_,o_,o_,o_,o_,o_,o_,o_,o_,o_,o_,o_,o_,o_,o_,o_,o_,o_]) (.seq (.seq (.reg false [I_ 23 [.sl 12] .mv,I_ 24 [.sl 5] (.fa 1),I_ 25 [.tv 24] (.ld .one),I_ 26 [.tk 25] .lenS,I_ 27 [.tv 23,.tv 26] (.bin .lss)]) (.cond (.sl 27) .skip (.exit 0))) (.seq (.block 1
 (.seq (.reg false [I_ 13 [.cv (.int .i64 0)] .mv]) (.block 2 xrc90_1))) (.reg false [I_ 28 [.tk 12] .mv,I_ 29 [.tv 28,.cv (.int .i64 1)] (.bin .add),I_ 12 [.tk 29] .mv])))
noncomputable def xrc90:RC :=
 .seq (.reg false [I_ 5 [.tk 0] .box,I_ 10 [.cv (.lst [] 0 .full)] (.nil 2),I_ 11 [.cv (.bool false)] .mv]) (.seq (.seq (.reg false [I_ 17 [.sl 4] .mv,I_ 18 [.tv 17,.cv (.int .i64 0)] (.bin .eql)]) (.cond (.sl 18) (.seq (.reg
 false [I_ 19 [.tk 1] .mv,I_ 20 [.tk 2] .mv,I_ 21 [.tk 3] .mv,I_ 22 [.tv 20,.tv 21] (.bin .eql),I_ 10 [.tk 19] .mv,I_ 11 [.tk 22] .mv]) .ret) .skip)) (.seq (.seq (.reg false [I_ 12 [.cv (.int .i64 0)] .mv]) (.block 0
 xrc90_2)) (.seq (.reg false [I_ 10 [.cv (.lst [] 0 .full)] (.nil 2),I_ 11 [.cv (.bool false)] .mv]) .ret)))
theorem lxx90:linkF Tryz.prog ann90 90=some (xrc90,66,[.tmp 10,.tmp 11]):=by kernel_rfl
def x90_l2 (b:(Int×(List (Int×Int)))) (begun:(List (Int×Int))) (atq:Int) (to:Int) (many:Int) (rcF:((Int×(List (Int×Int)))→(List (Int×Int))→Int→Int→Int→Option ((List (Int×Int))×Bool))) (s1:Int) (kl2_0:Unit→Option ((List (Int×Int))×Bool)):Nat→Int→Option ((List (Int×Int))×Bool)
 | 0,_=>none
 | m+1,s2 =>
   if (decide (s2<(2:Int)))=true then
    (x57 b (s1,s2)).bind fun r1 =>
    if (decide (r1≠atq))=true then
     x90_l2 b begun atq to many rcF s1 kl2_0 m (w (s2+(1:Int)))
    else
     (x69 begun s1).bind fun r2 =>
     if r2=true then
      x90_l2 b begun atq to many rcF s1 kl2_0 m (w (s2+(1:Int)))
     else
      gd ((([]:List (Int×Int)).length+begun.length)*16≤140737488355328) <|
      gd (((([]:List (Int×Int))++begun).length+1)*16≤140737488355328) <|
      (x70 b (s1,s2)).bind fun r3 =>
      (rcF b ((([]:List (Int×Int))++begun)++[(s1,s2)]) r3 to (w (many-(1:Int)))).bind fun r4 =>
      if r4.2=true then
       some (r4.1,true)
      else
       x90_l2 b begun atq to many rcF s1 kl2_0 m (w (s2+(1:Int)))
   else
    kl2_0 ()
def x90_l1 (b:(Int×(List (Int×Int)))) (begun:(List (Int×Int))) (atq:Int) (to:Int) (many:Int) (rcF:((Int×(List (Int×Int)))→(List (Int×Int))→Int→Int→Int→Option ((List (Int×Int))×Bool))) (kl1_0:Unit→Option ((List (Int×Int))×Bool)):Nat→Int→Option ((List (Int×Int))×Bool)
 | 0,_=>none
 | m+1,s1 =>
   if (decide (s1<(b.2.length:Int)))=true then
    x90_l2 b begun atq to many rcF s1 (fun _ =>
      x90_l1 b begun atq to many rcF kl1_0 m (w (s1+(1:Int)))) FU (0:Int)
   else
    kl1_0 ()
def x90S (rcF:(Int×(List (Int×Int)))→(List (Int×Int))→Int→Int→Int→Option ((List (Int×Int))×Bool)) (b:(Int×(List (Int×Int)))) (begun:(List (Int×Int))) (atq:Int) (to:Int) (many:Int):Option ((List (Int×Int))×Bool) :=
 if (decide (many=(0:Int)))=true then
  some (begun,(decide (atq=to)))
 else
  x90_l1 b begun atq to many rcF (fun _ =>
    some ([],false)) FU (0:Int)
def x90F:Nat→(Int×(List (Int×Int)))→(List (Int×Int))→Int→Int→Int→Option ((List (Int×Int))×Bool)
 | 0=>fun _ _ _ _ _=>none
 | m+1=>fun b begun atq to many=>x90S (x90F m) b begun atq to many
def x90 (b:(Int×(List (Int×Int)))) (begun:(List (Int×Int))) (atq:Int) (to:Int) (many:Int):Option ((List (Int×Int))×Bool):=x90F FU b begun atq to many
theorem x90_l2_ok {b:(Int×(List (Int×Int)))} {begun:(List (Int×Int))} {atq:Int} {to:Int} {many:Int} {rcF:((Int×(List (Int×Int)))→(List (Int×Int))→Int→Int→Int→Option ((List (Int×Int))×Bool))} {s1:Int} {kl2_0:Unit→Option ((List (Int×Int))×Bool)} {s2:Int} (rcF_ok:∀ {y0:(Int×(List (Int×Int)))} {y1:(List (Int×Int))} {y2:Int} {y3:Int} {y4:Int} {r:((List (Int×Int))×Bool)},rcF y0 y1 y2 y3 y4=some r→PO 90 [(.agg [(I y0.1),(.lst (y0.2.flatMap pr) y0.2.length .shared)]),(.lst (y1.flatMap pr) y1.length .shared),(I y2),(I y3),(I y4)] (.tuple [(.lst (r.1.flatMap pr) r.1.length .shared),(B r.2)])) {v:((List (Int×Int))×Bool)} {Q:Ex→List AV→List AObj→Prop}  {Y90_2:List AObj} (hR:∀ T H,RetW [.tmp 10,.tmp 11] (.tuple [(.lst (v.1.flatMap pr) v.1.length .shared),(B v.2)]) .ret T H→Q .ret T H) (hkl2_0:∀ (u0:AV) (u10:AV) (u11:AV) (u13:AV) (u14:AV) (u15:AV) (u16:AV) (u17:AV) (u18:AV) (u19:AV) (u20:AV) (u21:AV) (u22:AV) (u23:AV) (u24:AV) (u25:AV) (u26:AV) (u27:AV) (u28:AV) (u29:AV) (u30:AV) (u31:AV) (u32:AV) (u33:AV) (u34:AV) (u35:AV) (u36:AV) (u37:AV) (u38:AV) (u39:AV) (u40:AV) (u41:AV) (u42:AV) (u43:AV) (u44:AV) (u45:AV) (u46:AV) (u47:AV) (u48:AV) (u49:AV) (u50:AV) (u51:AV) (u52:AV) (u53:AV) (u54:AV) (u55:AV) (u56:AV) (u57:AV) (u58:AV) (u59:AV) (u60:AV) (u61:AV) (u62:AV) (u63:AV) (u64:AV) (u65:AV) (Yq:List AObj),kl2_0 ()=some v→Q (.exit 2) [u0,(.lst (begun.flatMap pr) begun.length .shared),(I atq),(I to),(I many),(.ptr 0 0),J,J,J,J,u10,u11,(I s1),u13,u14,u15,u16,u17,u18,u19,u20,u21,u22,u23,u24,u25,u26,u27,u28,u29,u30,u31,u32,u33,u34,u35,u36,u37,u38,u39,u40,u41,u42,u43,u44,u45,u46,u47,u48,u49,u50,u51,u52,u53,u54,u55,u56,u57,u58,u59,u60,u61,u62,u63,u64,u65] (AObj.cells [(I b.1),(.lst (b.2.flatMap pr) b.2.length .shared)]::Yq)) {T:List AV} (hT:zipKeep [o_,i_,i_,i_,i_,i_,o_,o_,o_,o_,o_,o_,i_,i_,o_,o_,o_,o_,o_,o_,o_,o_,o_,o_,o_,o_,o_,o_,o_,o_,o_,o_,o_,o_,o_,o_,o_,o_,o_,o_,o_,o_,o_,o_,o_,o_,o_,o_,o_,o_,o_,o_,o_,o_,o_,o_,o_,o_,o_,o_,o_,o_,o_,o_,o_,o_] T=slots 66 [(1,(.lst (begun.flatMap pr) begun.length .shared)),(2,(I atq)),(3,(I to)),(4,(I many)),(5,(.ptr 0 0)),(12,(I s1)),(13,(I s2))]) (h:x90_l2 b begun atq to many rcF s1 kl2_0 FU s2=some v) :
  wpR Tryz.prog ann90 90 0 none xrc90_1 T (AObj.cells [(I b.1),(.lst (b.2.flatMap pr) b.2.length .shared)]::Y90_2) Q:=by
 unfold xrc90_1
 skip
 refine wp_loop hT ?_
 refine .intro (fun m T H=>∃ (s2:Int) (Y90_1:List AObj),T=slots 66 [(1,(.lst (begun.flatMap pr) begun.length .shared)),(2,(I atq)),(3,(I to)),(4,(I many)),(5,(.ptr 0 0)),(12,(I s1)),(13,(I s2))]∧H=(AObj.cells [(I b.1),(.lst (b.2.flatMap pr) b.2.length .shared)]::Y90_1)∧x90_l2 b begun atq to many rcF s1 kl2_0 m s2=some v) FU ⟨s2,Y90_2,rfl,rfl,h⟩ ?_
 clear h hT
 rintro m T H ⟨s2,Y90_1,rfl,rfl,h⟩
 cases m
 ·exact none_ne h
 rename_i m
 rw [x90_l2.eq_2] at h
 conv=>whnf
 rcases bt (decide (s2<(2:Int))) with hb3 | hb3
 ·rw [hb3]
  conv=>whnf
  replace h:=it_t hb3 h
  refine nthK_of (x:=AObj.cells [(I (0:Int)),(I (0:Int))]) (by first | with_reducible exact get_concat _ _ | exact get_concat _ _ | exact ga (get_concat _ _) | rfl | (simp [List.getElem?_append,AV.settle];done)) ?_
  conv=>whnf
  rw [set_concat]
  refine nthK_of (x:=AObj.cells [(I s1),(I s2)]) (by first | with_reducible exact get_concat _ _ | exact get_concat _ _ | exact ga (get_concat _ _) | rfl | (simp [List.getElem?_append,AV.settle];done)) ?_
  conv=>whnf
  obtain ⟨r1,hb4,h⟩:=bd_some h
  refine ⟨(allc (pu_agg (allc rfl (allc (pu_flat (fun _=>(allc rfl (allc rfl rfl))) _ _ _) rfl))) (allc (pu_agg (allc rfl (allc rfl rfl))) rfl)),_,x57_ok hb4,?_⟩
  conv=>whnf
  rcases bt (decide (r1≠atq)) with hb5 | hb5
  ·rw [hb5]
   conv=>whnf
   replace h:=it_t hb5 h
   exact ⟨m,Nat.lt_succ_self m,(w (s2+(1:Int))),_,rfl,rfl,h⟩
  ·rw [hb5]
   conv=>whnf
   replace h:=it_f hb5 h
   obtain ⟨r2,hb6,h⟩:=bd_some h
   refine ⟨(allc (pu_flat (fun _=>(allc rfl (allc rfl rfl))) _ _ _) (allc rfl rfl)),_,x69_ok hb6,?_⟩
   conv=>whnf
   cases r2
   ·conv=>whnf
    replace h:=it_f rfl h
    obtain ⟨hb7,h⟩:=gd_some h
    refine ⟨by first | rfl | (simp;done) | exact flatLen pr _ pr_len _,by have:=hb7;omega,rfl,hb7,?_⟩
    erw [apndSS pr ([]:List (Int×Int)) begun]
    conv=>whnf
    refine nthK_of (x:=AObj.cells [(I s1),(I s2)]) (by first | with_reducible exact get_concat _ _ | exact get_concat _ _ | exact ga (get_concat _ _) | rfl | (simp [List.getElem?_append,AV.settle];done)) ?_
    conv=>whnf
    obtain ⟨hb8,h⟩:=gd_some h
    refine ⟨by first | rfl | (simp;done) | exact flatLen pr _ pr_len _,by have:=hb8;omega,rfl,hb8,?_⟩
    erw [apndS pr (([]:List (Int×Int))++begun) (s1,s2)]
    conv=>whnf
    refine nthK_of (x:=AObj.cells [(I s1),(I s2)]) (by first | with_reducible exact get_concat _ _ | exact get_concat _ _ | exact ga (get_concat _ _) | rfl | (simp [List.getElem?_append,AV.settle];done)) ?_
    conv=>whnf
    obtain ⟨r3,hb9,h⟩:=bd_some h
    refine ⟨(allc (pu_agg (allc rfl (allc (pu_flat (fun _=>(allc rfl (allc rfl rfl))) _ _ _) rfl))) (allc (pu_agg (allc rfl (allc rfl rfl))) rfl)),_,x70_ok hb9,acc0,?_⟩
    conv=>whnf
    obtain ⟨r4,hb10,h⟩:=bd_some h
    refine ⟨(allc (pu_agg (allc rfl (allc (pu_flat (fun _=>(allc rfl (allc rfl rfl))) _ _ _) rfl))) (allc (pu_flat (fun _=>(allc rfl (allc rfl rfl))) _ _ _) (allc rfl (allc rfl (allc rfl rfl))))),_,rcF_ok hb10,accN rfl,?_⟩
    conv=>whnf
    rcases bt r4.2 with hb11 | hb11
    ·rw [hb11]
     conv=>whnf
     replace h:=it_t hb11 h
     obtain rfl:=Option.some.inj h
     exact hR _ _ ⟨.inr rfl,_,rfl,_,frz_pure (pu_tup (allc (pu_flat (fun _=>(allc rfl (allc rfl rfl))) _ _ _) (allc rfl rfl))),rfl⟩
    ·rw [hb11]
     conv=>whnf
     replace h:=it_f hb11 h
     exact ⟨m,Nat.lt_succ_self m,(w (s2+(1:Int))),_,rfl,rfl,h⟩
   ·conv=>whnf
    replace h:=it_t rfl h
    exact ⟨m,Nat.lt_succ_self m,(w (s2+(1:Int))),_,rfl,rfl,h⟩
 ·rw [hb3]
  conv=>whnf
  replace h:=it_f hb3 h
  exact hkl2_0 _ _ _ _ _ _ _ _ _ _ _ _ _ _ _ _ _ _ _ _ _ _ _ _ _ _ _ _ _ _ _ _ _ _ _ _ _ _ _ _ _ _ _ _ _ _ _ _ _ _ _ _ _ _ _ _ _ h
theorem x90_l1_ok {b:(Int×(List (Int×Int)))} {begun:(List (Int×Int))} {atq:Int} {to:Int} {many:Int} {rcF:((Int×(List (Int×Int)))→(List (Int×Int))→Int→Int→Int→Option ((List (Int×Int))×Bool))} {kl1_0:Unit→Option ((List (Int×Int))×Bool)} {s1:Int} (rcF_ok:∀ {y0:(Int×(List (Int×Int)))} {y1:(List (Int×Int))} {y2:Int} {y3:Int} {y4:Int} {r:((List (Int×Int))×Bool)},rcF y0 y1 y2 y3 y4=some r→PO 90 [(.agg [(I y0.1),(.lst (y0.2.flatMap pr) y0.2.length .shared)]),(.lst (y1.flatMap pr) y1.length .shared),(I y2),(I y3),(I y4)] (.tuple [(.lst (r.1.flatMap pr) r.1.length .shared),(B r.2)])) {v:((List (Int×Int))×Bool)} {Q:Ex→List AV→List AObj→Prop}   (hR:∀ T H,RetW [.tmp 10,.tmp 11] (.tuple [(.lst (v.1.flatMap pr) v.1.length .shared),(B v.2)]) .ret T H→Q .ret T H) (hkl1_0:∀ (u0:AV) (u1:AV) (u2:AV) (u3:AV) (u4:AV) (u5:AV) (u10:AV) (u11:AV) (u12:AV) (u13:AV) (u14:AV) (u15:AV) (u16:AV) (u17:AV) (u18:AV) (u19:AV) (u20:AV) (u21:AV) (u22:AV) (u23:AV) (u24:AV) (u25:AV) (u26:AV) (u27:AV) (u28:AV) (u29:AV) (u30:AV) (u31:AV) (u32:AV) (u33:AV) (u34:AV) (u35:AV) (u36:AV) (u37:AV) (u38:AV) (u39:AV) (u40:AV) (u41:AV) (u42:AV) (u43:AV) (u44:AV) (u45:AV) (u46:AV) (u47:AV) (u48:AV) (u49:AV) (u50:AV) (u51:AV) (u52:AV) (u53:AV) (u54:AV) (u55:AV) (u56:AV) (u57:AV) (u58:AV) (u59:AV) (u60:AV) (u61:AV) (u62:AV) (u63:AV) (u64:AV) (u65:AV) (o1:AObj) (Yq:List AObj),kl1_0 ()=some v→Q (.exit 0) [u0,u1,u2,u3,u4,u5,J,J,J,J,u10,u11,u12,u13,u14,u15,u16,u17,u18,u19,u20,u21,u22,u23,u24,u25,u26,u27,u28,u29,u30,u31,u32,u33,u34,u35,u36,u37,u38,u39,u40,u41,u42,u43,u44,u45,u46,u47,u48,u49,u50,u51,u52,u53,u54,u55,u56,u57,u58,u59,u60,u61,u62,u63,u64,u65] (o1::Yq)) {T:List AV} (hT:zipKeep [o_,i_,i_,i_,i_,i_,o_,o_,o_,o_,o_,o_,i_,o_,o_,o_,o_,o_,o_,o_,o_,o_,o_,o_,o_,o_,o_,o_,o_,o_,o_,o_,o_,o_,o_,o_,o_,o_,o_,o_,o_,o_,o_,o_,o_,o_,o_,o_,o_,o_,o_,o_,o_,o_,o_,o_,o_,o_,o_,o_,o_,o_,o_,o_,o_,o_] T=slots 66 [(1,(.lst (begun.flatMap pr) begun.length .shared)),(2,(I atq)),(3,(I to)),(4,(I many)),(5,(.ptr 0 0)),(12,(I s1))]) (h:x90_l1 b begun atq to many rcF kl1_0 FU s1=some v) :
  wpR Tryz.prog ann90 90 0 none xrc90_2 T [AObj.cells [(I b.1),(.lst (b.2.flatMap pr) b.2.length .shared)]] Q:=by
 unfold xrc90_2
 obtain ⟨c_1,g_1⟩:∃ c,xrc90_1=c:=⟨_,rfl⟩
 rw [g_1]
 refine wp_loop hT ?_
 refine .intro (fun m T H=>∃ (s1:Int) (Y90_2:List AObj),T=slots 66 [(1,(.lst (begun.flatMap pr) begun.length .shared)),(2,(I atq)),(3,(I to)),(4,(I many)),(5,(.ptr 0 0)),(12,(I s1))]∧H=(AObj.cells [(I b.1),(.lst (b.2.flatMap pr) b.2.length .shared)]::Y90_2)∧x90_l1 b begun atq to many rcF kl1_0 m s1=some v) FU ⟨s1,[],rfl,rfl,h⟩ ?_
 clear h hT
 rintro m T H ⟨s1,Y90_2,rfl,rfl,h⟩
 cases m
 ·exact none_ne h
 rename_i m
 rw [x90_l1.eq_2] at h
 conv=>whnf
 rcases bt (decide (s1<(b.2.length:Int))) with hb2 | hb2
 ·rw [hb2]
  conv=>whnf
  replace h:=it_t hb2 h
  subst g_1
  refine x90_l2_ok rcF_ok ?_ ?_ (by exact rfl) h
  ·exact fun T H hh=>hR T H hh
  ·intro u0 u10 u11 u13 u14 u15 u16 u17 u18 u19 u20 u21 u22 u23 u24 u25 u26 u27 u28 u29 u30 u31 u32 u33 u34 u35 u36 u37 u38 u39 u40 u41 u42 u43 u44 u45 u46 u47 u48 u49 u50 u51 u52 u53 u54 u55 u56 u57 u58 u59 u60 u61 u62 u63 u64 u65 Yq h
   conv=>whnf
   exact ⟨m,Nat.lt_succ_self m,(w (s1+(1:Int))),_,rfl,rfl,h⟩
 ·rw [hb2]
  conv=>whnf
  replace h:=it_f hb2 h
  exact hkl1_0 _ _ _ _ _ _ _ _ _ _ _ _ _ _ _ _ _ _ _ _ _ _ _ _ _ _ _ _ _ _ _ _ _ _ _ _ _ _ _ _ _ _ _ _ _ _ _ _ _ _ _ _ _ _ _ _ _ _ _ _ _ _ _ _ h
theorem x90S_ok {rcF:(Int×(List (Int×Int)))→(List (Int×Int))→Int→Int→Int→Option ((List (Int×Int))×Bool)} (rcF_ok:∀ {y0:(Int×(List (Int×Int)))} {y1:(List (Int×Int))} {y2:Int} {y3:Int} {y4:Int} {r:((List (Int×Int))×Bool)},rcF y0 y1 y2 y3 y4=some r→PO 90 [(.agg [(I y0.1),(.lst (y0.2.flatMap pr) y0.2.length .shared)]),(.lst (y1.flatMap pr) y1.length .shared),(I y2),(I y3),(I y4)] (.tuple [(.lst (r.1.flatMap pr) r.1.length .shared),(B r.2)])) {b:(Int×(List (Int×Int)))} {begun:(List (Int×Int))} {atq:Int} {to:Int} {many:Int} {v:((List (Int×Int))×Bool)} (h:x90S rcF b begun atq to many=some v):PO 90 [(.agg [(I b.1),(.lst (b.2.flatMap pr) b.2.length .shared)]),(.lst (begun.flatMap pr) begun.length .shared),(I atq),(I to),(I many)] (.tuple [(.lst (v.1.flatMap pr) v.1.length .shared),(B v.2)]):=by
 refine fn_pureW hmix lxx90 rfl (pu_tup (allc (pu_flat (fun _=>(allc rfl (allc rfl rfl))) _ _ _) (allc rfl rfl))) fun Q hQ=>?_
 have hR:∀ T H,RetW [.tmp 10,.tmp 11] (.tuple [(.lst (v.1.flatMap pr) v.1.length .shared),(B v.2)]) .ret T H→Q .ret T H:=fun T H hh=>hQ _ T H hh
 unfold x90S at h
 unfold xrc90
 obtain ⟨c_2,g_2⟩:∃ c,xrc90_2=c:=⟨_,rfl⟩
 rw [g_2]
 conv=>whnf
 rcases bt (decide (many=(0:Int))) with hb1 | hb1
 ·rw [hb1]
  conv=>whnf
  replace h:=it_t hb1 h
  obtain rfl:=Option.some.inj h
  exact hR _ _ ⟨.inr rfl,_,rfl,_,frz_pure (pu_tup (allc (pu_flat (fun _=>(allc rfl (allc rfl rfl))) _ _ _) (allc rfl rfl))),rfl⟩
 ·rw [hb1]
  conv=>whnf
  replace h:=it_f hb1 h
  subst g_2
  refine x90_l1_ok rcF_ok ?_ ?_ (by exact rfl) h
  ·exact fun T H hh=>hR T H hh
  ·intro u0 u1 u2 u3 u4 u5 u10 u11 u12 u13 u14 u15 u16 u17 u18 u19 u20 u21 u22 u23 u24 u25 u26 u27 u28 u29 u30 u31 u32 u33 u34 u35 u36 u37 u38 u39 u40 u41 u42 u43 u44 u45 u46 u47 u48 u49 u50 u51 u52 u53 u54 u55 u56 u57 u58 u59 u60 u61 u62 u63 u64 u65 o1 Yq h
   conv=>whnf
   obtain rfl:=Option.some.inj h
   exact hR _ _ ⟨.inr rfl,_,rfl,_,frz_pure (pu_tup (allc rfl (allc rfl rfl))),rfl⟩
theorem x90F_ok:∀ (m:Nat) {b:(Int×(List (Int×Int)))} {begun:(List (Int×Int))} {atq:Int} {to:Int} {many:Int} {v:((List (Int×Int))×Bool)},x90F m b begun atq to many=some v→PO 90 [(.agg [(I b.1),(.lst (b.2.flatMap pr) b.2.length .shared)]),(.lst (begun.flatMap pr) begun.length .shared),(I atq),(I to),(I many)] (.tuple [(.lst (v.1.flatMap pr) v.1.length .shared),(B v.2)])
 | 0,_,_,_,_,_,_,h=>none_ne h
 | m+1,_,_,_,_,_,_,h=>x90S_ok (rcF:=x90F m) (fun h=>x90F_ok m h) h
theorem x90_ok {b:(Int×(List (Int×Int)))} {begun:(List (Int×Int))} {atq:Int} {to:Int} {many:Int} {v:((List (Int×Int))×Bool)} (h:x90 b begun atq to many=some v):PO 90 [(.agg [(I b.1),(.lst (b.2.flatMap pr) b.2.length .shared)]),(.lst (begun.flatMap pr) begun.length .shared),(I atq),(I to),(I many)] (.tuple [(.lst (v.1.flatMap pr) v.1.length .shared),(B v.2)]):=x90F_ok FU h

noncomputable def xrc46_1:RC :=
 .loop (some [o_,i_,i_,i_,o_,o_,o_,o_,i_,o_,o_,o_,o_,o_,o_,o_,o_,o_,o_,o_,o_,o_,o_,o_,o_,o_,o_,o_,o_,o_,o_,o_,o_,o_,o_,o_,o_,o_,o_,o_,o_,o_,o_,o_,o_,o_,o_,o_,o_,o_,o_,o_,o_,o_,o_]) (.seq (.seq (.reg false [I_ 39 [.sl 8] .mv,I_ 40 [.sl 3]
 (.fa 0),I_ 41 [.tv 40] (.ld .one),I_ 42 [.tv 39,.tv 41] (.bin .lss)]) (.cond (.sl 42) .skip (.exit 0))) (.seq (.block 1 (.seq (.reg false [I_ 46 [.sl 3] (.ld (.str 2)),I_ 47 [.sl 1] .mv,I_ 48 [.sl 2] .mv,I_ 49 [.sl 8]
 .mv,I_ 50 [.cv (.func 90 [] []),.sl 46,.cv (.lst [] 0 .full),.sl 47,.sl 48,.sl 49] (.call 3),I_ 45 [.tk 50] .mv,I_ 51 [.sl 45] (.ext 0),I_ 52 [.tv 45] (.ext 1),I_ 9 [.tk 51] .mv,I_ 10 [.tk 52] .mv]) (.seq (.reg false
 [I_ 53 [.tk 10] .mv]) (.cond (.sl 53) (.seq (.reg false [I_ 54 [.tk 9] .mv,I_ 6 [.tk 54] .mv,I_ 7 [.cv (.int .i64 0)] .mv]) .ret) .skip)))) (.reg false [I_ 43 [.tk 8] .mv,I_ 44 [.tv 43,.cv (.int .i64 1)] (.bin .add),I_ 8
 [.tk 44] .mv])))
noncomputable def xrc46:RC :=
 .seq (.reg false [I_ 3 [.tk 0] .box,I_ 6 [.cv (.lst [] 0 .full)] (.nil 2),I_ 7 [.cv (.int .i64 0)] .mv]) (.seq (.seq (.reg false [I_ 11 [.sl 3] (.ld (.str 2)),I_ 12 [.cv (.func 21 [] []),.sl 11] (.call 3),I_ 13 [.tv 12,.cv
 (.int .i64 0)] (.bin .neq)]) (.cond (.sl 13) (.seq (.reg false [I_ 14 [.tv 3] (.ld (.str 2)),I_ 15 [.cv (.func 21 [] []),.sl 14] (.call 3),I_ 6 [.cv (.lst [] 0 .full)] (.nil 2),I_ 7 [.tk 15] .mv]) .ret) .skip)) (.seq (.seq
 (.reg false [I_ 16 [.sl 1] .mv,I_ 17 [.tv 16,.cv (.int .i64 0)] (.bin .lss),I_ 18 [.tk 17] .mv,⟨some 19,[.sl 1],some (18,false),none,.mv⟩,⟨some 20,[.sl 3],some (18,false),none,.fa 0⟩,⟨some 21,[.tv 20],some
 (18,false),none,.ld .one⟩,⟨some 22,[.tv 19,.tv 21],some (18,false),none,.bin .geq⟩,I_ 23 [.tv 18,.cv (.bool true),.tv 22] .pick,I_ 24 [.tk 23] .mv,⟨some 25,[.sl 2],some (24,false),none,.mv⟩,⟨some 26,[.tv
 25,.cv (.int .i64 0)],some (24,false),none,.bin .lss⟩,I_ 27 [.tv 24,.cv (.bool true),.tv 26] .pick,I_ 28 [.tk 27] .mv,⟨some 29,[.sl 2],some (28,false),none,.mv⟩,⟨some 30,[.sl 3],some (28,false),none,.fa 0⟩,
 ⟨some 31,[.tv 30],some (28,false),none,.ld .one⟩,⟨some 32,[.tv 29,.tv 31],some (28,false),none,.bin .geq⟩,I_ 33 [.tv 28,.cv (.bool true),.tv 32] .pick,I_ 34 [.tk 33] .mv,⟨some 35,[.sl 1],some (34,false),
 none,.mv⟩,⟨some 36,[.sl 2],some (34,false),none,.mv⟩,⟨some 37,[.tv 35,.tv 36],some (34,false),none,.bin .eql⟩,I_ 38 [.tv 34,.cv (.bool true),.tv 37] .pick]) (.cond (.sl 38) (.seq (.reg false [I_ 6 [.cv (.lst []
 0 .full)] (.nil 2),I_ 7 [.cv (.int .i64 2)] .mv]) .ret) .skip)) (.seq (.seq (.reg false [I_ 8 [.cv (.int .i64 1)] .mv]) (.block 0 xrc46_1)) (.seq (.reg false [I_ 6 [.cv (.lst [] 0 .full)] (.nil 2),I_ 7 [.cv (.int .i64 5)]
 .mv]) .ret))))
theorem lxx46:linkF Tryz.prog ann46 46=some (xrc46,55,[.tmp 6,.tmp 7]):=by kernel_rfl
def x46_l1 (b:(Int×(List (Int×Int)))) (fromq:Int) (to:Int) (kl1_0:Unit→Option ((List (Int×Int))×Int)):Nat→Int→Option ((List (Int×Int))×Int)
 | 0,_=>none
 | m+1,s1 =>
   if (decide (s1<b.1))=true then
    (x90 b [] fromq to s1).bind fun r3 =>
    if r3.2=true then
     some (r3.1,(0:Int))
    else
     x46_l1 b fromq to kl1_0 m (w (s1+(1:Int)))
   else
    kl1_0 ()
def x46 (b:(Int×(List (Int×Int)))) (fromq:Int) (to:Int):Option ((List (Int×Int))×Int) :=
 (x21 b).bind fun r1 =>
 if (decide (r1≠(0:Int)))=true then
  (x21 b).bind fun r2 =>
  some ([],r2)
 else
  if (decide (fromq<(0:Int)))=true then
   some ([],(2:Int))
  else
   if (decide (b.1≤fromq))=true then
    some ([],(2:Int))
   else
    if (decide (to<(0:Int)))=true then
     some ([],(2:Int))
    else
     if (decide (b.1≤to))=true then
      some ([],(2:Int))
     else
      if (decide (fromq=to))=true then
       some ([],(2:Int))
      else
       x46_l1 b fromq to (fun _ =>
         some ([],(5:Int))) FU (1:Int)
theorem x46_l1_ok {b:(Int×(List (Int×Int)))} {fromq:Int} {to:Int} {kl1_0:Unit→Option ((List (Int×Int))×Int)} {s1:Int} {v:((List (Int×Int))×Int)} {Q:Ex→List AV→List AObj→Prop}   (hR:∀ T H,RetW [.tmp 6,.tmp 7] (.tuple [(.lst (v.1.flatMap pr) v.1.length .shared),(I v.2)]) .ret T H→Q .ret T H) (hkl1_0:∀ (u0:AV) (u1:AV) (u2:AV) (u3:AV) (u6:AV) (u7:AV) (u8:AV) (u9:AV) (u10:AV) (u11:AV) (u12:AV) (u13:AV) (u14:AV) (u15:AV) (u16:AV) (u17:AV) (u18:AV) (u19:AV) (u20:AV) (u21:AV) (u22:AV) (u23:AV) (u24:AV) (u25:AV) (u26:AV) (u27:AV) (u28:AV) (u29:AV) (u30:AV) (u31:AV) (u32:AV) (u33:AV) (u34:AV) (u35:AV) (u36:AV) (u37:AV) (u38:AV) (u39:AV) (u40:AV) (u41:AV) (u42:AV) (u43:AV) (u44:AV) (u45:AV) (u46:AV) (u47:AV) (u48:AV) (u49:AV) (u50:AV) (u51:AV) (u52:AV) (u53:AV) (u54:AV) (o1:AObj),kl1_0 ()=some v→Q (.exit 0) [u0,u1,u2,u3,J,J,u6,u7,u8,u9,u10,u11,u12,u13,u14,u15,u16,u17,u18,u19,u20,u21,u22,u23,u24,u25,u26,u27,u28,u29,u30,u31,u32,u33,u34,u35,u36,u37,u38,u39,u40,u41,u42,u43,u44,u45,u46,u47,u48,u49,u50,u51,u52,u53,u54] [o1]) {T:List AV} (hT:zipKeep [o_,i_,i_,i_,o_,o_,o_,o_,i_,o_,o_,o_,o_,o_,o_,o_,o_,o_,o_,o_,o_,o_,o_,o_,o_,o_,o_,o_,o_,o_,o_,o_,o_,o_,o_,o_,o_,o_,o_,o_,o_,o_,o_,o_,o_,o_,o_,o_,o_,o_,o_,o_,o_,o_,o_] T=slots 55 [(1,(I fromq)),(2,(I to)),(3,(.ptr 0 0)),(8,(I s1))]) (h:x46_l1 b fromq to kl1_0 FU s1=some v) :
  wpR Tryz.prog ann46 46 0 none xrc46_1 T [AObj.cells [(I b.1),(.lst (b.2.flatMap pr) b.2.length .shared)]] Q:=by
 unfold xrc46_1
 skip
 refine wp_loop hT ?_
 refine .intro (fun m T H=>∃ (s1:Int),T=slots 55 [(1,(I fromq)),(2,(I to)),(3,(.ptr 0 0)),(8,(I s1))]∧H=[AObj.cells [(I b.1),(.lst (b.2.flatMap pr) b.2.length .shared)]]∧x46_l1 b fromq to kl1_0 m s1=some v) FU ⟨s1,rfl,rfl,h⟩ ?_
 clear h hT
 rintro m T H ⟨s1,rfl,rfl,h⟩
 cases m
 ·exact none_ne h
 rename_i m
 rw [x46_l1.eq_2] at h
 conv=>whnf
 rcases bt (decide (s1<b.1)) with hb9 | hb9
 ·rw [hb9]
  conv=>whnf
  replace h:=it_t hb9 h
  obtain ⟨r3,hb10,h⟩:=bd_some h
  refine ⟨(allc (pu_agg (allc rfl (allc (pu_flat (fun _=>(allc rfl (allc rfl rfl))) _ _ _) rfl))) (allc rfl (allc rfl (allc rfl (allc rfl rfl))))),_,x90_ok hb10,?_⟩
  conv=>whnf
  rcases bt r3.2 with hb11 | hb11
  ·rw [hb11]
   conv=>whnf
   replace h:=it_t hb11 h
   obtain rfl:=Option.some.inj h
   exact hR _ _ ⟨.inr rfl,_,rfl,_,frz_pure (pu_tup (allc (pu_flat (fun _=>(allc rfl (allc rfl rfl))) _ _ _) (allc rfl rfl))),rfl⟩
  ·rw [hb11]
   conv=>whnf
   replace h:=it_f hb11 h
   exact ⟨m,Nat.lt_succ_self m,(w (s1+(1:Int))),rfl,rfl,h⟩
 ·rw [hb9]
  conv=>whnf
  replace h:=it_f hb9 h
  exact hkl1_0 _ _ _ _ _ _ _ _ _ _ _ _ _ _ _ _ _ _ _ _ _ _ _ _ _ _ _ _ _ _ _ _ _ _ _ _ _ _ _ _ _ _ _ _ _ _ _ _ _ _ _ _ _ _ h
theorem x46_ok {b:(Int×(List (Int×Int)))} {fromq:Int} {to:Int} {v:((List (Int×Int))×Int)} (h:x46 b fromq to=some v):PO 46 [(.agg [(I b.1),(.lst (b.2.flatMap pr) b.2.length .shared)]),(I fromq),(I to)] (.tuple [(.lst (v.1.flatMap pr) v.1.length .shared),(I v.2)]):=by
 refine fn_pureW hmix lxx46 rfl (pu_tup (allc (pu_flat (fun _=>(allc rfl (allc rfl rfl))) _ _ _) (allc rfl rfl))) fun Q hQ=>?_
 have hR:∀ T H,RetW [.tmp 6,.tmp 7] (.tuple [(.lst (v.1.flatMap pr) v.1.length .shared),(I v.2)]) .ret T H→Q .ret T H:=fun T H hh=>hQ _ T H hh
 unfold x46 at h
 unfold xrc46
 obtain ⟨c_1,g_1⟩:∃ c,xrc46_1=c:=⟨_,rfl⟩
 rw [g_1]
 conv=>whnf
 obtain ⟨r1,hb1,h⟩:=bd_some h
 refine ⟨(allc (pu_agg (allc rfl (allc (pu_flat (fun _=>(allc rfl (allc rfl rfl))) _ _ _) rfl))) rfl),_,x21_ok hb1,?_⟩
 conv=>whnf
 rcases bt (decide (r1≠(0:Int))) with hb2 | hb2
 ·rw [hb2]
  conv=>whnf
  replace h:=it_t hb2 h
  obtain ⟨r2,hb3,h⟩:=bd_some h
  refine ⟨(allc (pu_agg (allc rfl (allc (pu_flat (fun _=>(allc rfl (allc rfl rfl))) _ _ _) rfl))) rfl),_,x21_ok hb3,?_⟩
  conv=>whnf
  obtain rfl:=Option.some.inj h
  exact hR _ _ ⟨.inr rfl,_,rfl,_,frz_pure (pu_tup (allc rfl (allc rfl rfl))),rfl⟩
 ·rw [hb2]
  conv=>whnf
  replace h:=it_f hb2 h
  rcases bt (decide (fromq<(0:Int))) with hb4 | hb4
  ·rw [hb4]
   conv=>whnf
   replace h:=it_t hb4 h
   obtain rfl:=Option.some.inj h
   exact hR _ _ ⟨.inr rfl,_,rfl,_,frz_pure (pu_tup (allc rfl (allc rfl rfl))),rfl⟩
  ·rw [hb4]
   conv=>whnf
   replace h:=it_f hb4 h
   rcases bt (decide (b.1≤fromq)) with hb5 | hb5
   ·rw [hb5]
    conv=>whnf
    replace h:=it_t hb5 h
    obtain rfl:=Option.some.inj h
    exact hR _ _ ⟨.inr rfl,_,rfl,_,frz_pure (pu_tup (allc rfl (allc rfl rfl))),rfl⟩
   ·rw [hb5]
    conv=>whnf
    replace h:=it_f hb5 h
    rcases bt (decide (to<(0:Int))) with hb6 | hb6
    ·rw [hb6]
     conv=>whnf
     replace h:=it_t hb6 h
     obtain rfl:=Option.some.inj h
     exact hR _ _ ⟨.inr rfl,_,rfl,_,frz_pure (pu_tup (allc rfl (allc rfl rfl))),rfl⟩
    ·rw [hb6]
     conv=>whnf
     replace h:=it_f hb6 h
     rcases bt (decide (b.1≤to)) with hb7 | hb7
     ·rw [hb7]
      conv=>whnf
      replace h:=it_t hb7 h
      obtain rfl:=Option.some.inj h
      exact hR _ _ ⟨.inr rfl,_,rfl,_,frz_pure (pu_tup (allc rfl (allc rfl rfl))),rfl⟩
     ·rw [hb7]
      conv=>whnf
      replace h:=it_f hb7 h
      rcases bt (decide (fromq=to)) with hb8 | hb8
      ·rw [hb8]
       conv=>whnf
       replace h:=it_t hb8 h
       obtain rfl:=Option.some.inj h
       exact hR _ _ ⟨.inr rfl,_,rfl,_,frz_pure (pu_tup (allc rfl (allc rfl rfl))),rfl⟩
      ·rw [hb8]
       conv=>whnf
       replace h:=it_f hb8 h
       subst g_1
       refine x46_l1_ok ?_ ?_ (by exact rfl) h
       ·exact fun T H hh=>hR T H hh
       ·intro u0 u1 u2 u3 u6 u7 u8 u9 u10 u11 u12 u13 u14 u15 u16 u17 u18 u19 u20 u21 u22 u23 u24 u25 u26 u27 u28 u29 u30 u31 u32 u33 u34 u35 u36 u37 u38 u39 u40 u41 u42 u43 u44 u45 u46 u47 u48 u49 u50 u51 u52 u53 u54 o1 h
        conv=>whnf
        obtain rfl:=Option.some.inj h
        exact hR _ _ ⟨.inr rfl,_,rfl,_,frz_pure (pu_tup (allc rfl (allc rfl rfl))),rfl⟩

noncomputable def xrc43_1:RC :=
 .loop (some [i_,i_,o_,o_,o_,i_,o_,o_,o_,o_,o_,o_,o_,o_,o_,o_,o_,o_,o_,o_,o_,o_,o_,o_,o_,o_]) (.seq (.seq (.reg false [I_ 11 [.sl
 5] .mv,I_ 12 [.sl 0] .mv,I_ 13 [.tk 12] .lenS,I_ 14 [.tv 11,.tv 13] (.bin .lss)]) (.cond (.sl 14) .skip (.exit 0))) (.seq (.block 1 (.seq (.reg true [I_ 17 [.sl 0] .mv,I_ 18 [.sl 5] .mv,I_ 19 [.tv 17,.tv 18] (.ia 2),I_
 20 [.tv 19] (.ld (.str 2)),I_ 21 [.sl 1] .mv,I_ 22 [.sl 5] .mv,I_ 23 [.tv 21,.tv 22] (.ia 2),I_ 24 [.tv 23] (.ld (.str 2)),I_ 25 [.tv 20,.tv 24] (.other (Oper.mk (some 25) (Op.binOp .neq 65 (Operand.tmp 20) (Operand.tmp
 24) 65) 4 "law.go:88" (Array.mk [Edge.mk 3 Ground.data, Edge.mk 7 Ground.data]) none) 0)]) (.cond (.sl 25) (.seq (.reg false [I_ 4 [.cv (.bool false)] .mv]) .ret) .skip))) (.reg false [I_ 15 [.tk 5] .mv, I_ 16 [.tv 15, .cv
 (.int .i64 1)] (.bin .add),I_ 5 [.tk 16] .mv])))
noncomputable def xrc43:RC :=
 .seq (.reg false [I_ 4 [.cv (.bool false)] .mv]) (.seq (.seq (.reg false [I_ 6 [.sl 0] .mv,I_ 7 [.tk 6] .lenS,I_ 8 [.sl 1] .mv,I_ 9 [.tk 8] .lenS,I_ 10 [.tv 7,.tv 9] (.bin .neq)]) (.cond (.sl 10) (.seq (.reg false [I_ 4 [.cv
 (.bool false)] .mv]) .ret) .skip)) (.seq (.seq (.reg false [I_ 5 [.cv (.int .i64 0)] .mv]) (.block 0 xrc43_1)) (.seq (.reg false [I_ 4 [.cv (.bool true)] .mv]) .ret)))
theorem lxx43:linkF Tryz.prog ann43 43=some (xrc43,26,[.tmp 4]):=by kernel_rfl
def x43_l1 (a:(List (Int×Int))) (b:(List (Int×Int))) (kl1_0:Unit→Option Bool):Nat→Int→Option Bool
 | 0,_=>none
 | m+1,s1 =>
   if (decide (s1<(a.length:Int)))=true then
    gd (0≤s1∧s1<(a.length:Int)) <|
    gd (0≤s1∧s1<(b.length:Int)) <|
    if (decide ((ix a s1)=(ix b s1)))=true then
     x43_l1 a b kl1_0 m (w (s1+(1:Int)))
    else
     some false
   else
    kl1_0 ()
def x43 (a:(List (Int×Int))) (b:(List (Int×Int))):Option Bool :=
 if (decide ((a.length:Int)≠(b.length:Int)))=true then
  some false
 else
  x43_l1 a b (fun _ =>
    some true) FU (0:Int)
theorem x43_l1_ok {a:(List (Int×Int))} {b:(List (Int×Int))} {kl1_0:Unit→Option Bool} {s1:Int} {v:Bool} {Q:Ex→List AV→List AObj→Prop}   (hR:∀ T H,RetW [.tmp 4] (B v) .ret T H→Q .ret T H) (hkl1_0:∀ (u0:AV) (u1:AV) (u4:AV) (u5:AV) (u6:AV) (u7:AV) (u8:AV) (u9:AV) (u10:AV) (u11:AV) (u12:AV) (u13:AV) (u14:AV) (u15:AV) (u16:AV) (u17:AV) (u18:AV) (u19:AV) (u20:AV) (u21:AV) (u22:AV) (u23:AV) (u24:AV) (u25:AV),kl1_0 ()=some v→Q (.exit 0) [u0,u1,J,J,u4,u5,u6,u7,u8,u9,u10,u11,u12,u13,u14,u15,u16,u17,u18,u19,u20,u21,u22,u23,u24,u25] []) {T:List AV} (hT:zipKeep [i_,i_,o_,o_,o_,i_,o_,o_,o_,o_,o_,o_,o_,o_,o_,o_,o_,o_,o_,o_,o_,o_,o_,o_,o_,o_] T=slots 26 [(0,(.lst (a.flatMap pr) a.length .shared)),(1,(.lst (b.flatMap pr) b.length .shared)),(5,(I s1))]) (h:x43_l1 a b kl1_0 FU s1=some v) :
  wpR Tryz.prog ann43 43 0 none xrc43_1 T [] Q:=by
 unfold xrc43_1
 skip
 refine wp_loop hT ?_
 refine .intro (fun m T H=>∃ (s1:Int),T=slots 26 [(0,(.lst (a.flatMap pr) a.length .shared)),(1,(.lst (b.flatMap pr) b.length .shared)),(5,(I s1))]∧H=[]∧x43_l1 a b kl1_0 m s1=some v) FU ⟨s1,rfl,rfl,h⟩ ?_
 clear h hT
 rintro m T H ⟨s1,rfl,rfl,h⟩
 cases m
 ·exact none_ne h
 rename_i m
 rw [x43_l1.eq_2] at h
 conv=>whnf
 rcases bt (decide (s1<(a.length:Int))) with hb2 | hb2
 ·rw [hb2]
  conv=>whnf
  replace h:=it_t hb2 h
  obtain ⟨hb3,h⟩:=gd_some h
  refine ⟨hb3,?_⟩
  rw [dropS pr 2 pr_len a s1 hb3]
  conv=>whnf
  obtain ⟨hb4,h⟩:=gd_some h
  refine ⟨hb4,?_⟩
  rw [dropS pr 2 pr_len b s1 hb4]
  conv=>whnf
  refine ⟨_,_,fun C=>opAll_bin rfl rfl (aBin_st (fs:=fsOf Tryz.prog 65) (by kernel_rfl) (by kernel_rfl) (by kernel_rfl) (by kernel_rfl) (by kernel_rfl) _ _ _ _ (.inr rfl)),?_⟩
  conv=>whnf
  rcases bt (decide ((ix a s1)=(ix b s1))) with hb5 | hb5
  ·rw [hb5]
   conv=>whnf
   replace h:=it_t hb5 h
   exact ⟨m,Nat.lt_succ_self m,(w (s1+(1:Int))),rfl,rfl,h⟩
  ·rw [hb5]
   conv=>whnf
   replace h:=it_f hb5 h
   obtain rfl:=Option.some.inj h
   exact hR _ _ ⟨.inr rfl,_,rfl,_,frz_pure rfl,rfl⟩
 ·rw [hb2]
  conv=>whnf
  replace h:=it_f hb2 h
  exact hkl1_0 _ _ _ _ _ _ _ _ _ _ _ _ _ _ _ _ _ _ _ _ _ _ _ _ h
theorem x43_ok {a:(List (Int×Int))} {b:(List (Int×Int))} {v:Bool} (h:x43 a b=some v):PO 43 [(.lst (a.flatMap pr) a.length .shared),(.lst (b.flatMap pr) b.length .shared)] (B v):=by
 refine fn_pureW hmix lxx43 rfl rfl fun Q hQ=>?_
 have hR:∀ T H,RetW [.tmp 4] (B v) .ret T H→Q .ret T H:=fun T H hh=>hQ _ T H hh
 unfold x43 at h
 unfold xrc43
 obtain ⟨c_1,g_1⟩:∃ c,xrc43_1=c:=⟨_,rfl⟩
 rw [g_1]
 conv=>whnf
 rcases bt (decide ((a.length:Int)≠(b.length:Int))) with hb1 | hb1
 ·rw [hb1]
  conv=>whnf
  replace h:=it_t hb1 h
  obtain rfl:=Option.some.inj h
  exact hR _ _ ⟨.inr rfl,_,rfl,_,frz_pure rfl,rfl⟩
 ·rw [hb1]
  conv=>whnf
  replace h:=it_f hb1 h
  subst g_1
  refine x43_l1_ok ?_ ?_ (by exact rfl) h
  ·exact fun T H hh=>hR T H hh
  ·intro u0 u1 u4 u5 u6 u7 u8 u9 u10 u11 u12 u13 u14 u15 u16 u17 u18 u19 u20 u21 u22 u23 u24 u25 h
   conv=>whnf
   obtain rfl:=Option.some.inj h
   exact hR _ _ ⟨.inr rfl,_,rfl,_,frz_pure rfl,rfl⟩
end Go.Proofs.YtfakoboiahbhaaaGreat.Ab
