/- MADE BY PROGRAM (ex.py): functions as plain Lean, with their walks. -/
import Derived.Test.YtbnbjjgagikobaaGreatJa5
import Derived.KernelRfl
set_option linter.unusedSimpArgs false
set_option linter.unusedVariables false
set_option linter.unusedSectionVars false
namespace Go.Proofs.YtbnbjjgagikobaaGreat.Ab
open Go
set_option maxRecDepth 20000
set_option maxHeartbeats 4000000
noncomputable def xrc50 : RC :=
  .seq (.reg false [I_ 2 [.tk 0] .box, I_ 4 [.cv (.int .i64 0)] .mv, I_ 5 [.cv (.bool false)] .mv]) (.seq (.reg false [I_ 9 [.tv 2] (.ld (.str 4)), I_ 10 [.tk 1] .mv, I_ 11 [.cv (.func 33 [] []), .sl 9, .sl 10] (.call 3), I_ 8 [.tk
  11] .mv, I_ 12 [.sl 8] (.ext 0), I_ 13 [.tv 8] (.ext 1), I_ 6 [.tk 12] .mv, I_ 7 [.tk 13] .mv]) (.seq (.reg false [I_ 14 [.sl 6] .mv, I_ 15 [.tk 7] .mv, I_ 16 [.tv 15, .cv (.int .i64 0)] (.bin .eql), I_ 17 [.tk 16] .mv, ⟨some
  18, [.sl 6], some (17, true), none, .mv⟩, ⟨some 19, [.tv 18, .cv (.int .i64 0)], some (17, true), none, .bin .geq⟩, I_ 20 [.tv 17, .tv 19, .cv (.bool false)] .pick, I_ 21 [.tk 20] .mv, ⟨some 22, [.tk 6], some (21, true), none,
  .mv⟩, ⟨some 23, [.tv 22, .cv (.int .i64 288)], some (21, true), none, .bin .leq⟩, I_ 24 [.tv 21, .tv 23, .cv (.bool false)] .pick, I_ 4 [.tk 14] .mv, I_ 5 [.tk 24] .mv]) .ret))
theorem lxx50 : linkF Tryz.prog ann50 50 = some (xrc50, 25, [.tmp 4, .tmp 5]) := by kernel_rfl
/-- crossband/crossbandlaw08.hours -/
def x50 (b : (Int × (List Int) × Int × Int)) (panels : (List (Int × Int))) : Option (Int × Bool) :=
  (x33 b panels).bind fun r1 =>
  if (decide (r1.2 = (0 : Int))) = true then
    if (decide ((0 : Int) ≤ r1.1)) = true then
      some (r1.1, (decide (r1.1 ≤ (288 : Int))))
    else
      some (r1.1, false)
  else
    some (r1.1, false)
theorem x50_ok {b : (Int × (List Int) × Int × Int)} {panels : (List (Int × Int))} {v : (Int × Bool)} (h : x50 b panels = some v) : PO 50 [(.agg [(I b.1), (.lst (b.2.1.map I) b.2.1.length .shared), (I b.2.2.1), (I b.2.2.2)]), (.lst (panels.flatMap pr) panels.length .shared)] (.tuple [(I v.1), (B v.2)]) := by
  refine fn_pureW hmix lxx50 rfl (pu_tup (allc rfl (allc rfl rfl))) fun Q hQ => ?_
  have hR : ∀ T H, RetW [.tmp 4, .tmp 5] (.tuple [(I v.1), (B v.2)]) .ret T H → Q .ret T H := fun T H hh => hQ _ T H hh
  unfold x50 at h
  unfold xrc50
  skip
  conv => whnf
  obtain ⟨r1, hb1, h⟩ := bd_some h
  refine ⟨(allc (pu_agg (allc rfl (allc (pu_map (fun _ => rfl) _ _ _) (allc rfl (allc rfl rfl))))) (allc (pu_flat (fun _ => (allc rfl (allc rfl rfl))) _ _ _) rfl)), _, x33_ok hb1, ?_⟩
  conv => whnf
  rcases bt (decide (r1.2 = (0 : Int))) with hb2 | hb2
  · rw [hb2]
    conv => whnf
    replace h := it_t hb2 h
    rcases bt (decide ((0 : Int) ≤ r1.1)) with hb3 | hb3
    · rw [hb3]
      conv => whnf
      replace h := it_t hb3 h
      obtain rfl := Option.some.inj h
      exact hR _ _ ⟨.inr rfl, _, rfl, _, frz_pure (pu_tup (allc rfl (allc rfl rfl))), rfl⟩
    · rw [hb3]
      conv => whnf
      replace h := it_f hb3 h
      obtain rfl := Option.some.inj h
      exact hR _ _ ⟨.inr rfl, _, rfl, _, frz_pure (pu_tup (allc rfl (allc rfl rfl))), rfl⟩
  · rw [hb2]
    conv => whnf
    replace h := it_f hb2 h
    obtain rfl := Option.some.inj h
    exact hR _ _ ⟨.inr rfl, _, rfl, _, frz_pure (pu_tup (allc rfl (allc rfl rfl))), rfl⟩
end Go.Proofs.YtbnbjjgagikobaaGreat.Ab

/- MADE BY PROGRAM (ex.py): functions as plain Lean, with their walks. -/
namespace Go.Proofs.YtbnbjjgagikobaaGreat.Ab
open Go
set_option maxRecDepth 20000
set_option maxHeartbeats 4000000
noncomputable def xrc9_1 : RC :=
  .loop (some [o_,i_,i_,o_,o_,i_,o_,i_,i_,i_,o_,o_,o_,o_,o_,o_,o_,o_,o_,o_,o_,o_,o_,o_,o_,o_,o_,o_,o_,o_,o_,o_,o_,o_,o_,o_,o_,o_,o_,o_,o_,o_,o_,o_,o_,o_,o_,o_,o_,o_,o_,o_,o_,o_,o_,o_,o_,o_,o_,o_,o_,o_,o_,o_,o_]) (.seq (.seq (.reg false [I_ 29 [.sl 9] .mv, I_ 30 [.sl 1] .mv, I_ 31 [.tk 30] .lenS, I_ 32 [.tv 29, .tv 31] (.bin .lss)]) (.cond (.sl 32) .skip (.exit 2))) (.seq (.block 3 (.seq (.reg false [I_ 35 [.sl 1] .mv, I_
  36 [.sl 9] .mv, I_ 37 [.tv 35, .tv 36] (.ia 2), I_ 38 [.tv 37] (.fa 0), I_ 39 [.tv 38] (.ld .one), I_ 40 [.sl 7] .mv, I_ 41 [.tv 39, .tv 40] (.bin .eql)]) (.cond (.sl 41) (.reg false [I_ 42 [.tk 8] .mv, I_ 43 [.sl 1] .mv, I_ 44
  [.sl 9] .mv, I_ 45 [.tv 43, .tv 44] (.ia 2), I_ 46 [.tv 45] (.ld (.str 2)), I_ 47 [.tv 46] (.buildS 1 2 [.int .i64 0, .int .i64 0] [0]), I_ 48 [.tk 42, .tk 47] (.app 2 16), I_ 8 [.tk 48] .mv]) .skip))) (.reg false [I_ 33 [.tk
  9] .mv, I_ 34 [.tv 33, .cv (.int .i64 1)] (.bin .add), I_ 9 [.tk 34] .mv])))
noncomputable def xrc9_2 : RC :=
  .loop (some [o_,i_,i_,o_,o_,i_,o_,i_,o_,o_,o_,o_,o_,o_,o_,o_,o_,o_,o_,o_,o_,o_,o_,o_,o_,o_,o_,o_,o_,o_,o_,o_,o_,o_,o_,o_,o_,o_,o_,o_,o_,o_,o_,o_,o_,o_,o_,o_,o_,o_,o_,o_,o_,o_,o_,o_,o_,o_,o_,o_,o_,o_,o_,o_,o_]) (.seq (.seq (.reg false [I_ 25 [.sl 7] .mv, I_ 26 [.tv 25, .cv (.int .i64 20)] (.bin .leq)]) (.cond (.sl 26) .skip (.exit 0))) (.seq (.block 1 (.seq (.reg false [I_ 8 [.cv (.lst [] 0 .full)] (.nil 2)]) (.seq
  (.seq (.reg false [I_ 9 [.cv (.int .i64 0)] .mv]) (.block 2 xrc9_1)) (.seq (.reg false [I_ 50 [.sl 2] (.ld (.str 4)), I_ 51 [.tk 8] .mv, I_ 52 [.cv (.func 50 [] []), .sl 50, .sl 51] (.call 3), I_ 49 [.tk 52] .mv, I_ 53 [.sl 49]
  (.ext 0), I_ 54 [.tv 49] (.ext 1), I_ 10 [.tk 53] .mv, I_ 11 [.tk 54] .mv]) (.seq (.seq (.reg false [I_ 55 [.tk 11] .mv, I_ 56 [.tv 55] (.un .not)]) (.cond (.sl 56) (.seq (.reg false [I_ 4 [.cv (.bool false)] .mv]) .ret)
  .skip)) (.reg false [I_ 57 [.tk 5] .mv, I_ 58 [.tk 10] .mv, I_ 59 [.tv 57, .tv 58] (.bin .sub), I_ 5 [.tk 59] .mv])))))) (.reg false [I_ 27 [.tk 7] .mv, I_ 28 [.tv 27, .cv (.int .i64 1)] (.bin .add), I_ 7 [.tk 28] .mv])))
noncomputable def xrc9 : RC :=
  .seq (.reg false [I_ 2 [.tk 0] .box, I_ 4 [.cv (.bool false)] .mv]) (.seq (.seq (.reg false [I_ 12 [.sl 2] (.ld (.str 4)), I_ 13 [.sl 1] .mv, I_ 14 [.cv (.func 45 [] []), .sl 12, .sl 13] (.call 3), I_ 15 [.tv 14] (.un .not)])
  (.cond (.sl 15) (.seq (.reg false [I_ 16 [.cv (.func 17 [] [])] (.call 3), I_ 4 [.tk 16] .mv]) .ret) .skip)) (.seq (.reg false [I_ 18 [.sl 2] (.ld (.str 4)), I_ 19 [.sl 1] .mv, I_ 20 [.cv (.func 50 [] []), .sl 18, .sl 19]
  (.call 3), I_ 17 [.tk 20] .mv, I_ 21 [.sl 17] (.ext 0), I_ 22 [.tv 17] (.ext 1), I_ 5 [.tk 21] .mv, I_ 6 [.tk 22] .mv]) (.seq (.seq (.reg false [I_ 23 [.tk 6] .mv, I_ 24 [.tv 23] (.un .not)]) (.cond (.sl 24) (.seq (.reg false
  [I_ 4 [.cv (.bool false)] .mv]) .ret) .skip)) (.seq (.seq (.reg false [I_ 7 [.cv (.int .i64 0)] .mv]) (.block 0 xrc9_2)) (.seq (.reg false [I_ 60 [.tk 5] .mv, I_ 61 [.tv 60, .cv (.int .i64 0)] (.bin .eql), I_ 62 [.tk 61] .mv,
  ⟨some 63, [.cv (.func 17 [] [])], some (62, true), none, .call 3⟩, I_ 64 [.tv 62, .tv 63, .cv (.bool false)] .pick, I_ 4 [.tk 64] .mv]) .ret)))))
theorem lxx9 : linkF Tryz.prog ann9 9 = some (xrc9, 65, [.tmp 4]) := by kernel_rfl
def x9_l2 (panels : (List (Int × Int))) (s2 : Int) (kl2_0 : (List (Int × Int)) → Option Bool) : Nat → (List (Int × Int)) → Int → Option Bool
  | 0, _, _ => none
  | m + 1, s3, s4 =>
    if (decide (s4 < (panels.length : Int))) = true then
      gd (0 ≤ s4 ∧ s4 < (panels.length : Int)) <|
      if (decide ((ix panels s4).1 = s2)) = true then
        gd (0 ≤ s4 ∧ s4 < (panels.length : Int)) <|
        gd ((s3.length + 1) * 16 ≤ 140737488355328) <|
        x9_l2 panels s2 kl2_0 m (s3 ++ [(ix panels s4)]) (w (s4 + (1 : Int)))
      else
        x9_l2 panels s2 kl2_0 m s3 (w (s4 + (1 : Int)))
    else
      kl2_0 s3
def x9_l1 (b : (Int × (List Int) × Int × Int)) (panels : (List (Int × Int))) (kl1_0 : Int → Option Bool) : Nat → Int → Int → Option Bool
  | 0, _, _ => none
  | m + 1, s1, s2 =>
    if (decide (s2 ≤ (20 : Int))) = true then
      x9_l2 panels s2 (fun z1 =>
          (x50 b z1).bind fun r3 =>
          if r3.2 = true then
            x9_l1 b panels kl1_0 m (w (s1 - r3.1)) (w (s2 + (1 : Int)))
          else
            some false) FU ([] : List (Int × Int)) (0 : Int)
    else
      kl1_0 s1
/-- crossband/crossbandlaw08.PressHeats -/
def x9 (b : (Int × (List Int) × Int × Int)) (panels : (List (Int × Int))) : Option Bool :=
  (x45 b panels).bind fun r1 =>
  if r1 = true then
    (x50 b panels).bind fun r2 =>
    if r2.2 = true then
      x9_l1 b panels (fun z2 =>
          if (decide (z2 = (0 : Int))) = true then
            (x17).bind fun r4 =>
            some r4
          else
            some false) FU r2.1 (0 : Int)
    else
      some false
  else
    (x17).bind fun r5 =>
    some r5
theorem x9_l2_ok {panels : (List (Int × Int))} {s2 : Int} {kl2_0 : (List (Int × Int)) → Option Bool} {s3 : (List (Int × Int))} {s4 : Int} {b : (Int × (List Int) × Int × Int)} {s1 : Int} {v : Bool} {Q : Ex → List AV → List AObj → Prop}   (hkl2_0 : ∀ (z1 : (List (Int × Int))) (u0 : AV) (u4 : AV) (u6 : AV) (u9 : AV) (u10 : AV) (u11 : AV) (u12 : AV) (u13 : AV) (u14 : AV) (u15 : AV) (u16 : AV) (u17 : AV) (u18 : AV) (u19 : AV) (u20 : AV) (u21 : AV) (u22 : AV) (u23 : AV) (u24 : AV) (u25 : AV) (u26 : AV) (u27 : AV) (u28 : AV) (u29 : AV) (u30 : AV) (u31 : AV) (u32 : AV) (u33 : AV) (u34 : AV) (u35 : AV) (u36 : AV) (u37 : AV) (u38 : AV) (u39 : AV) (u40 : AV) (u41 : AV) (u42 : AV) (u43 : AV) (u44 : AV) (u45 : AV) (u46 : AV) (u47 : AV) (u48 : AV) (u49 : AV) (u50 : AV) (u51 : AV) (u52 : AV) (u53 : AV) (u54 : AV) (u55 : AV) (u56 : AV) (u57 : AV) (u58 : AV) (u59 : AV) (u60 : AV) (u61 : AV) (u62 : AV) (u63 : AV) (u64 : AV), kl2_0 z1 = some v → Q (.exit 2) [u0, (.lst (panels.flatMap pr) panels.length .shared), (.ptr 0 0), J, u4, (I s1), u6, (I s2), (.lst (z1.flatMap pr) z1.length (.uniq 2)), u9, u10, u11, u12, u13, u14, u15, u16, u17, u18, u19, u20, u21, u22, u23, u24, u25, u26, u27, u28, u29, u30, u31, u32, u33, u34, u35, u36, u37, u38, u39, u40, u41, u42, u43, u44, u45, u46, u47, u48, u49, u50, u51, u52, u53, u54, u55, u56, u57, u58, u59, u60, u61, u62, u63, u64] [AObj.cells [(I b.1), (.lst (b.2.1.map I) b.2.1.length .shared), (I b.2.2.1), (I b.2.2.2)]]) {T : List AV} (hT : zipKeep [o_,i_,i_,o_,o_,i_,o_,i_,i_,i_,o_,o_,o_,o_,o_,o_,o_,o_,o_,o_,o_,o_,o_,o_,o_,o_,o_,o_,o_,o_,o_,o_,o_,o_,o_,o_,o_,o_,o_,o_,o_,o_,o_,o_,o_,o_,o_,o_,o_,o_,o_,o_,o_,o_,o_,o_,o_,o_,o_,o_,o_,o_,o_,o_,o_] T = slots 65 [(1, (.lst (panels.flatMap pr) panels.length .shared)), (2, (.ptr 0 0)), (5, (I s1)), (7, (I s2)), (8, (.lst (s3.flatMap pr) s3.length (.uniq 2))), (9, (I s4))]) (h : x9_l2 panels s2 kl2_0 FU s3 s4 = some v) :
    wpR Tryz.prog ann9 9 0 none xrc9_1 T [AObj.cells [(I b.1), (.lst (b.2.1.map I) b.2.1.length .shared), (I b.2.2.1), (I b.2.2.2)]] Q := by
  unfold xrc9_1
  skip
  refine wp_loop hT ?_
  refine .intro (fun m T H => ∃ (s3 : (List (Int × Int))) (s4 : Int), T = slots 65 [(1, (.lst (panels.flatMap pr) panels.length .shared)), (2, (.ptr 0 0)), (5, (I s1)), (7, (I s2)), (8, (.lst (s3.flatMap pr) s3.length (.uniq 2))), (9, (I s4))] ∧ H = [AObj.cells [(I b.1), (.lst (b.2.1.map I) b.2.1.length .shared), (I b.2.2.1), (I b.2.2.2)]] ∧ x9_l2 panels s2 kl2_0 m s3 s4 = some v) FU ⟨s3, s4, rfl, rfl, h⟩ ?_
  clear h hT
  rintro m T H ⟨s3, s4, rfl, rfl, h⟩
  cases m
  · exact none_ne h
  rename_i m
  rw [x9_l2.eq_2] at h
  conv => whnf
  rcases bt (decide (s4 < (panels.length : Int))) with hb5 | hb5
  · rw [hb5]
    conv => whnf
    replace h := it_t hb5 h
    obtain ⟨hb6, h⟩ := gd_some h
    refine ⟨hb6, ?_⟩
    rw [dropS pr 2 pr_len panels s4 hb6]
    conv => whnf
    rcases bt (decide ((ix panels s4).1 = s2)) with hb7 | hb7
    · rw [hb7]
      conv => whnf
      replace h := it_t hb7 h
      obtain ⟨hb8, h⟩ := gd_some h
      refine ⟨hb8, ?_⟩
      rw [dropS pr 2 pr_len panels s4 hb8]
      conv => whnf
      obtain ⟨hb9, h⟩ := gd_some h
      refine ⟨by first | rfl | simp | exact flatLen pr _ pr_len _, by have := hb9; omega, rfl, hb9, ?_⟩
      erw [apndS pr s3 (ix panels s4)]
      conv => whnf
      exact ⟨m, Nat.lt_succ_self m, (s3 ++ [(ix panels s4)]), (w (s4 + (1 : Int))), rfl, rfl, h⟩
    · rw [hb7]
      conv => whnf
      replace h := it_f hb7 h
      exact ⟨m, Nat.lt_succ_self m, s3, (w (s4 + (1 : Int))), rfl, rfl, h⟩
  · rw [hb5]
    conv => whnf
    replace h := it_f hb5 h
    exact hkl2_0 _ _ _ _ _ _ _ _ _ _ _ _ _ _ _ _ _ _ _ _ _ _ _ _ _ _ _ _ _ _ _ _ _ _ _ _ _ _ _ _ _ _ _ _ _ _ _ _ _ _ _ _ _ _ _ _ _ _ _ _ h
theorem x9_l1_ok {b : (Int × (List Int) × Int × Int)} {panels : (List (Int × Int))} {kl1_0 : Int → Option Bool} {s1 : Int} {s2 : Int} {v : Bool} {Q : Ex → List AV → List AObj → Prop}   (hR : ∀ T H, RetW [.tmp 4] (B v) .ret T H → Q .ret T H) (hkl1_0 : ∀ (z2 : Int) (u0 : AV) (u1 : AV) (u2 : AV) (u4 : AV) (u6 : AV) (u7 : AV) (u8 : AV) (u9 : AV) (u10 : AV) (u11 : AV) (u12 : AV) (u13 : AV) (u14 : AV) (u15 : AV) (u16 : AV) (u17 : AV) (u18 : AV) (u19 : AV) (u20 : AV) (u21 : AV) (u22 : AV) (u23 : AV) (u24 : AV) (u25 : AV) (u26 : AV) (u27 : AV) (u28 : AV) (u29 : AV) (u30 : AV) (u31 : AV) (u32 : AV) (u33 : AV) (u34 : AV) (u35 : AV) (u36 : AV) (u37 : AV) (u38 : AV) (u39 : AV) (u40 : AV) (u41 : AV) (u42 : AV) (u43 : AV) (u44 : AV) (u45 : AV) (u46 : AV) (u47 : AV) (u48 : AV) (u49 : AV) (u50 : AV) (u51 : AV) (u52 : AV) (u53 : AV) (u54 : AV) (u55 : AV) (u56 : AV) (u57 : AV) (u58 : AV) (u59 : AV) (u60 : AV) (u61 : AV) (u62 : AV) (u63 : AV) (u64 : AV) (o1 : AObj), kl1_0 z2 = some v → Q (.exit 0) [u0, u1, u2, J, u4, (I z2), u6, u7, u8, u9, u10, u11, u12, u13, u14, u15, u16, u17, u18, u19, u20, u21, u22, u23, u24, u25, u26, u27, u28, u29, u30, u31, u32, u33, u34, u35, u36, u37, u38, u39, u40, u41, u42, u43, u44, u45, u46, u47, u48, u49, u50, u51, u52, u53, u54, u55, u56, u57, u58, u59, u60, u61, u62, u63, u64] [o1]) {T : List AV} (hT : zipKeep [o_,i_,i_,o_,o_,i_,o_,i_,o_,o_,o_,o_,o_,o_,o_,o_,o_,o_,o_,o_,o_,o_,o_,o_,o_,o_,o_,o_,o_,o_,o_,o_,o_,o_,o_,o_,o_,o_,o_,o_,o_,o_,o_,o_,o_,o_,o_,o_,o_,o_,o_,o_,o_,o_,o_,o_,o_,o_,o_,o_,o_,o_,o_,o_,o_] T = slots 65 [(1, (.lst (panels.flatMap pr) panels.length .shared)), (2, (.ptr 0 0)), (5, (I s1)), (7, (I s2))]) (h : x9_l1 b panels kl1_0 FU s1 s2 = some v) :
    wpR Tryz.prog ann9 9 0 none xrc9_2 T [AObj.cells [(I b.1), (.lst (b.2.1.map I) b.2.1.length .shared), (I b.2.2.1), (I b.2.2.2)]] Q := by
  unfold xrc9_2
  obtain ⟨c_1, g_1⟩ : ∃ c, xrc9_1 = c := ⟨_, rfl⟩
  rw [g_1]
  refine wp_loop hT ?_
  refine .intro (fun m T H => ∃ (s1 : Int) (s2 : Int), T = slots 65 [(1, (.lst (panels.flatMap pr) panels.length .shared)), (2, (.ptr 0 0)), (5, (I s1)), (7, (I s2))] ∧ H = [AObj.cells [(I b.1), (.lst (b.2.1.map I) b.2.1.length .shared), (I b.2.2.1), (I b.2.2.2)]] ∧ x9_l1 b panels kl1_0 m s1 s2 = some v) FU ⟨s1, s2, rfl, rfl, h⟩ ?_
  clear h hT
  rintro m T H ⟨s1, s2, rfl, rfl, h⟩
  cases m
  · exact none_ne h
  rename_i m
  rw [x9_l1.eq_2] at h
  conv => whnf
  rcases bt (decide (s2 ≤ (20 : Int))) with hb4 | hb4
  · rw [hb4]
    conv => whnf
    replace h := it_t hb4 h
    subst g_1
    refine x9_l2_ok ?_ (by exact rfl) h
    intro z1 u0 u4 u6 u9 u10 u11 u12 u13 u14 u15 u16 u17 u18 u19 u20 u21 u22 u23 u24 u25 u26 u27 u28 u29 u30 u31 u32 u33 u34 u35 u36 u37 u38 u39 u40 u41 u42 u43 u44 u45 u46 u47 u48 u49 u50 u51 u52 u53 u54 u55 u56 u57 u58 u59 u60 u61 u62 u63 u64 h
    conv => whnf
    obtain ⟨r3, hb10, h⟩ := bd_some h
    refine ⟨(allc (pu_agg (allc rfl (allc (pu_map (fun _ => rfl) _ _ _) (allc rfl (allc rfl rfl))))) (allc (pu_flat (fun _ => (allc rfl (allc rfl rfl))) _ _ _) rfl)), _, x50_ok hb10, ?_⟩
    conv => whnf
    rcases bt r3.2 with hb11 | hb11
    · rw [hb11]
      conv => whnf
      replace h := it_t hb11 h
      exact ⟨m, Nat.lt_succ_self m, (w (s1 - r3.1)), (w (s2 + (1 : Int))), rfl, rfl, h⟩
    · rw [hb11]
      conv => whnf
      replace h := it_f hb11 h
      obtain rfl := Option.some.inj h
      exact hR _ _ ⟨.inr rfl, _, rfl, _, frz_pure rfl, rfl⟩
  · rw [hb4]
    conv => whnf
    replace h := it_f hb4 h
    exact hkl1_0 _ _ _ _ _ _ _ _ _ _ _ _ _ _ _ _ _ _ _ _ _ _ _ _ _ _ _ _ _ _ _ _ _ _ _ _ _ _ _ _ _ _ _ _ _ _ _ _ _ _ _ _ _ _ _ _ _ _ _ _ _ _ _ _ _ h
theorem x9_ok {b : (Int × (List Int) × Int × Int)} {panels : (List (Int × Int))} {v : Bool} (h : x9 b panels = some v) : PO 9 [(.agg [(I b.1), (.lst (b.2.1.map I) b.2.1.length .shared), (I b.2.2.1), (I b.2.2.2)]), (.lst (panels.flatMap pr) panels.length .shared)] (B v) := by
  refine fn_pureW hmix lxx9 rfl rfl fun Q hQ => ?_
  have hR : ∀ T H, RetW [.tmp 4] (B v) .ret T H → Q .ret T H := fun T H hh => hQ _ T H hh
  unfold x9 at h
  unfold xrc9
  obtain ⟨c_2, g_2⟩ : ∃ c, xrc9_2 = c := ⟨_, rfl⟩
  rw [g_2]
  conv => whnf
  obtain ⟨r1, hb1, h⟩ := bd_some h
  refine ⟨(allc (pu_agg (allc rfl (allc (pu_map (fun _ => rfl) _ _ _) (allc rfl (allc rfl rfl))))) (allc (pu_flat (fun _ => (allc rfl (allc rfl rfl))) _ _ _) rfl)), _, x45_ok hb1, ?_⟩
  conv => whnf
  cases r1
  · conv => whnf
    replace h := it_f rfl h
    obtain ⟨r5, hb14, h⟩ := bd_some h
    refine ⟨rfl, _, x17_ok hb14, ?_⟩
    conv => whnf
    obtain rfl := Option.some.inj h
    exact hR _ _ ⟨.inr rfl, _, rfl, _, frz_pure rfl, rfl⟩
  · conv => whnf
    replace h := it_t rfl h
    obtain ⟨r2, hb2, h⟩ := bd_some h
    refine ⟨(allc (pu_agg (allc rfl (allc (pu_map (fun _ => rfl) _ _ _) (allc rfl (allc rfl rfl))))) (allc (pu_flat (fun _ => (allc rfl (allc rfl rfl))) _ _ _) rfl)), _, x50_ok hb2, ?_⟩
    conv => whnf
    rcases bt r2.2 with hb3 | hb3
    · rw [hb3]
      conv => whnf
      replace h := it_t hb3 h
      subst g_2
      refine x9_l1_ok ?_ ?_ (by exact rfl) h
      · exact fun T H hh => hR T H hh
      · intro z2 u0 u1 u2 u4 u6 u7 u8 u9 u10 u11 u12 u13 u14 u15 u16 u17 u18 u19 u20 u21 u22 u23 u24 u25 u26 u27 u28 u29 u30 u31 u32 u33 u34 u35 u36 u37 u38 u39 u40 u41 u42 u43 u44 u45 u46 u47 u48 u49 u50 u51 u52 u53 u54 u55 u56 u57 u58 u59 u60 u61 u62 u63 u64 o1 h
        conv => whnf
        rcases bt (decide (z2 = (0 : Int))) with hb12 | hb12
        · rw [hb12]
          conv => whnf
          replace h := it_t hb12 h
          obtain ⟨r4, hb13, h⟩ := bd_some h
          refine ⟨rfl, _, x17_ok hb13, ?_⟩
          conv => whnf
          obtain rfl := Option.some.inj h
          exact hR _ _ ⟨.inr rfl, _, rfl, _, frz_pure rfl, rfl⟩
        · rw [hb12]
          conv => whnf
          replace h := it_f hb12 h
          obtain rfl := Option.some.inj h
          exact hR _ _ ⟨.inr rfl, _, rfl, _, frz_pure rfl, rfl⟩
    · rw [hb3]
      conv => whnf
      replace h := it_f hb3 h
      obtain rfl := Option.some.inj h
      exact hR _ _ ⟨.inr rfl, _, rfl, _, frz_pure rfl, rfl⟩
end Go.Proofs.YtbnbjjgagikobaaGreat.Ab

/-
  The plain law of Hours, and PressHeats.
-/
namespace Go.Proofs.YtbnbjjgagikobaaGreat.Ab
open Go
set_option maxRecDepth 20000
set_option maxHeartbeats 4000000
theorem pig : ∀ (l br : List Int), l.Nodup → (∀ x ∈ l, x ∈ br) → l.length ≤ br.length
  | [], _, _, _ => Nat.zero_le _
  | x :: l, br, hn, h => by
    have hx := h x (by simp)
    have hn := List.nodup_cons.1 hn
    have h1 := pig l (br.erase x) hn.2 fun y hy => (List.mem_erase_of_ne (fun e => hn.1 (by rw [← e]; exact hy))).2 (h y (by simp [hy]))
    rw [List.length_erase_of_mem hx] at h1
    have := List.length_pos_of_mem hx
    simp only [List.length_cons]; omega
theorem nodup_cast (o : Nat) : ((List.range o).map fun (i : Nat) => (i : Int)).Nodup := by
  rw [List.nodup_iff_pairwise_ne, List.pairwise_map]
  exact List.nodup_range.imp fun h e => h (by omega)
theorem whole_pos {b : Bed} (hb : BedOk b) : 0 < (wholeL b.1.toNat b.2.1).length := by
  rcases Nat.eq_zero_or_pos (wholeL b.1.toNat b.2.1).length with h0 | h0
  · exfalso
    have h1 : ∀ x ∈ (List.range b.1.toNat).map (fun (i : Nat) => (i : Int)), x ∈ b.2.1 := by
      intro x hx
      obtain ⟨i, hi, rfl⟩ := List.mem_map.1 hx
      rcases Classical.em ((i : Int) ∈ b.2.1) with h | h
      · exact h
      · exfalso
        have : (i : Int) ∈ wholeL b.1.toNat b.2.1 := by
          unfold wholeL wholeN
          exact List.mem_map.2 ⟨i, List.mem_filter.2 ⟨hi, by simp [h]⟩, rfl⟩
        rw [List.length_eq_zero_iff.1 h0] at this
        cases this
    have h2 := pig _ _ (nodup_cast b.1.toNat) h1
    have h3 := hb.lt
    have h4 := hb.o1
    simp at h2
    omega
  · exact h0
/-- What panels without an error are like. -/
structure PsOk (ps : List (Int × Int)) : Prop where
  len : ps.length ≤ 12
  heat : ∀ p ∈ ps, 0 ≤ p.1 ∧ p.1 ≤ 20
  hour : ∀ p ∈ ps, 1 ≤ p.2 ∧ p.2 ≤ 24
theorem badP_false {p : Int × Int} : badP p = false ↔ (0 ≤ p.1 ∧ p.1 ≤ 20) ∧ (1 ≤ p.2 ∧ p.2 ≤ 24) := by
  unfold badP; rw [Bool.or_eq_false_iff, outOf_false, outOf_false]
theorem pErr_iff (ps : List (Int × Int)) : pErr ps = 0 ↔ PsOk ps := by
  unfold pErr
  constructor
  · intro h
    split at h
    · cases h
    · split at h
      · cases h
      · rename_i h1 h2
        rw [Bool.not_eq_true, List.any_eq_false] at h2
        exact ⟨by omega, fun p hp => (badP_false.1 (by simpa using h2 p hp)).1, fun p hp => (badP_false.1 (by simpa using h2 p hp)).2⟩
  · intro h
    rw [if_neg (by have := h.len; omega), if_neg]
    rw [Bool.not_eq_true, List.any_eq_false]
    exact fun p hp => by simp [badP_false.2 ⟨h.heat p hp, h.hour p hp⟩]
theorem PsOk.hrs {ps : List (Int × Int)} (h : PsOk ps) : hrsOk ps := fun p hp => by have := h.hour p hp; omega
theorem PsOk.sub {ps : List (Int × Int)} (h : PsOk ps) (f : Int × Int → Bool) : PsOk (ps.filter f) :=
  ⟨Nat.le_trans (List.length_filter_le _ _) h.len, fun p hp => h.heat p (List.mem_filter.1 hp).1, fun p hp => h.hour p (List.mem_filter.1 hp).1⟩
theorem ofL_range (ps : List (Int × Int)) (heat : Int) : ∀ i ∈ ofL ps heat, 0 ≤ i ∧ i < (ps.length : Int) := by
  intro x hx
  obtain ⟨i, hi, rfl⟩ := List.mem_iff_getElem.1 hx
  have hi' : i < (idxs ps heat).length := by rw [ofL_len] at hi; exact hi
  have := ins_pr (lt := longer ps) (d := (idxs ps heat).toArray) (a := 0) (b := (idxs ps heat).length) (Pr := fun i => 0 ≤ i ∧ i < (ps.length : Int)) (fun y hy => by rw [getElem!_pos _ y hy]; exact idxs_range ps heat _ (by simp)) (by simp) i (by simpa using hi')
  rw [getElem!_pos _ i (by rw [ins_size]; simpa using hi')] at this
  exact this
theorem r70_eq {x : Bench} (ho : hrsOk x.2.1) {e : List Int} {t : Int} (he : e ≠ []) (hr : ∀ i ∈ e, 0 ≤ i ∧ i < (x.2.1.length : Int)) (ht : 0 ≤ t ∧ t ≤ 1000000) : x70_r1 x t e = some (t + (ix x.2.1 (e.headD 0)).2) ∧ 0 ≤ (ix x.2.1 (e.headD 0)).2 ∧ (ix x.2.1 (e.headD 0)).2 ≤ 24 := by
  cases e with
  | nil => exact absurd rfl he
  | cons a e =>
    have e0 : ix (a :: e) (0 : Int) = a := ix_nat (k := 0) (l := a :: e) (by simp)
    have ha := hr a (by simp)
    have h1 := ho _ (show ix x.2.1 a ∈ x.2.1 by rw [ix_of ha]; exact List.getElem_mem _)
    refine ⟨?_, h1⟩
    unfold x70_r1
    rw [e0, gd_pos ⟨by omega, by simp only [List.length_cons]; omega⟩, gd_pos ha, w_id (by omega)]
    rfl
theorem fold70 {x : Bench} (ho : hrsOk x.2.1) : ∀ (L : List (List Int)) (t : Int), (∀ e ∈ L, e ≠ [] ∧ ∀ i ∈ e, 0 ≤ i ∧ i < (x.2.1.length : Int)) → 0 ≤ t → t + 24 * L.length ≤ 1000000 → foldO (x70_r1 x) L t = some (t + (L.map fun e => (ix x.2.1 (e.headD 0)).2).sum)
  | [], t, _, _, _ => by simp [foldO]
  | e :: L, t, h, h0, h1 => by
    have h2 := h e (by simp)
    simp only [List.length_cons] at h1
    obtain ⟨h3, h4, h5⟩ := r70_eq ho h2.1 h2.2 (t := t) (by omega)
    rw [foldO, h3, Option.bind_some, fold70 ho L _ (fun e he => h e (by simp [he])) (by omega) (by omega), List.map_cons, List.sum_cons, Int.add_assoc]
theorem sum_heads (n : Nat) (hn : 0 < n) (ps : List (Int × Int)) (heat : Int) : ((chunks n (ofL ps heat)).map fun e => (ix ps (e.headD 0)).2).sum = hH n (hrs ps heat) := by
  unfold hH heads
  rw [← ofL_hrs, chunks_map, List.map_map]
  congr 1
  apply List.map_congr_left
  intro e he
  cases e with
  | nil => exact absurd rfl (chunk_ne hn he)
  | cons a e => rfl
theorem x70_l1_eq {x : Bench} {N : Nat} (hN : 1 ≤ N ∧ N ≤ 1000) (ho : PsOk x.2.1) {k : Int → Option Int} : ∀ (m i : Nat) (z : Int), z = i → i ≤ 21 → 21 - i < m → x70_l1 x (N : Int) k m z (hSum N x.2.1 i) = k (hSum N x.2.1 21)
  | 0, i, _, _, _, h => absurd h (by omega)
  | m + 1, i, _, rfl, hi, hm => by
    rw [x70_l1]
    by_cases h : i < 21
    · have hl := ho.len
      have hi2 := idxs_len x.2.1 (i : Int)
      have hs := hSum_le (n := N) (by omega) ho.hrs i
      have hc := cnt_le (fun p hp => (ho.heat p hp).1) i (ps := x.2.1)
      have hk := chunks_cnt (n := N) (by omega) (ofL x.2.1 (i : Int))
      rw [ofL_len] at hk
      have e1 : x76 x (i : Int) = some (ofL x.2.1 (i : Int)) := if_pos (by omega)
      have e2 : x75 (ofL x.2.1 (i : Int)) (N : Int) = some () := if_neg (by rw [decide_eq_true_eq]; omega)
      have e3 : s98 (ofL x.2.1 (i : Int)) (N : Int) = some (chunks N (ofL x.2.1 (i : Int))) := by
        unfold s98; rw [if_pos ⟨by omega, by omega, by rw [ofL_len]; omega⟩, Int.toNat_natCast]
      have e4 := fold70 (x := x) ho.hrs (chunks N (ofL x.2.1 (i : Int))) (hSum N x.2.1 i) (fun e he => ⟨chunk_ne (by omega) he, fun j hj => ofL_range _ _ j (chunk_mem he j hj)⟩) (by omega) (by omega)
      rw [sum_heads N (by omega), ← hSum_succ] at e4
      rw [if_pos (decide_eq_true (by omega)), e1, Option.bind_some, e2, Option.bind_some, e3, Option.bind_some, e4, Option.bind_some, w_succ i (by omega)]
      exact x70_l1_eq hN ho m (i + 1) _ rfl (by omega) (by omega)
    · obtain rfl : i = 21 := by omega
      rw [if_neg (by decide)]
theorem x70_eq {x : Bench} {N : Nat} (hN : 1 ≤ N ∧ N ≤ 1000) (ho : PsOk x.2.1) : x70 x (N : Int) = some (hSum N x.2.1 21) := by
  have := x70_l1_eq (x := x) hN ho (k := fun z => some z) FU 0 0 rfl (by omega) (FU_lt (by omega))
  rw [x70]
  exact this
/-- How many openings are whole. -/
def wn (b : Bed) : Nat := (wholeL b.1.toNat b.2.1).length
theorem wn_pos {b : Bed} (hb : BedOk b) : 1 ≤ wn b ∧ wn b ≤ 10 := ⟨whole_pos hb, Nat.le_trans (wholeL_len _ _) (by have := hb.o10; omega)⟩
theorem x69_eq {b : Bed} (hb : bErr b = 0) (hl : b.2.1.length ≤ 20) {ps : List (Int × Int)} (hp : PsOk ps) : x69 b ps = some (some (b, ps, wholeL b.1.toNat b.2.1, wantL ps), 0) := by
  rw [x69, x20_eq b (by omega), Option.bind_some, hb, if_neg (by decide), x22_eq, Option.bind_some, (pErr_iff ps).2 hp, if_neg (by decide), x59_eq (bedOk hb) hp.heat (by have := hp.len; omega), Option.bind_some]
theorem x33_eq {b : Bed} (hb : bErr b = 0) (hl : b.2.1.length ≤ 20) {ps : List (Int × Int)} (hp : PsOk ps) : x33 b ps = some (hSum (wn b) ps 21, 0) := by
  have hw := wn_pos (bedOk hb)
  rw [x33, x69_eq hb hl hp, Option.bind_some]
  show (if (decide ((0 : Int) ≠ (0 : Int))) = true then _ else _) = _
  rw [if_neg (by decide)]
  have := x70_eq (x := (b, ps, wholeL b.1.toNat b.2.1, wantL ps)) (N := wn b) ⟨by omega, by omega⟩ hp
  show (x70 (b, ps, wholeL b.1.toNat b.2.1, wantL ps) ((wholeL b.1.toNat b.2.1).length : Int)).bind _ = _
  rw [show (wholeL b.1.toNat b.2.1).length = wn b from rfl, this]; rfl
theorem hSum_in {n : Nat} (hn : 0 < n) {ps : List (Int × Int)} (hp : PsOk ps) (i : Nat) : 0 ≤ hSum n ps i ∧ hSum n ps i ≤ 288 := by
  have hs := hSum_le hn hp.hrs i
  have hc := cnt_le (fun p h => (hp.heat p h).1) i (ps := ps)
  have := hp.len
  omega
theorem x50_eq {b : Bed} (hb : bErr b = 0) (hl : b.2.1.length ≤ 20) {ps : List (Int × Int)} (hp : PsOk ps) : x50 b ps = some (hSum (wn b) ps 21, true) := by
  have hw := wn_pos (bedOk hb)
  have hh := hSum_in (n := wn b) (by omega) hp 21
  rw [x50, x33_eq hb hl hp, Option.bind_some]
  show (if decide ((0 : Int) = 0) = true then if decide ((0 : Int) ≤ hSum (wn b) ps 21) = true then some (hSum (wn b) ps 21, decide (hSum (wn b) ps 21 ≤ 288)) else _ else _) = _
  rw [if_pos (by decide), if_pos (decide_eq_true hh.1), decide_eq_true hh.2]
theorem x66_eq {b : Bed} (hl : b.2.1.length ≤ 20) (ps : List (Int × Int)) : x66 b ps = some (if bErr b = 0 then pErr ps else bErr b) := by
  rw [x66, x21_eq b (by omega), Option.bind_some]
  by_cases h : bErr b = 0
  · rw [if_pos h, h, if_neg (by decide), x23_eq]; rfl
  · rw [if_neg h, if_pos (decide_eq_true h)]; rfl
/-- Are a bed and panels such as the laws are about? -/
def FineOk (b : Bed) (ps : List (Int × Int)) : Prop := b.2.1.length ≤ 20 ∧ bErr b = 0 ∧ PsOk ps
theorem x45_eq (b : Bed) (ps : List (Int × Int)) : ∃ r, x45 b ps = some r ∧ (r = true → FineOk b ps) := by
  rw [x45, x16_eq, Option.bind_some]
  by_cases h : 20 < b.2.1.length ∨ 20 < ps.length
  · rw [if_pos (by simpa using h)]; exact ⟨_, rfl, fun h => by cases h⟩
  · rw [if_neg (by simpa using h), x66_eq (by omega), Option.bind_some]
    refine ⟨_, rfl, fun h2 => ?_⟩
    have h3 := of_decide_eq_true h2
    by_cases hb : bErr b = 0
    · rw [if_pos hb] at h3; exact ⟨by omega, hb, (pErr_iff ps).1 h3⟩
    · rw [if_neg hb] at h3; exact absurd h3 hb
/-! ### PressHeats -/
theorem hrs_one (ps : List (Int × Int)) (h h' : Int) : hrs (ps.filter fun p => decide (p.1 = h)) h' = if h' = h then hrs ps h else [] := by
  unfold hrs
  rw [List.filter_filter]
  by_cases e : h' = h
  · rw [if_pos e]
    congr 1
    apply List.filter_congr
    intro p _
    rw [e]; simp
  · rw [if_neg e, List.filter_eq_nil_iff.2]; rfl
    intro p _
    simp
    intro h1 h2
    exact e (h1.symm.trans h2)
theorem hSum_one {n : Nat} (hn : 0 < n) (ps : List (Int × Int)) (i : Nat) : ∀ j, hSum n (ps.filter fun p => decide (p.1 = (i : Int))) j = if i < j then hH n (hrs ps (i : Int)) else 0
  | 0 => rfl
  | j + 1 => by
    rw [hSum_succ, hSum_one hn ps i j, hrs_one]
    by_cases h1 : i < j
    · rw [if_pos h1, if_neg (by omega), hH_nil n hn, if_pos (by omega), Int.add_zero]
    · rw [if_neg h1]
      by_cases h2 : i = j
      · rw [if_pos (by rw [h2]), if_pos (by omega), Int.zero_add]
      · rw [if_neg (by omega), if_neg (by omega), hH_nil n hn, Int.zero_add]
theorem x9_l2_eq {ps : List (Int × Int)} {h : Int} {k : List (Int × Int) → Option Bool} (hl : ps.length ≤ 1000) : ∀ (m i : Nat) (z : Int), z = i → i ≤ ps.length → ps.length - i < m → x9_l2 ps h k m ((ps.take i).filter fun p => decide (p.1 = h)) z = k (ps.filter fun p => decide (p.1 = h))
  | 0, i, _, _, _, h => absurd h (by omega)
  | m + 1, i, _, rfl, hi, hm => by
    rw [x9_l2]
    by_cases hlt : i < ps.length
    · have ih := x9_l2_eq (k := k) (h := h) hl m (i + 1) _ rfl (by omega) (by omega)
      have hle : ((ps.take i).filter fun p => decide (p.1 = h)).length ≤ 1000 := Nat.le_trans (List.length_filter_le _ _) (by rw [List.length_take]; omega)
      rw [List.take_add_one, List.getElem?_eq_getElem hlt, Option.toList_some, List.filter_append] at ih
      rw [iflt hlt, gdi hlt, ix_nat hlt, w_succ i (by omega)]
      by_cases h1 : ps[i].1 = h
      · rw [if_pos (decide_eq_true h1), gdi hlt, gd_pos (by omega), ← ih]
        simp [h1]
      · rw [if_neg (by simpa using h1), ← ih]
        simp [h1]
    · obtain rfl : i = ps.length := by omega
      rw [ifge hlt, List.take_length]
theorem x9_l1_eq {b : Bed} {ps : List (Int × Int)} (hf : FineOk b ps) {k : Int → Option Bool} : ∀ (m i : Nat) (z : Int), z = i → i ≤ 21 → 21 - i < m → x9_l1 b ps k m (hSum (wn b) ps 21 - hSum (wn b) ps i) z = k 0
  | 0, i, _, _, _, h => absurd h (by omega)
  | m + 1, i, _, rfl, hi, hm => by
    have hw := wn_pos (bedOk hf.2.1)
    have hl := hf.2.2.len
    rw [x9_l1]
    by_cases h : i < 21
    · have h1 := hSum_in (n := wn b) (by omega) hf.2.2 21
      have h2 := hSum_in (n := wn b) (by omega) hf.2.2 i
      have h3 := hH_le (n := wn b) (by omega) (hrs_in hf.2.2.hrs (i : Int))
      have h4 : (hrs ps (i : Int)).length ≤ ps.length := by unfold hrs; rw [List.length_map]; exact List.length_filter_le _ _
      have e1 := fun k => x9_l2_eq (ps := ps) (h := (i : Int)) (k := k) (by omega) FU 0 0 rfl (Nat.zero_le _) (FU_lt (by omega))
      rw [if_pos (decide_eq_true (by omega))]
      refine (e1 _).trans ?_
      rw [x50_eq hf.2.1 hf.1 (hf.2.2.sub _), Option.bind_some, if_pos rfl, hSum_one (by omega), if_pos h, w_id (by omega), w_succ i (by omega)]
      have := x9_l1_eq hf (k := k) m (i + 1) _ rfl (by omega) (by omega)
      rw [hSum_succ _ _ i] at this
      rw [← this]
      congr 1
      omega
    · obtain rfl : i = 21 := by omega
      rw [if_neg (by decide), Int.sub_self]
theorem x9_eq (b : Bed) (ps : List (Int × Int)) : x9 b ps = some true := by
  rw [x9]
  obtain ⟨r, hr, hf⟩ := x45_eq b ps
  rw [hr, Option.bind_some]
  cases r with
  | false => rw [if_neg (by decide)]; rfl
  | true =>
    have hf := hf rfl
    have h1 := x9_l1_eq hf (k := fun z2 => if (decide (z2 = (0 : Int))) = true then (x17).bind fun r4 => some r4 else some false) FU 0 0 rfl (by omega) (FU_lt (by omega))
    rw [if_pos rfl, x50_eq hf.2.1 hf.1 hf.2.2, Option.bind_some, if_pos rfl]
    rw [show hSum (wn b) ps 0 = 0 from rfl, Int.sub_zero] at h1
    refine h1.trans ?_
    rw [if_pos (by decide)]; rfl
theorem pressHeats_ok (b : Bed) (ps : List (Int × Int)) : PO 9 [.agg [I b.1, L1 b.2.1, I b.2.2.1, I b.2.2.2], PL ps] (B true) := x9_ok (x9_eq b ps)
end Go.Proofs.YtbnbjjgagikobaaGreat.Ab
